import PyProof.Rows.All
import Wide.All
import OpenK.AllK
import Wide.FinOn
import KE.KStateDown
import KE.GoesEnum
import HandS.ForMost
import HandS.Exc
import HandS.Defaults
import HandS.IsInst
import HandS.Head0
import HandS.Head1
import HandS.Head2
import HandS.HeadEnd
import HandS.HeadHook1
import HandS.HeadHook2
import HandS.HeadHook4
import HandS.EndTab
import HandS.ExcIs
import HandS.ExcCtx
import HandS.Lambda
import PySem.Challenge.RW_flashkeep_k09_weathers_known
import Lean
import HandS.TryOnly
import HandS.TryMany
import HandS.ExcOwn
import HandS.WordsExc
import HandS.Wide
import HandS.Style
import HandS.Zip
import HandS.TupAny
import HandS.Flow
import HandS.Deep
import HandS.More
import HandS.SetKeys
import HandS.CallSlots
import HandS.EndBits
import HandS.Evl
import PyProof.ReprRoads
import PyProof.ReprLen
import HandS.Strs
import PyProof.Rows.IntBool
import HandS.TupMul
import HandS.HotCalls
import HandS.SortInts
import KE.KTryMore
import HandS.SetFor
import HandS.TupSets
import KE.DataMinMax
import HandS.RevTup
import HandS.MakeKw
import HandS.MakeKwOnly
import HandS.SetBool
import HandS.ListItems
import HandS.Conv
import HandS.DictComp
import HandS.Text
import HandS.FStr
import HandS.RaiseMore
set_option Elab.async false
set_option linter.all false
set_option maxRecDepth 100000
set_option maxHeartbeats 4000000
/-! ## what the head's run is looked at by -/
namespace Fk
open PySem PySem.Spec PyProof.Rows L2 LamX
def obsK (fa : List He.Fa) (fn : List He.DefD) (ex : PySem.W.Frag → Bool) (K : PySem.W.Frag) : He.AlD × Bool := (He.obsD fa fn K, ex K)
def fldOf : Data → Option (Array Value)
  | .fields vs => some vs
  | _ => none
def funOf : Data → Option FuncData
  | .func fd => some fd
  | _ => none
def refOf : Value → Option Addr
  | .ref a => some a
  | _ => none
/-- the code object of a def and its table -/
def tabOf (K : PySem.W.Frag) (f : Addr) : Addr × Addr := match (K.lookup f).bind fun o => (funOf o.data).bind fun fd => refOf fd.code with
  | some c => match (K.lookup c).bind fun o => (fldOf o.data).bind fun vs => (vs[11]?).bind refOf with
    | some P => (c, P)
    | none => (c, 0)
  | none => (0, 0)
abbrev mkr (K : PySem.W.Frag) (x : Str) : Addr × Addr := tabOf K (He.ga K x)
/-- the head's facts: the objects at L -/
def hookA (L : List Addr) (fa : List He.Fa) (fn : List He.DefD) (ex : PySem.W.Frag → Bool) : PySem.W.Hook where
  α := He.AlD × Bool
  obs := fun s => obsK fa fn ex (He.frG s.heap.get? L)
  val := fun _ => (He.valD fn, true)
  says := fun _ h => ∃ K : PySem.W.Frag, K.In h ∧ obsK fa fn ex K = (He.valD fn, true)
  of := fun _ _ e => ⟨_, He.frG_in, e⟩
  keeps := fun _ _ _ ⟨K, hK, c⟩ k => ⟨K, PySem.W.Frag.In.keeps hK k, c⟩
noncomputable def obA (L : List Addr) (fa : List He.Fa) (fn : List He.DefD) (ex : PySem.W.Frag → Bool) (s : PySem.W.SharedT) : He.AlD × Bool := obsK fa fn ex (He.frG (HandSHeadRun.getT s) L)
theorem obA_eq (L : List Addr) (fa : List He.Fa) (fn : List He.DefD) (ex : PySem.W.Frag → Bool) (s : PySem.W.SharedT) : obA L fa fn ex s = (hookA L fa fn ex).obs s.abs := by
  have e : HandSHeadRun.getT s = s.abs.heap.get? := funext (HandSHeadRun.getT_eq s)
  show obsK fa fn ex (He.frG (HandSHeadRun.getT s) L) = obsK fa fn ex (He.frG s.abs.heap.get? L)
  rw [e]
section
variable {x : Option PySem.W.SharedT} {L : List Addr} {mk : List Str} {fa : List He.Fa} {fn : List He.DefD} {ex : PySem.W.Frag → Bool} {β γ : Type} {f1 : PySem.W.SharedT → β} {f2 : PySem.W.SharedT → γ} {a : β} {b : γ}
theorem run_A (h1 : x.map (fun s => (f1 s, f2 s)) = some (a, b)) (h2 : x.map (fun s => (fa.all fun f => f.ok (He.frG (HandSHeadRun.getT s) L), ex (He.frG (HandSHeadRun.getT s) L))) = some (true, true))
    (h3 : x.map (fun s => (fn.all fun d => d.ok (He.frG (HandSHeadRun.getT s) L), fn.map fun d => He.fnW (He.frG (HandSHeadRun.getT s) L) d.at_)) = some (true, fn.map He.DefD.val)) : x.map (fun s => (f1 s, f2 s, obA L fa fn ex s)) = some (a, b, (He.valD fn, true)) := by
  cases x with
  | none => cases h1
  | some s =>
    simp only [Option.map_some, Option.some.injEq, Prod.mk.injEq] at h1 h2 h3 ⊢
    refine ⟨h1.1, h1.2, ?_⟩
    show ((((fa.all fun f => f.ok (He.frG (HandSHeadRun.getT s) L)) && fn.all fun d => d.ok (He.frG (HandSHeadRun.getT s) L)), fn.map fun d => He.fnW (He.frG (HandSHeadRun.getT s) L) d.at_), ex (He.frG (HandSHeadRun.getT s) L)) = ((true, fn.map He.DefD.val), true)
    rw [h2.1, h2.2, h3.1, h3.2]
    rfl
end
end Fk
namespace Fk
namespace Hd
open PySem PySem.Spec PyProof.Rows L2
def adr0 : List Nat := [3, 6, 4, 34, 35, 21, 20, 28, 27, 33, 32, 42, 41, 47, 46, 54, 53, 61, 60, 68, 67, 75, 74, 82, 81, 89, 88, 96, 95, 101, 100, 108, 107, 113, 112, 118, 117, 125, 124]
def adr : List Nat := adr0
def top (i : Nat) : Stmt := PySem.Challenge.pw_flashkeep_k09_weathers_known.main.body.getD i (.Pass ⟨0, 0, 0, 0⟩)
abbrev z_is_whole : Stmt := top 1
abbrev z_is_within : Stmt := top 2
abbrev z_rises : Stmt := top 3
abbrev z_is_fault : Stmt := top 10
abbrev z_is_weather : Stmt := top 11
abbrev z__law_cell_at : Stmt := top 13
abbrev z__law_state : Stmt := top 14
abbrev z__law_choice : Stmt := top 15
abbrev z__law_odd : Stmt := top 16
abbrev z__law_same : Stmt := top 17
abbrev z__law_whole : Stmt := top 18
abbrev z__law_bent : Stmt := top 19
abbrev z__law_any_weather : Stmt := top 20
abbrev z__law_is_fault : Stmt := top 21
abbrev z__law_are_faults : Stmt := top 22
abbrev z__law_right : Stmt := top 23
abbrev z_law : Stmt := top 24
def mk : List Str := []
def dd_is_whole : He.DefD := ⟨("is_whole", none), "is_whole", "is_whole", defArgs z_is_whole, defBody z_is_whole, defScope z_is_whole, [], []⟩
def dd_is_within : He.DefD := ⟨("is_within", none), "is_within", "is_within", defArgs z_is_within, defBody z_is_within, defScope z_is_within, [], []⟩
def dd_rises : He.DefD := ⟨("rises", none), "rises", "rises", defArgs z_rises, defBody z_rises, defScope z_rises, [], []⟩
def dd_is_fault : He.DefD := ⟨("is_fault", none), "is_fault", "is_fault", defArgs z_is_fault, defBody z_is_fault, defScope z_is_fault, [], []⟩
def dd_is_weather : He.DefD := ⟨("is_weather", none), "is_weather", "is_weather", defArgs z_is_weather, defBody z_is_weather, defScope z_is_weather, [], []⟩
def dd__law_cell_at : He.DefD := ⟨("_law_cell_at", none), "_law_cell_at", "_law_cell_at", defArgs z__law_cell_at, defBody z__law_cell_at, defScope z__law_cell_at, [], []⟩
def dd__law_state : He.DefD := ⟨("_law_state", none), "_law_state", "_law_state", defArgs z__law_state, defBody z__law_state, defScope z__law_state, [], []⟩
def dd__law_choice : He.DefD := ⟨("_law_choice", none), "_law_choice", "_law_choice", defArgs z__law_choice, defBody z__law_choice, defScope z__law_choice, [], []⟩
def dd__law_odd : He.DefD := ⟨("_law_odd", none), "_law_odd", "_law_odd", defArgs z__law_odd, defBody z__law_odd, defScope z__law_odd, [], []⟩
def dd__law_same : He.DefD := ⟨("_law_same", none), "_law_same", "_law_same", defArgs z__law_same, defBody z__law_same, defScope z__law_same, [], []⟩
def dd__law_whole : He.DefD := ⟨("_law_whole", none), "_law_whole", "_law_whole", defArgs z__law_whole, defBody z__law_whole, defScope z__law_whole, [], []⟩
def dd__law_bent : He.DefD := ⟨("_law_bent", none), "_law_bent", "_law_bent", defArgs z__law_bent, defBody z__law_bent, defScope z__law_bent, [], []⟩
def dd__law_any_weather : He.DefD := ⟨("_law_any_weather", none), "_law_any_weather", "_law_any_weather", defArgs z__law_any_weather, defBody z__law_any_weather, defScope z__law_any_weather, [], []⟩
def dd__law_is_fault : He.DefD := ⟨("_law_is_fault", none), "_law_is_fault", "_law_is_fault", defArgs z__law_is_fault, defBody z__law_is_fault, defScope z__law_is_fault, [], []⟩
def dd__law_are_faults : He.DefD := ⟨("_law_are_faults", none), "_law_are_faults", "_law_are_faults", defArgs z__law_are_faults, defBody z__law_are_faults, defScope z__law_are_faults, [], []⟩
def dd__law_right : He.DefD := ⟨("_law_right", none), "_law_right", "_law_right", defArgs z__law_right, defBody z__law_right, defScope z__law_right, [], []⟩
def dd_law : He.DefD := ⟨("law", none), "law", "law", defArgs z_law, defBody z_law, defScope z_law, [], []⟩
def fn : List He.DefD := [dd_is_whole, dd_is_within, dd_rises, dd_is_fault, dd_is_weather, dd__law_cell_at, dd__law_state, dd__law_choice, dd__law_odd, dd__law_same, dd__law_whole, dd__law_bent, dd__law_any_weather, dd__law_is_fault, dd__law_are_faults, dd__law_right, dd_law]
def fa : List He.Fa := [.free "all", .free "bool", .free "int", .free "isinstance", .free "len", .free "list", .free "max", .free "min", .free "range", .free "repr", .free "set", .free "sorted", .free "str", .free "tuple", .free "zip", .glo "BAD", .glo "CUT", .int "MOST_FAULTS" 40, .int "MOST_STEP" 9999, .int "WORD_BITS" 47, .glo "is_whole", .glo "is_within", .glo "rises", .glo "is_fault", .glo "is_weather", .glo "_law_cell_at", .glo "_law_state", .glo "_law_choice", .glo "_law_odd", .glo "_law_same", .glo "_law_whole", .glo "_law_bent", .glo "_law_any_weather", .glo "_law_is_fault", .glo "_law_are_faults", .glo "_law_right", .glo "law"]
def ex (K : PySem.W.Frag) : Bool := (He.tupB K "BAD" [.str "bad"]) && (He.tupB K "CUT" [.str "cut"]) && true
abbrev R : PySem.W.OpenRow := PySem.W.OpenLaw.row PySem.Challenge.rw_flashkeep_k09_weathers_known
abbrev hk : PySem.W.Hook := hookA adr fa fn ex
noncomputable abbrev ob : PySem.W.SharedT → He.AlD × Bool := obA adr fa fn ex
def loose0 : List Str := ["is_whole", "is_within", "rises", "WORD_BITS", "MOST_FAULTS", "MOST_STEP", "CUT", "BAD", "is_fault", "is_weather", "_law_cell_at", "_law_state", "_law_choice", "_law_odd", "_law_same", "_law_whole", "_law_bent", "_law_any_weather", "_law_is_fault", "_law_are_faults", "_law_right"]
def loose : List Str := loose0
noncomputable abbrev endR (w : World) (os : OsState) : Option PySem.W.SharedT := HandSHeadRun.endF (HandSHeadRun.stepQ (HandSHeadRun.denQ HandSHeadRun.tabQ) R.prog w) 20000 R.prog w os
theorem run1 (w : World) (os : OsState) : (endR w os).map (fun s => (HandSHeadRun.looksF R.prog (PySem.W.boot_heap w.params) s.abs, HandSHeadRun.seenQ (PySem.W.view R.prog [24]) loose (importedModules R.prog.main.body) (fun s => PySem.W.xlAt (PySem.W.view R.prog [24]) [] s && PySem.W.recOk R.toRowW.records s) s.abs)) = some (true, PySem.W.openGood (PySem.W.view R.prog [24]) loose) := by
  kernel_rfl
theorem run2 (w : World) (os : OsState) : (endR w os).map (fun s => (fa.all fun f => f.ok (He.frG (HandSHeadRun.getT s) adr), ex (He.frG (HandSHeadRun.getT s) adr))) = some (true, true) := by
  kernel_rfl
theorem run3 (w : World) (os : OsState) : (endR w os).map (fun s => (fn.all fun d => d.ok (He.frG (HandSHeadRun.getT s) adr), fn.map fun d => He.fnW (He.frG (HandSHeadRun.getT s) adr) d.at_)) = some (true, fn.map He.DefD.val) := by
  kernel_rfl
theorem run (w : World) : HandSHeadRun.RunEq R (PySem.W.view R.prog [24]) hk ob 20000 loose w := fun os => run_A (run1 w os) (run2 w os) (run3 w os)
end Hd
end Fk
namespace Fk
open PySem PySem.Spec PyProof.Rows L2

section
variable {X : Cx} {k j : Nat} {x : Str} {ps : List Str} {dvs : List V} {sp : Sp} {E : XK} {p pos : Pos} {e : Expr} {es : List Expr} {t u : TA}
/-- either reading serves -/
theorem pe_or {ex : Expr} {a b : TE} (h1 : PE X ex a) (h2 : PE X ex b) : PE X ex (fun σ H Q => a σ H Q ∨ b σ H Q) :=
  ⟨fun pins s σ H Q I h => h.elim (fun q => h1.run pins s σ H Q I q) (fun q => h2.run pins s σ H Q I q)⟩
theorem pi_or {tg it : Expr} {a b : TI} (h1 : PI X tg it a) (h2 : PI X tg it b) : PI X tg it (fun σ H R => a σ H R ∨ b σ H R) :=
  ⟨fun pins s σ H R I h => h.elim (fun q => h1.run pins s σ H R I q) (fun q => h2.run pins s σ H R I q)⟩
end

/-! ### operators, whatever the operands are -/
def uAdd (K : PySem.W.Frag) : R2 := fun x y H Q => (∃ i j, x = .int i ∧ y = .int j ∧ Q (.int (i + j)) H) ∨
  ((∃ i j, x = .str i ∧ y = .str j ∧ i.length + j.length ≤ sizeLine ∧ Q (.str (i ++ j)) H) ∨ (rCat x y H Q ∨ rCatA K x y H Q))
def uSub : R2 := rI0 fun i j => .int (i - j)
def uMul (K : PySem.W.Frag) : R2 := fun x y H Q => (rI CMul fun i j => .int (i * j)) x y H Q ∨ (rRep x y H Q)
def uFdv : R2 := fun x y H Q => (rI CDiv fun i j => .int (i / j)) x y H Q ∨ (rI CDivW fun i j => .int (i / j)) x y H Q
def uMod : R2 := rI (fun _ j => 0 < j) fun i j => .int (i % j)
def uPow : R2 := rI CPow fun i j => .int (i ^ j.toNat)
def uLt : R2 := rI0 fun i j => .bl (decide (i < j))
def uLe : R2 := rI0 fun i j => .bl (decide (i ≤ j))
def uGt : R2 := rI0 fun i j => .bl (decide (j < i))
def uEq (K : PySem.W.Frag) : R2 := fun x y H Q => rEq x y H Q ∨ rEqD K x y H Q
def uNe (K : PySem.W.Frag) : R2 := fun x y H Q => rNe x y H Q ∨ rNeD K x y H Q
section
variable {X : Cx}
theorem o_add : OpR X (binaryOp .Add) (uAdd X.K) := op_add.or (op_add_str.or (op_cat.or op_catA))
theorem o_sub : OpR X (binaryOp .Sub) uSub := op_sub
theorem o_mul : OpR X (binaryOp .Mult) (uMul X.K) := op_mul.or op_rep
theorem o_fdv : OpR X (binaryOp .FloorDiv) uFdv := op_fdiv.or op_fdivW
theorem o_mod : OpR X (binaryOp .Mod) uMod := op_mod
theorem o_pow : OpR X (binaryOp .Pow) uPow := op_pow
theorem o_lt : OpR X (compareOp .Lt) uLt := op_lt
theorem o_le : OpR X (compareOp .LtE) uLe := op_le
theorem o_gt : OpR X (compareOp .Gt) uGt := op_gt
theorem o_eq (hu : X.A.units + 64 < cLine) : OpR X (compareOp .Eq) (uEq X.K) := op_eq.or (op_eqD hu)
theorem o_ne (hu : X.A.units + 64 < cLine) : OpR X (compareOp .NotEq) (uNe X.K) := op_ne.or (op_neD hu)
end
def uMax2 : List V → Hp → VK → Prop := fun xs H Q => ∃ i j, xs = [.int i, .int j] ∧ Q (.int (if j > i then j else i)) H
def uMin2 : List V → Hp → VK → Prop := fun xs H Q => ∃ i j, xs = [.int i, .int j] ∧ Q (.int (if j < i then j else i)) H
section
variable {X : Cx}
end
section
variable {P : Program} {w : World} {K : PySem.W.Frag} {mg : Str → Option Value} {base : Heap} {N : List Str} {qual : Str} {scope : Scope} {f : Addr} {cd : Value} {A : Around} {outer : List Env} {s : Shared} {H : Hp} {E : XK}
end
end Fk
/-! enumerate of a tuple, as a walked thing -/
namespace Fk
open PySem PySem.Spec PyProof.Rows L2
end Fk
/-! ## readings, run step by step -/
namespace Fk
open PySem PySem.Spec PyProof.Rows L2
/-- the i-th slot holds v -/
inductive GS : L2.St → Nat → V → Prop
  | z {v : V} {l : L2.St} : GS (some v :: l) 0 v
  | s {x : Option V} {v : V} {l : L2.St} {i : Nat} : GS l i v → GS (x :: l) (i + 1) v
theorem GS.get : ∀ {σ : L2.St} {i : Nat} {v : V}, GS σ i v → σ[i]? = some (some v)
  | _, _, _, .z => rfl
  | _, _, _, .s h => by simpa using h.get
section
variable {K : PySem.W.Frag} {D : Ends} {σ σ' σ'' : L2.St} {H H1 H2 : Hp} {Q : VK} {QB : Bool → Hp → Prop} {QA : List V → Hp → Prop} {E : XK} {i j k : Nat} {v u x : V} {vs : List V}
  {t tu tw : TS} {te ta tb tc : TE} {tt ttu : TT} {tA : TA} {g : TG} {r : R2} {a p : Addr} {xs ys : List V}
/-! operators -/
variable {m n : Int}
end
/-! ### loops by what is left -/
section
variable {K : PySem.W.Frag} {D : Ends} {σ : L2.St} {H : Hp} {g : TG} {tb : TS} {a : Addr} {xs : List V} {wi : TI}
end
section
variable {K : PySem.W.Frag} {H : Hp} {Q : VK} {a b : Nat}
end
/-! ### heaps that grow -/
abbrev Ex := Evl.Ex
theorem Ex.up {H H1 : Hp} {p : Addr} {o : HO} (e : Ex H H1) (h : H1 p = none) : Ex H (upd H1 p o) := Evl.Ex.trans e (Evl.Ex.new h)
theorem Ex.trans {H H1 H2 : Hp} (a : Ex H H1) (b : Ex H1 H2) : Ex H H2 := Evl.Ex.trans a b
theorem fresh {H H1 : Hp} {p : Addr} (e : Ex H H1) (h : H1 p = none) : H p = none := Evl.fresh_back e h
/-- tuples stay -/
def Tx (H H' : Hp) : Prop := ∀ t xs, H t = some (.tup xs) → H' t = some (.tup xs)
theorem Tx.trans {H H1 H2 : Hp} (a : Tx H H1) (b : Tx H1 H2) : Tx H H2 := fun t xs h => b t xs (a t xs h)
theorem Tx.new {H H1 : Hp} {p : Addr} {o : HO} (e : Tx H H1) (h : H1 p = none) : Tx H (upd H1 p o) := fun t xs q => by
  have z := e t xs q
  rw [upd_ne (fun w => by rw [w, h] at z; cases z)]
  exact z
theorem Tx.lst {H H1 : Hp} {p : Addr} {o : HO} {ys : List V} (e : Tx H H1) (h : H1 p = some (.lst ys)) : Tx H (upd H1 p o) := fun t xs q => by
  have z := e t xs q
  rw [upd_ne (fun w => by rw [w, h] at z; cases z)]
  exact z
/-! ### comprehensions -/
section
variable {K : PySem.W.Frag} {a : Addr} {xs : List V} {g : TG} {tt : TT} {te : TE} {vs : List Nat} {σ : L2.St} {H H1 : Hp} {D : Addr} {Qd : Hp → Prop}
end
/-! ### data stay -/
mutual
theorem dp_mono {K : PySem.W.Frag} {H H' : Hp} (e : Ex H H') : ∀ {v : V} {d : PyData}, Dp K H v d → Dp K H' v d
  | _, _, .non => .non
  | _, _, .bl b => .bl b
  | _, _, .int i => .int i
  | _, _, .str x => .str x
  | _, _, .lst h r => .lst (Evl.ex_l e h) (dpAll_mono e r)
  | _, _, .tup h r => .tup (Evl.ex_t e h) (dpAll_mono e r)
theorem dpAll_mono {K : PySem.W.Frag} {H H' : Hp} (e : Ex H H') : ∀ {vs : List V} {ds : List PyData}, DpAll K H vs ds → DpAll K H' vs ds
  | _, _, .nil => .nil
  | _, _, .cons h r => .cons (dp_mono e h) (dpAll_mono e r)
end
end Fk
/-! ## defs that are called where no repr is under way: repr of data -/
namespace Fk
open PySem PySem.Spec PyProof.Rows L2
/-- as FnOk, where no guard stands around -/
structure FnG (P : Program) (w : World) (K : PySem.W.Frag) (mg : Str → Option Value) (base : Heap) (k : Nat) (f : Addr) (fd : FuncData) (ps : List Str) (sp : Sp) : Prop where
  len : ∀ vs H Q E, sp vs H Q E → vs.length = ps.length
  run : ∀ (A : Around) (outer : List Env) (s : Shared) (H : Hp) (args : Args) (us : List Value) (vs : List V) (Q : VK) (E : XK), A.guards = some [] → Room k A → Env0 P w K mg base A outer s H →
    BindsTo s fd args (ps.zip us) → Vals vs us → sp vs H Q E → codeAny (model P w) A (.call (.ref f) args) (CR (L2.CX P w) outer P w H s Q E) s
section
variable {P : Program} {w : World} {K : PySem.W.Frag} {mg : Str → Option Value} {base : Heap} {k : Nat} {f : Addr} {fd : FuncData} {ps N : List Str} {sp : Sp} {x qual : Str} {params : Arguments} {body : List Stmt} {scope : Scope} {dvs : List V} {kws : List (Str × V)}
theorem FnG.of (F : FnOk P w K mg base (L2.CX P w) k f fd ps sp) : FnG P w K mg base k f fd ps sp := ⟨F.len, fun A outer s H args us vs Q E _ => F.run A outer s H args us vs Q E⟩
end
section
variable {X : Cx} {k j : Nat} {x : Str} {ps : List Str} {dvs : List V} {sp : Sp} {E : XK} {p pos : Pos} {e : Expr} {es : List Expr} {t : TA} {f : Addr} {fd : FuncData} {ds : List Value}
end
end Fk
/-! ## data whose text is short -/
namespace Fk
open PySem PySem.Spec PyProof.Rows L2
/-- data of depth at most k whose text has at most n signs -/
structure Sw (k n : Nat) (d : PyData) : Prop where
  lay : d.canLay0 = true
  dep : d.depth ≤ k
  shw : d.showable = true
  len : d.shown.length ≤ n
structure SwAll (k n : Nat) (ds : List PyData) : Prop where
  lay : PyData.canLayAll0 ds = true
  dep : PyData.depthAll ds ≤ k
  shw : PyData.showableAll ds = true
  len : ((PyData.shownAll ds).map (·.length)).sum + 2 * (PyData.shownAll ds).length ≤ n
theorem sw_none {k : Nat} : Sw k 4 .none := ⟨rfl, Nat.zero_le _, rfl, by decide +kernel⟩
theorem sw_bool {k : Nat} (b : Bool) : Sw k 5 (.bool b) := ⟨rfl, Nat.zero_le _, rfl, by cases b <;> decide +kernel⟩
theorem sw_int {k : Nat} {i : Int} (h : i.natAbs < 2 ^ 128) : Sw k 129 (.int i) := by
  have lg : i.natAbs.log2 < 128 := by
    by_cases z : i.natAbs = 0
    · rw [z]; decide
    · exact (Nat.log2_lt z).mpr h
  refine ⟨rfl, Nat.zero_le _, ?_, ?_⟩
  · have : i.natAbs.log2 < 1920 := by omega
    simpa [PyData.showable] using this
  · have e : (PyData.int i).shown = Str.ofString (toString i) := by simp only [PyData.shown]
    rw [e, PySem.ofString_length]
    exact int_text_length_le (by decide) lg
theorem sw_str {k : Nat} {x : Str} (ok : PyData.strOk x = true) : Sw k (10 * x.length + 2) (.str x) := by
  refine ⟨by simpa [PyData.canLay0] using ok, Nat.zero_le _, by simp [PyData.showable], ?_⟩
  have e : (PyData.str x).shown = reprText x := by simp only [PyData.shown]
  rw [e]
  refine StrLaws.reprText_len x fun c hc => ?_
  have q : x.cps.all (· < 0x110000) = true := ok
  have := Array.all_eq_true'.mp q c (by simpa using hc)
  have e2 : (0x110000 : Nat) ≤ 16 ^ 8 := by decide
  simp at this
  omega
theorem swa_nil {k : Nat} : SwAll k 0 [] := ⟨rfl, Nat.zero_le _, rfl, by simp [PyData.shownAll]⟩
theorem swa_cons {k n m : Nat} {d : PyData} {ds : List PyData} (h : Sw k n d) (r : SwAll k m ds) : SwAll k (n + 2 + m) (d :: ds) := by
  refine ⟨by simp [PyData.canLayAll0, h.lay, r.lay], ?_, by simp [PyData.showableAll, h.shw, r.shw], ?_⟩
  · have := h.dep
    have := r.dep
    simp only [PyData.depthAll]
    omega
  · have := h.len
    have := r.len
    simp only [PyData.shownAll, List.map_cons, List.sum_cons, List.length_cons]
    omega
theorem sw_tup {k n : Nat} {ds : List PyData} (h : SwAll k n ds) : Sw (k + 1) (n + 3) (.tuple ds) := by
  refine ⟨by simpa [PyData.canLay0] using h.lay, by have := h.dep; simp only [PyData.depth]; omega, by simpa [PyData.showable] using h.shw, ?_⟩
  have := tupleText_len_le (PyData.shownAll ds)
  have := h.len
  simp only [PyData.shown]
  omega
theorem sw_lst {k n : Nat} {ds : List PyData} (h : SwAll k n ds) : Sw (k + 1) (n + 3) (.list ds) := by
  refine ⟨by simpa [PyData.canLay0] using h.lay, by have := h.dep; simp only [PyData.depth]; omega, by simpa [PyData.showable] using h.shw, ?_⟩
  have := listText_len_le (PyData.shownAll ds)
  have := h.len
  simp only [PyData.shown]
  omega
theorem Sw.shaped {k n : Nat} {d : PyData} (h : Sw k n d) (hk : k ≤ 60) : SeqAt.shaped d = true := by
  unfold SeqAt.shaped
  rw [h.lay, Bool.true_and]
  exact decide_eq_true (Nat.le_trans h.dep (by omega))
section
variable {K : PySem.W.Frag} {H : Hp} {Q : VK} {v u : V} {d e : PyData}
end
end Fk
/-! ## data with small dicts, their repr -/
namespace Fk
open PySem PySem.Spec PyProof.Rows L2
mutual
/-- what a value reads as: leaves, tuples, dicts of ints -/
inductive Dt (K : PySem.W.Frag) (H : Hp) : V → PyData → Prop
  | non : Dt K H .non .none
  | bl (b : Bool) : Dt K H (.bl b) (.bool b)
  | int (i : Int) : Dt K H (.int i) (.int i)
  | str (x : Str) : Dt K H (.str x) (.str x)
  | tup {a : Addr} {xs : List V} {ds : List PyData} : SqT K H a xs → DtAll K H xs ds → Dt K H (.ref a) (.tuple ds)
  | dct {a : Addr} {ns : List (Int × Int)} : H a = some (.dK (ns.map fun z => (Sum.inl z.1, V.int z.2))) → Dt K H (.ref a) (.dict (ns.map fun z => (.int z.1, .int z.2)))
inductive DtAll (K : PySem.W.Frag) (H : Hp) : List V → List PyData → Prop
  | nil : DtAll K H [] []
  | cons {v : V} {vs : List V} {d : PyData} {ds : List PyData} : Dt K H v d → DtAll K H vs ds → DtAll K H (v :: vs) (d :: ds)
end
theorem rd_pairs {P : Program} {w : World} {h : Heap} : ∀ (ns : List (Int × Int)) (es : List DictEntry) (vs : List (Key × Value)), KV (ns.map fun z => ((Sum.inl z.1 : Key), V.int z.2)) vs → Pairs (mixKind P w) es vs →
    ReadsAll h (es.map (·.key)) ((ns.map fun z => (PyData.int z.1, PyData.int z.2)).map (·.1)) [] ∧ ReadsAll h (es.map (·.val)) ((ns.map fun z => (PyData.int z.1, PyData.int z.2)).map (·.2)) []
  | [], es, vs, r, p => by
    rw [List.map_nil] at r
    cases r
    cases p
    exact ⟨.nil, .nil⟩
  | z :: ns, es, vs, r, p => by
    rw [List.map_cons] at r
    cases r with
    | cons h1 h2 =>
      cases p with
      | @cons e kv es' kvs' k1 k2 k3 =>
        obtain ⟨q1, q2⟩ := rd_pairs (h := h) ns es' _ h2 k3
        obtain ⟨e1, t, e2⟩ := h1
        rw [← e1] at k1
        rcases keyIs_shape (show keyIs (Sum.inl z.1) e.key = true from k1) with ⟨i, t', ei, ek⟩ | ⟨x, t', ei, ek⟩
        · cases ei
          refine ⟨?_, ?_⟩
          · have a := ReadsAll.cons (h := h) (Reads.int z.1 t') q1
            show ReadsAll h (e.key :: es'.map (·.key)) _ []
            rw [ek]
            exact a
          · have a := ReadsAll.cons (h := h) (Reads.int z.2 t) q2
            show ReadsAll h (e.val :: es'.map (·.val)) _ []
            rw [k2, e2]
            exact a
        · cases ei
section
variable {X : Cx} {pins : List (Addr × Obj)} {σ : L2.St} {H : Hp} {s : Shared}
mutual
theorem Dt.reads (I : Inv X pins σ H s) : ∀ (d : PyData) (v : V) (u : Value), Dt X.K H v d → RelV v u → ∃ as, Reads s.heap u d as ∧ sysModules ∉ as
  | .none, _, _, h, r => by
    cases h
    cases r
    exact ⟨_, Reads.none, by simp⟩
  | .bool b, _, _, h, r => by
    cases h
    cases r
    exact ⟨_, Reads.bool b, by simp⟩
  | .int i, _, _, h, r => by
    cases h
    obtain ⟨t, rfl⟩ := r
    exact ⟨_, Reads.int i t, by simp⟩
  | .str x, _, _, h, r => by
    cases h
    obtain ⟨t, rfl⟩ := r
    exact ⟨_, Reads.str x t, by simp⟩
  | .list ds, _, _, h, r => by cases h
  | .tuple ds, _, _, h, r => by
    cases h with
    | tup hs ha =>
      cases r
      obtain ⟨its, rv, ⟨o, ho, hc, n, hd⟩, _⟩ := I.tuple hs
      obtain ⟨as, hr, hn⟩ := Dt.readsAll I ds _ its ha rv
      exact ⟨_, Reads.tuple ho hc hd hr, hn⟩
  | .dict kvs, _, _, h, r => by
    generalize ek : kvs = kk at h
    cases h with
    | @dct a ns e =>
      cases r
      obtain ⟨_, hy, vs, kv, o, es, ep, ho, hx, hd, _, prs, _⟩ := I.hok a _ e
      obtain ⟨q1, q2⟩ := rd_pairs (h := s.heap) ns es.toList vs kv prs
      refine ⟨_, Reads.dict ho hx.1 hd q1 q2, ?_⟩
      intro z
      have z2 : sysModules = a := by simpa using z
      rw [z2] at hy
      simp at hy
theorem Dt.readsAll (I : Inv X pins σ H s) : ∀ (ds : List PyData) (vs : List V) (us : List Value), DtAll X.K H vs ds → Vals vs us → ∃ as, ReadsAll s.heap us ds as ∧ sysModules ∉ as
  | [], _, _, h, r => by
    cases h
    cases r
    exact ⟨_, ReadsAll.nil, by simp⟩
  | d :: ds, _, _, h, r => by
    cases h with
    | cons h1 h2 =>
      cases r with
      | cons r1 r2 =>
        obtain ⟨as, q1, n1⟩ := Dt.reads I d _ _ h1 r1
        obtain ⟨bs, q2, n2⟩ := Dt.readsAll I ds _ _ h2 r2
        exact ⟨_, ReadsAll.cons q1 q2, fun z => (List.mem_append.mp z).elim n1 n2⟩
end
end
/-- data of either sort -/
def Dd (K : PySem.W.Frag) (H : Hp) (v : V) (d : PyData) : Prop := Dp K H v d ∨ Dt K H v d
def uReprD (K : PySem.W.Frag) : List V → Hp → VK → Prop := fun xs H Q => ∃ v d, xs = [v] ∧ Dd K H v d ∧ d.showable = true ∧ d.depth ≤ 60 ∧ (Dp K H v d → d.hasDict = false) ∧ d.shown.length ≤ sizeLine ∧ Q (.str d.shown) H
theorem call_reprT {X : Cx} (hG : X.A.guards = some []) (hu : X.A.units + 64 < cLine) : CallR X (.builtin "repr") (uReprD X.K) := by
  intro pins s σ H xs us Q I r h
  obtain ⟨v, d, rfl, hd, hs, hdp, hnd, hz, q⟩ := h
  cases r with
  | cons ru rn =>
    rename_i u us'
    cases rn
    obtain ⟨as, rd, hsm⟩ : ∃ as, Reads s.heap u d as ∧ (d.hasDict = true → sysModules ∉ as) := by
      rcases hd with hd | hd
      · obtain ⟨as, rd⟩ := Dp.reads I d v u hd ru
        exact ⟨as, rd, fun z => by rw [hnd hd] at z; cases z⟩
      · obtain ⟨as, rd, n⟩ := Dt.reads I d v u hd ru
        exact ⟨as, rd, fun _ => n⟩
    have fin : ∀ h' uu tk, (∀ b o, s.heap.get? b = some o → h'.get? b = some o) → EP X pins σ Q (.str d.shown uu) { s with heap := h', toks := tk } := fun h' uu tk hk => ⟨.str d.shown, H, I.kept (t' := tk) hk, ⟨uu, rfl⟩, q⟩
    cases u with
    | ref a => exact repr_of_reads' rd hs hsm hG (by omega) (fun _ _ e => e) fin hz
    | none =>
      cases rd
      exact P.repr_of_none (fin s.heap _ _ fun _ _ e => e)
    | bool b =>
      cases rd
      exact P.repr_of_bool (fin s.heap _ _ fun _ _ e => e)
    | int i t =>
      cases rd
      exact P.repr_of_int (by simpa [PyData.showable] using hs) (fin s.heap _ _ fun _ _ e => e)
    | str z t =>
      cases rd
      exact P.repr_of_str (fin s.heap _ _ fun _ _ e => e) hz
    | _ => cases rd
end Fk
/-! ## more loops -/
namespace Fk
open PySem PySem.Spec PyProof.Rows L2
section
variable {K : PySem.W.Frag} {D : Ends} {σ : L2.St} {H : Hp} {g : TG} {tb : TS} {a : Addr} {xs : List V}
end
end Fk
/-! ## more rules: a tuple turned about; slices; in -/
namespace Fk
open PySem PySem.Spec PyProof.Rows L2
section
variable {prog : Program} {w : World} {A : Around} {E : Value → Shared → Prop} {s : Shared}
end
section
variable {X : Cx}
def uSl (K : PySem.W.Frag) : V → Option Int → Option Int → Hp → VK → Prop := fun x lo hi H Q => rSlL K x lo hi H Q ∨ (rSlA K x lo hi H Q ∨ rSlS x lo hi H Q)
theorem sl_any : SlR X (uSl X.K) := sl_list.or (sl_tupA.or sl_str)
def uList (K : PySem.W.Frag) : List V → Hp → VK → Prop := fun xs H Q => ∃ p ys, xs = [.ref p] ∧ (SqL K H p ys ∨ SqT K H p ys) ∧ ∀ l, H l = none → Q (.ref l) (upd H l (.lst ys))
def uTuple (K : PySem.W.Frag) : List V → Hp → VK → Prop := fun xs H Q => ∃ p ys, xs = [.ref p] ∧ ((SqL K H p ys ∧ ∀ l, H l = none → Q (.ref l) (upd H l (.tup ys))) ∨ (SqT K H p ys ∧ Q (.ref p) H))
end
section
variable {X : Cx}
def uAddB (K : PySem.W.Frag) : R2 := fun x y H Q => uAdd K x y H Q ∨ ∃ a i, x = .bl a ∧ y = .int i ∧ Q (.int ((if a = true then (1 : Int) else 0) + i)) H
def uSubB : R2 := fun x y H Q => uSub x y H Q ∨ ∃ a i, x = .bl a ∧ y = .int i ∧ Q (.int ((if a = true then (1 : Int) else 0) - i)) H
theorem op_addBI : OpR X (binaryOp .Add) (fun x y H Q => ∃ a i, x = .bl a ∧ y = .int i ∧ Q (.int ((if a = true then (1 : Int) else 0) + i)) H) := by
  intro pins s σ H x y v u Q I rx ry h
  obtain ⟨a, i, rfl, rfl, q⟩ := h
  cases rx
  obtain ⟨t, rfl⟩ := ry
  exact PySem.IntBool.add_bool_int ⟨.int _, H, I.tok _, ⟨_, rfl⟩, q⟩
theorem op_subBI : OpR X (binaryOp .Sub) (fun x y H Q => ∃ a i, x = .bl a ∧ y = .int i ∧ Q (.int ((if a = true then (1 : Int) else 0) - i)) H) := by
  intro pins s σ H x y v u Q I rx ry h
  obtain ⟨a, i, rfl, rfl, q⟩ := h
  cases rx
  obtain ⟨t, rfl⟩ := ry
  exact PySem.IntBool.sub_bool_int ⟨.int _, H, I.tok _, ⟨_, rfl⟩, q⟩
theorem o_addB : OpR X (binaryOp .Add) (uAddB X.K) := o_add.or op_addBI
theorem o_subB : OpR X (binaryOp .Sub) uSubB := o_sub.or op_subBI
end
theorem units65 {k : Nat} {A : Around} (r : Room k A) : A.units + 65 < cLine := by
  have := r.un
  omega
end Fk
/-! ## tuple * 1 -/
namespace Fk
open PySem PySem.Spec PyProof.Rows L2
theorem tuple_mul1 (l : Addr) (items : Array Value) (n : Nat) (dd : Option Addr) (sl : Array (Option Value)) (u : Tok) (c1 : (items.isEmpty || (1 : Int) == 1) = true) :
    Meets (Builtin.«tuple.__mul__» ⟨[.ref l, .int 1 u], []⟩) (fun _ R s => s.heap.get? l = some { cls := .type "tuple", dict := dd, data := .seq items n, slots := sl } ∧ R (.ok (.ret (Value.ref l))) s) :=
  .of_wp fun prog w A R s h => by
    obtain ⟨hp, g, d, tk, os⟩ := s
    obtain ⟨hl, h⟩ := h
    have f1 := AutoSeq1.idx_int
    wp_walk using wpAny_loadPart' hl
    exact ⟨_, rfl, h⟩
def rRep1 (K : PySem.W.Frag) : R2 := fun x y H Q => ∃ l xs, x = .ref l ∧ y = .int 1 ∧ SqT K H l xs ∧ Q (.ref l) H
theorem op_rep1 {X : Cx} : OpR X (binaryOp .Mult) (rRep1 X.K) := by
  intro pins s σ H x y v u Q I rx ry h
  obtain ⟨l, xs, rfl, rfl, hT, q⟩ := h
  cases rx
  obtain ⟨t, rfl⟩ := ry
  obtain ⟨its, r, ⟨⟨cls, dd, data, sl⟩, ho, hc, n, hd⟩, hs⟩ := I.tuple hT
  simp only at hc hd
  subst hc hd
  refine wpAny_binaryOp_repeat_ref (T := "tuple") (U := "int") (by decide) ⟨_, ho, rfl⟩ (fun s' => typeIs_int s' 1 t) noFill_tuple_mul F.fills_int_mul F.slot_int_rmul repeat_tuple F.slot_int_index.lookup
    (call_meets F.slot_int_rmul (typeIs_int s 1 t) F.entry_int_rmul (F.args_int_rmul_2 _ _) (int_rmul_tuple 1 t l its.toArray n dd sl)
      ⟨ho, rfl, ⟨_, ho, rfl⟩, call_meets F.slot_tuple_mul ⟨_, ho, rfl⟩ F.entry_tuple_mul (F.args_tuple_mul_2 _ _) (tuple_mul1 l its.toArray n dd sl t (by simp)) ⟨ho, ?_⟩⟩)
  exact ⟨.ref l, H, I, rfl, q⟩
end Fk
/-! ## plain values: what a run of the text is worth -/
namespace Fk
open PySem PySem.Spec PyProof.Rows L2
/-- a value as a tree; lst, dct: of shared things, the first letter tells whether it is owned (may be changed); nst, ndc, ins: owned ones of owned things; loc: an object by its number -/
inductive AV where
  | non | bl (b : Bool) | int (i : Int) | str (x : Str)
  | tup (xs : List AV)
  | lst (o : Bool) (xs : List AV)
  | dct (o : Bool) (ks : List Key) (xs : List AV)
  | scr (xs : List AV)
  | nst (xs : List AV)
  | ndc (ks : List Key) (xs : List AV)
  | ins (C : Str) (ks : List Str) (xs : List AV)
  | loc (l : Nat)
  | ded
  | set (ks : List Int)
  | tud (xs : List AV)
/-- a slot: nothing, a value, an owned tree -/
inductive Sl where
  | no | im (d : AV) | ow (d : AV)
structure Ss where
  r : List Sl
  s : List AV
inductive Res (α β : Type) where
  | ok (a : α) (s : β)
  | err (c : Str) (s : β)
  | bad
abbrev M (α : Type) := Ss → Res α Ss
inductive Fl where
  | nx | rt (d : AV) | bk | ct

/-- a list that is locked (the script) -/
def Scr (K : PySem.W.Frag) (H : Hp) (a : Addr) (us : List V) : Prop := (∃ ob, H a = some (.frz ob (.lst us))) ∨
  ∃ (o : Obj) (its : Array Value) (n : Nat), K.lookup a = some o ∧ o.cls = .type "list" ∧ o.dict = none ∧ o.data = .seq its n ∧ its.size ≤ sizeLine ∧ Vals us its.toList
theorem Scr.sq {K : PySem.W.Frag} {H : Hp} {a : Addr} {us : List V} (h : Scr K H a us) : SqL K H a us := h.elim (fun z => .inl (.inr z)) .inr
/-- a set of ints, by its members -/
structure SetIs (S : Int → Bool) (n : Nat) (ks : List Int) : Prop where
  mem : ∀ k, S k = decide (k ∈ ks)
  len : n = ks.length
  nd : ks.Nodup
/-- what values, objects stand for: as are the owned addresses, W those that bear no shared thing, m where the shared objects stand -/
inductive Rp (K : PySem.W.Frag) (H : Hp) (W m : List Addr) : List V → List AV → List Addr → Prop
  | nil : Rp K H W m [] [] []
  | non {vs xs as} (r : Rp K H W m vs xs as) : Rp K H W m (.non :: vs) (.non :: xs) as
  | bl {b vs xs as} (r : Rp K H W m vs xs as) : Rp K H W m (.bl b :: vs) (.bl b :: xs) as
  | int {i vs xs as} (r : Rp K H W m vs xs as) : Rp K H W m (.int i :: vs) (.int i :: xs) as
  | str {z vs xs as} (r : Rp K H W m vs xs as) : Rp K H W m (.str z :: vs) (.str z :: xs) as
  | tup {a us ys vs xs as} (h : SqT K H a us) (q : Rp K H W m us ys []) (r : Rp K H W m vs xs as) : Rp K H W m (.ref a :: vs) (.tup ys :: xs) as
  | lsI {a us ys vs xs as} (h : H a = some (.lst us)) (n : a ∉ W) (q : Rp K H W m us ys []) (r : Rp K H W m vs xs as) : Rp K H W m (.ref a :: vs) (.lst false ys :: xs) as
  | lsO {a us ys vs xs as} (h : H a = some (.lst us)) (q : Rp K H W m us ys []) (r : Rp K H W m vs xs as) : Rp K H W m (.ref a :: vs) (.lst true ys :: xs) (a :: as)
  | dcI {a kvs ks ys vs xs as} (h : H a = some (.dK kvs)) (n : a ∉ W) (e : kvs.map (·.1) = ks) (q : Rp K H W m (kvs.map (·.2)) ys []) (r : Rp K H W m vs xs as) : Rp K H W m (.ref a :: vs) (.dct false ks ys :: xs) as
  | dcO {a kvs ks ys vs xs as} (h : H a = some (.dK kvs)) (e : kvs.map (·.1) = ks) (q : Rp K H W m (kvs.map (·.2)) ys []) (r : Rp K H W m vs xs as) : Rp K H W m (.ref a :: vs) (.dct true ks ys :: xs) (a :: as)
  | scr {a us ys vs xs as} (h : Scr K H a us) (q : Rp K H W m us ys []) (r : Rp K H W m vs xs as) : Rp K H W m (.ref a :: vs) (.scr ys :: xs) as
  | nst {a us ys bs vs xs as} (h : H a = some (.lst us)) (q : Rp K H W m us ys bs) (r : Rp K H W m vs xs as) : Rp K H W m (.ref a :: vs) (.nst ys :: xs) (a :: (bs ++ as))
  | ndc {a kvs ks ys bs vs xs as} (h : H a = some (.dK kvs)) (e : kvs.map (·.1) = ks) (q : Rp K H W m (kvs.map (·.2)) ys bs) (r : Rp K H W m vs xs as) : Rp K H W m (.ref a :: vs) (.ndc ks ys :: xs) (a :: (bs ++ as))
  | ins {a C dx fs ks ys bs vs xs as} (h : H a = some (.ins (He.ga K C) dx fs)) (e : fs.map (·.1) = ks) (q : Rp K H W m (fs.map (·.2)) ys bs) (r : Rp K H W m vs xs as) : Rp K H W m (.ref a :: vs) (.ins C ks ys :: xs) (a :: (bs ++ as))
  | loc {a l vs xs as} (h : m[l]? = some a) (r : Rp K H W m vs xs as) : Rp K H W m (.ref a :: vs) (.loc l :: xs) as
  | ded {a vs xs as} (r : Rp K H W m vs xs as) : Rp K H W m (.ref a :: vs) (.ded :: xs) as
  | set {a S n ks vs xs as} (h : H a = some (.set S n)) (e : SetIs S n ks) (r : Rp K H W m vs xs as) : Rp K H W m (.ref a :: vs) (.set ks :: xs) (a :: as)
  | tud {a ob us ys vs xs as} (h : H a = some (.frz ob (.tup us))) (n : ob.dict = none) (q : Rp K H W m us ys []) (r : Rp K H W m vs xs as) : Rp K H W m (.ref a :: vs) (.tud ys :: xs) as

def mutO : HO → Bool
  | .lst _ => true
  | .dK _ => true
  | .ins _ _ _ => true
  | .set _ _ => true
  | _ => false
def NoTbl (o : HO) : Prop := ∀ ps, o ≠ .tbl ps
/-- the heap behind: all but what stands at L is kept -/
structure Kp (H H' : Hp) (L : List Addr) : Prop where
  keep : ∀ b o, H b = some o → b ∉ L → NoTbl o → H' b = some o
  kind : ∀ b ∈ L, ∃ o, H b = some o ∧ mutO o = true
theorem Kp.new {H : Hp} {p : Addr} {o : HO} (h : H p = none) : Kp H (upd H p o) [] := ⟨fun b u e _ _ => by rw [upd_ne (ne_of_none e h)]; exact e, fun _ z => nomatch z⟩
theorem Kp.put {H : Hp} {p : Addr} {o u : HO} (h : H p = some u) (hm : mutO u = true) : Kp H (upd H p o) [p] :=
  ⟨fun b v e n _ => by rw [upd_ne (fun z => n (by simp [z]))]; exact e, fun b z => by
    have e : b = p := by simpa using z
    subst e
    exact ⟨u, h, hm⟩⟩
theorem Kp.refl {H : Hp} : Kp H H [] := ⟨fun _ _ e _ _ => e, fun _ z => nomatch z⟩
section
variable {K : PySem.W.Frag} {H H' : Hp} {W W' m m' L : List Addr} {vs vs' : List V} {xs xs' : List AV} {as as' bs : List Addr} {v : V} {x : AV}
theorem Rp.len (r : Rp K H W m vs xs as) : vs.length = xs.length := by
  induction r with
  | nil => rfl
  | _ => simp_all
theorem rd_keep {u : HO} {a : Addr} (k : Kp H H' L) (h : Rd H a u) (n : a ∉ L) (t : NoTbl u) : Rd H' a u := by
  rcases h with h | ⟨o, h⟩
  · exact .inl (k.keep a _ h n t)
  · exact .inr ⟨o, k.keep a _ h n (fun ps z => by cases z)⟩
theorem scr_keep {us : List V} {a : Addr} (k : Kp H H' L) (h : Scr K H a us) : Scr K H' a us := by
  rcases h with ⟨ob, h⟩ | h
  · refine .inl ⟨ob, k.keep a _ h (fun z => ?_) (fun ps z => by cases z)⟩
    obtain ⟨o, e, q⟩ := k.kind a z
    rw [h] at e
    cases e
    cases q
  · exact .inr h
theorem frz_keep {ob : Obj} {u : HO} {a : Addr} (k : Kp H H' L) (h : H a = some (.frz ob u)) : H' a = some (.frz ob u) := by
  refine k.keep a _ h (fun z => ?_) (fun ps z => by cases z)
  obtain ⟨o, e, q⟩ := k.kind a z
  rw [h] at e
  cases e
  cases q
theorem sqT_keep {us : List V} {a : Addr} (k : Kp H H' L) (h : SqT K H a us) : SqT K H' a us := by
  rcases h with h | h
  · refine .inl (rd_keep k h (fun z => ?_) (fun ps z => by cases z))
    obtain ⟨o, e, q⟩ := k.kind a z
    rcases h with h | ⟨ob, h⟩
    · rw [h] at e; cases e; cases q
    · rw [h] at e; cases e; cases q
  · exact .inr h
/-- all owned ones stand -/
theorem Rp.there (r : Rp K H W m vs xs as) : ∀ a ∈ as, ∃ o, H a = some o ∧ mutO o = true := by
  have one : ∀ {a : Addr} {o : HO} {as : List Addr}, H a = some o → mutO o = true → (∀ b ∈ as, ∃ o, H b = some o ∧ mutO o = true) → ∀ b ∈ a :: as, ∃ o, H b = some o ∧ mutO o = true := fun h q i b z => by
    rcases List.mem_cons.mp z with rfl | z
    · exact ⟨_, h, q⟩
    · exact i b z
  have two : ∀ {as bs : List Addr}, (∀ b ∈ as, ∃ o, H b = some o ∧ mutO o = true) → (∀ b ∈ bs, ∃ o, H b = some o ∧ mutO o = true) → ∀ b ∈ as ++ bs, ∃ o, H b = some o ∧ mutO o = true := fun i j b z => (List.mem_append.mp z).elim (i b) (j b)
  induction r with
  | nil => intro a z; cases z
  | lsO h _ _ _ i2 => exact one h rfl i2
  | dcO h _ _ _ _ i2 => exact one h rfl i2
  | nst h _ _ i1 i2 => exact one h rfl (two i1 i2)
  | ndc h _ _ _ i1 i2 => exact one h rfl (two i1 i2)
  | ins h _ _ _ i1 i2 => exact one h rfl (two i1 i2)
  | set h _ _ i => exact one h rfl i
  | _ => assumption
theorem Rp.keep (k : Kp H H' L) (hL : ∀ b ∈ L, b ∈ W) (hW : ∀ b, (∃ o, H b = some o) → b ∉ W → b ∉ W') (hm : ∀ (l : Nat) a, m[l]? = some a → m'[l]? = some a)
    (r : Rp K H W m vs xs as) : (∀ b ∈ as, b ∉ L) → Rp K H' W' m' vs xs as := by
  induction r with
  | nil => intro _; exact .nil
  | non _ i => intro n; exact .non (i n)
  | bl _ i => intro n; exact .bl (i n)
  | int _ i => intro n; exact .int (i n)
  | str _ i => intro n; exact .str (i n)
  | tup h _ _ i1 i2 => intro n; exact .tup (sqT_keep k h) (i1 (fun _ z => nomatch z)) (i2 n)
  | lsI h nw _ _ i1 i2 => intro n; exact .lsI (k.keep _ _ h (fun z => nw (hL _ z)) (fun ps z => by cases z)) (hW _ ⟨_, h⟩ nw) (i1 (fun _ z => nomatch z)) (i2 n)
  | lsO h _ _ i1 i2 => intro n; exact .lsO (k.keep _ _ h (n _ (by simp)) (fun ps z => by cases z)) (i1 (fun _ z => nomatch z)) (i2 (fun b z => n b (by simp [z])))
  | dcI h nw e _ _ i1 i2 => intro n; exact .dcI (k.keep _ _ h (fun z => nw (hL _ z)) (fun ps z => by cases z)) (hW _ ⟨_, h⟩ nw) e (i1 (fun _ z => nomatch z)) (i2 n)
  | dcO h e _ _ i1 i2 => intro n; exact .dcO (k.keep _ _ h (n _ (by simp)) (fun ps z => by cases z)) e (i1 (fun _ z => nomatch z)) (i2 (fun b z => n b (by simp [z])))
  | nst h _ _ i1 i2 =>
    intro n
    exact .nst (k.keep _ _ h (n _ (by simp)) (fun ps z => by cases z)) (i1 (fun b z => n b (by simp [z]))) (i2 (fun b z => n b (by simp [z])))
  | ndc h e _ _ i1 i2 =>
    intro n
    exact .ndc (k.keep _ _ h (n _ (by simp)) (fun ps z => by cases z)) e (i1 (fun b z => n b (by simp [z]))) (i2 (fun b z => n b (by simp [z])))
  | ins h e _ _ i1 i2 =>
    intro n
    exact .ins (k.keep _ _ h (n _ (by simp)) (fun ps z => by cases z)) e (i1 (fun b z => n b (by simp [z]))) (i2 (fun b z => n b (by simp [z])))
  | scr h _ _ i1 i2 => intro n; exact .scr (scr_keep k h) (i1 (fun _ z => nomatch z)) (i2 n)
  | loc h _ i => intro n; exact .loc (hm _ _ h) (i n)
  | ded _ i => intro n; exact .ded (i n)
  | tud h d _ _ i1 i2 => intro n; exact .tud (frz_keep k h) d (i1 (fun _ z => nomatch z)) (i2 n)
  | set h e _ i => intro n; exact .set (k.keep _ _ h (n _ (by simp)) (fun ps z => by cases z)) e (i (fun b z => n b (by simp [z])))
/-- one behind the other -/
theorem Rp.app (r : Rp K H W m vs xs as) (q : Rp K H W m vs' xs' as') : Rp K H W m (vs ++ vs') (xs ++ xs') (as ++ as') := by
  induction r with
  | nil => exact q
  | non _ i => exact .non i
  | bl _ i => exact .bl i
  | int _ i => exact .int i
  | str _ i => exact .str i
  | tup h q1 _ _ i2 => exact .tup h q1 i2
  | lsI h n q1 _ _ i2 => exact .lsI h n q1 i2
  | lsO h q1 _ _ i2 => exact .lsO h q1 i2
  | nst h q1 _ _ i2 => exact (by simpa [List.append_assoc] using Rp.nst h q1 i2)
  | ndc h e q1 _ _ i2 => exact (by simpa [List.append_assoc] using Rp.ndc h e q1 i2)
  | dcI h n e q1 _ _ i2 => exact .dcI h n e q1 i2
  | dcO h e q1 _ _ i2 => exact .dcO h e q1 i2
  | ins h e q1 _ _ i2 => exact (by simpa [List.append_assoc] using Rp.ins h e q1 i2)
  | scr h q1 _ _ i2 => exact .scr h q1 i2
  | loc h _ i => exact .loc h i
  | ded _ i => exact .ded i
  | set h e _ i => exact .set h e i
  | tud h d q1 _ _ i2 => exact .tud h d q1 i2
theorem Rp.cons (r : Rp K H W m [v] [x] as) (q : Rp K H W m vs xs as') : Rp K H W m (v :: vs) (x :: xs) (as ++ as') := r.app q
/-- the first and the rest -/
theorem Rp.head (r : Rp K H W m (v :: vs) (x :: xs) as) : ∃ a1 a2, as = a1 ++ a2 ∧ Rp K H W m [v] [x] a1 ∧ Rp K H W m vs xs a2 := by
  cases r with
  | non r => exact ⟨[], as, rfl, .non .nil, r⟩
  | bl r => exact ⟨[], as, rfl, .bl .nil, r⟩
  | int r => exact ⟨[], as, rfl, .int .nil, r⟩
  | str r => exact ⟨[], as, rfl, .str .nil, r⟩
  | tup h q r => exact ⟨[], as, rfl, .tup h q .nil, r⟩
  | lsI h n q r => exact ⟨[], as, rfl, .lsI h n q .nil, r⟩
  | @lsO a us ys _ _ as' h q r => exact ⟨[a], as', rfl, .lsO h q .nil, r⟩
  | @nst a us ys bs _ _ as' h q r => exact ⟨a :: (bs ++ []), as', by simp, .nst h q .nil, r⟩
  | @ndc a kvs ks ys bs _ _ as' h e q r => exact ⟨a :: (bs ++ []), as', by simp, .ndc h e q .nil, r⟩
  | dcI h n e q r => exact ⟨[], as, rfl, .dcI h n e q .nil, r⟩
  | @dcO a kvs ks ys _ _ as' h e q r => exact ⟨[a], as', rfl, .dcO h e q .nil, r⟩
  | @ins a C dx fs ks ys bs _ _ as' h e q r => exact ⟨a :: (bs ++ []), as', by simp, .ins h e q .nil, r⟩
  | scr h q r => exact ⟨[], as, rfl, .scr h q .nil, r⟩
  | loc h r => exact ⟨[], as, rfl, .loc h .nil, r⟩
  | ded r => exact ⟨[], as, rfl, .ded .nil, r⟩
  | tud h d q r => exact ⟨[], as, rfl, .tud h d q .nil, r⟩
  | @set a S n ks _ _ as' h e r => exact ⟨[a], as', rfl, .set h e .nil, r⟩
theorem Rp.nil_inv (r : Rp K H W m vs [] as) : vs = [] ∧ as = [] := by
  cases r
  exact ⟨rfl, rfl⟩
theorem Rp.nil_inv' (r : Rp K H W m [] xs as) : xs = [] ∧ as = [] := by
  cases r
  exact ⟨rfl, rfl⟩
/-- shared things alone -/
theorem Rp.head0 (r : Rp K H W m (v :: vs) (x :: xs) []) : Rp K H W m [v] [x] [] ∧ Rp K H W m vs xs [] := by
  obtain ⟨a1, a2, e, r1, r2⟩ := r.head
  have e1 : a1 = [] ∧ a2 = [] := List.append_eq_nil_iff.mp e.symm
  rw [e1.1] at r1
  rw [e1.2] at r2
  exact ⟨r1, r2⟩
theorem Rp.cons0 (r : Rp K H W m [v] [x] []) (q : Rp K H W m vs xs as) : Rp K H W m (v :: vs) (x :: xs) as := r.app q
theorem Rp.app_inv : ∀ {vs vs' : List V} {xs xs' : List AV} {as : List Addr}, vs.length = xs.length → Rp K H W m (vs ++ vs') (xs ++ xs') as → ∃ a1 a2, as = a1 ++ a2 ∧ Rp K H W m vs xs a1 ∧ Rp K H W m vs' xs' a2
  | [], _, [], _, as, _, r => ⟨[], as, rfl, .nil, r⟩
  | [], _, _ :: _, _, _, h, _ => by cases h
  | _ :: _, _, [], _, _, h, _ => by cases h
  | v :: vs, vs', x :: xs, xs', as, h, r => by
    obtain ⟨a1, a2, e, r1, r2⟩ := Rp.head (show Rp K H W m (v :: (vs ++ vs')) (x :: (xs ++ xs')) as from r)
    obtain ⟨b1, b2, e2, q1, q2⟩ := Rp.app_inv (by simpa using h) r2
    exact ⟨a1 ++ b1, b2, by rw [e, e2, List.append_assoc], r1.cons q1, q2⟩
/-- at a place -/
theorem Rp.at_ {j : Nat} (r : Rp K H W m vs xs as) (h : xs[j]? = some x) : ∃ v a1 b a2, vs[j]? = some v ∧ as = a1 ++ (b ++ a2) ∧ Rp K H W m (vs.take j) (xs.take j) a1 ∧ Rp K H W m [v] [x] b ∧ Rp K H W m (vs.drop (j + 1)) (xs.drop (j + 1)) a2 := by
  have hl := r.len
  obtain ⟨hj, ex⟩ := List.getElem?_eq_some_iff.mp h
  have hj2 : j < vs.length := by omega
  have e1 : xs = xs.take j ++ (x :: xs.drop (j + 1)) := by
    conv => lhs; rw [← List.take_append_drop j xs]
    rw [List.drop_eq_getElem_cons hj, ex]
  have e2 : vs = vs.take j ++ (vs[j] :: vs.drop (j + 1)) := by
    conv => lhs; rw [← List.take_append_drop j vs]
    rw [List.drop_eq_getElem_cons hj2]
  have r' := r
  rw [e1, e2] at r'
  obtain ⟨a1, a2, e, r1, r2⟩ := Rp.app_inv (by simp; omega) r'
  obtain ⟨b, c, e3, r3, r4⟩ := r2.head
  exact ⟨vs[j], a1, b, c, by simp [hj2], by rw [e, e3], r1, r3, r4⟩
theorem Rp.put {j : Nat} {a1 b a2 : List Addr} (hj : j < xs.length) (r1 : Rp K H W m (vs.take j) (xs.take j) a1) (r2 : Rp K H W m [v] [x] b) (r3 : Rp K H W m (vs.drop (j + 1)) (xs.drop (j + 1)) a2) (hl : vs.length = xs.length) :
    Rp K H W m (vs.set j v) (xs.set j x) (a1 ++ (b ++ a2)) := by
  rw [List.set_eq_take_append_cons_drop, List.set_eq_take_append_cons_drop, if_pos hj, if_pos (by omega)]
  exact r1.app (r2.cons r3)
theorem Rp.get0 {j : Nat} (r : Rp K H W m vs xs []) (h : xs[j]? = some x) : ∃ v, vs[j]? = some v ∧ Rp K H W m [v] [x] [] := by
  obtain ⟨v, a1, b, a2, e1, e2, _, r2, _⟩ := r.at_ h
  obtain ⟨_, e3⟩ := List.append_eq_nil_iff.mp e2.symm
  obtain ⟨e4, _⟩ := List.append_eq_nil_iff.mp e3
  rw [e4] at r2
  exact ⟨v, e1, r2⟩
/-- whose addresses they are plays no part but by membership -/
theorem Rp.perm (r : Rp K H W m vs xs as) (h : ∀ b, b ∈ W' → b ∈ W) : Rp K H W' m vs xs as :=
  r.keep Kp.refl (fun _ z => nomatch z) (fun b _ n z => n (h b z)) (fun _ _ e => e) (fun _ _ z => nomatch z)
/-- an owned list or dict, given up: it is shared from now on -/
def frz : AV → Option AV
  | .lst _ xs => some (.lst false xs)
  | .dct _ ks xs => some (.dct false ks xs)
  | _ => none
theorem Rp.frz {d : AV} (r : Rp K H W m [v] [x] as) (e : Fk.frz x = some d) (h : ∀ b, b ∈ W' → b ∈ W) (n : ∀ b ∈ as, b ∉ W') : Rp K H W' m [v] [d] [] := by
  cases r with
  | lsI h1 n1 q _ => cases e; exact .lsI h1 (fun z => n1 (h _ z)) (q.perm h) .nil
  | lsO h1 q _ => cases e; exact .lsI h1 (n _ (by simp)) (q.perm h) .nil
  | dcI h1 n1 e1 q _ => cases e; exact .dcI h1 (fun z => n1 (h _ z)) e1 (q.perm h) .nil
  | dcO h1 e1 q _ => cases e; exact .dcI h1 (n _ (by simp)) e1 (q.perm h) .nil
  | _ => cases e
/-- what stands in slots -/
inductive Rs (K : PySem.W.Frag) (H : Hp) (W m : List Addr) : L2.St → List Sl → List Addr → Prop
  | nil : Rs K H W m [] [] []
  | no {o σ r as} (q : Rs K H W m σ r as) : Rs K H W m (o :: σ) (.no :: r) as
  | im {v d σ r as} (h : Rp K H W m [v] [d] []) (q : Rs K H W m σ r as) : Rs K H W m (some v :: σ) (.im d :: r) as
  | ow {v d bs σ r as} (h : Rp K H W m [v] [d] bs) (q : Rs K H W m σ r as) : Rs K H W m (some v :: σ) (.ow d :: r) (bs ++ as)
variable {σ : L2.St} {r : List Sl}
theorem Rs.len (q : Rs K H W m σ r as) : σ.length = r.length := by
  induction q with
  | nil => rfl
  | _ => simp_all
theorem Rs.there (q : Rs K H W m σ r as) : ∀ a ∈ as, ∃ o, H a = some o ∧ mutO o = true := by
  induction q with
  | nil => intro a z; cases z
  | no _ i => exact i
  | im _ _ i => exact i
  | ow h _ i => exact fun b z => (List.mem_append.mp z).elim (h.there b) (i b)
theorem Rs.keep (k : Kp H H' L) (hL : ∀ b ∈ L, b ∈ W) (hW : ∀ b, (∃ o, H b = some o) → b ∉ W → b ∉ W') (hm : ∀ (l : Nat) a, m[l]? = some a → m'[l]? = some a)
    (q : Rs K H W m σ r as) : (∀ b ∈ as, b ∉ L) → Rs K H' W' m' σ r as := by
  induction q with
  | nil => intro _; exact .nil
  | no _ i => intro n; exact .no (i n)
  | im h _ i => intro n; exact .im (h.keep k hL hW hm (fun _ z => nomatch z)) (i n)
  | ow h _ i => intro n; exact .ow (h.keep k hL hW hm (fun b z => n b (by simp [z]))) (i (fun b z => n b (by simp [z])))
theorem Rs.perm (q : Rs K H W m σ r as) (h : ∀ b, b ∈ W' → b ∈ W) : Rs K H W' m σ r as :=
  q.keep Kp.refl (fun _ z => nomatch z) (fun b _ n z => n (h b z)) (fun _ _ e => e) (fun _ _ z => nomatch z)
end
/-! ### slots, by place -/
def getSl : List Sl → Nat → Sl
  | [], _ => .no
  | x :: _, 0 => x
  | _ :: r, n + 1 => getSl r n
def setSl : List Sl → Nat → Sl → List Sl
  | [], _, _ => []
  | _ :: r, 0, y => y :: r
  | x :: r, n + 1, y => x :: setSl r n y
@[simp] theorem getSl_z (x : Sl) (r : List Sl) : getSl (x :: r) 0 = x := rfl
@[simp] theorem getSl_s (x : Sl) (r : List Sl) (n : Nat) : getSl (x :: r) (n + 1) = getSl r n := rfl
@[simp] theorem setSl_z (x : Sl) (r : List Sl) (y : Sl) : setSl (x :: r) 0 y = y :: r := rfl
@[simp] theorem setSl_s (x : Sl) (r : List Sl) (n : Nat) (y : Sl) : setSl (x :: r) (n + 1) y = x :: setSl r n y := rfl
section
variable {K : PySem.W.Frag} {H H' : Hp} {W W' m m' L : List Addr} {as bs : List Addr} {v : V} {d : AV} {σ : L2.St} {r : List Sl} {i : Nat}
theorem Rs.getIm (q : Rs K H W m σ r as) (h : getSl r i = .im d) : ∃ v, σ[i]? = some (some v) ∧ Rp K H W m [v] [d] [] := by
  induction q generalizing i with
  | nil => cases h
  | no _ ih => cases i with
    | zero => cases h
    | succ i => simpa using ih h
  | im h1 _ ih => cases i with
    | zero => cases h; exact ⟨_, rfl, h1⟩
    | succ i => simpa using ih h
  | ow _ _ ih => cases i with
    | zero => cases h
    | succ i => simpa using ih h
/-- an owned thing in a slot, taken out and something put there -/
theorem Rs.getOw (q : Rs K H W m σ r as) (h : getSl r i = .ow d) : ∃ v a1 b a2, σ[i]? = some (some v) ∧ as = a1 ++ (b ++ a2) ∧ Rp K H W m [v] [d] b ∧ Rs K H W m σ (setSl r i .no) (a1 ++ a2) := by
  induction q generalizing i with
  | nil => cases h
  | no _ ih => cases i with
    | zero => cases h
    | succ i =>
      obtain ⟨v, a1, b, a2, e1, e2, h1, h2⟩ := ih h
      exact ⟨v, a1, b, a2, by simpa using e1, e2, h1, .no h2⟩
  | im h0 _ ih => cases i with
    | zero => cases h
    | succ i =>
      obtain ⟨v, a1, b, a2, e1, e2, h1, h2⟩ := ih h
      exact ⟨v, a1, b, a2, by simpa using e1, e2, h1, .im h0 h2⟩
  | @ow v0 d0 bs0 σ r as h0 q0 ih => cases i with
    | zero => cases h; exact ⟨v0, [], bs0, as, rfl, rfl, h0, .no q0⟩
    | succ i =>
      obtain ⟨v, a1, b, a2, e1, e2, h1, h2⟩ := ih h
      refine ⟨v, bs0 ++ a1, b, a2, by simpa using e1, by rw [e2]; simp, h1, ?_⟩
      have h3 := Rs.ow h0 h2
      rw [List.append_assoc]
      exact h3
/-- a slot forgotten: what it owned goes -/
theorem Rs.drop (q : Rs K H W m σ r as) (i : Nat) : ∃ as', (∀ b ∈ as', b ∈ as) ∧ (as.Nodup → as'.Nodup) ∧ Rs K H W m σ (setSl r i .no) as' := by
  induction q generalizing i with
  | nil => exact ⟨[], fun _ z => z, fun z => z, .nil⟩
  | no q0 ih => cases i with
    | zero => exact ⟨_, fun _ z => z, fun z => z, .no q0⟩
    | succ i =>
      obtain ⟨as', h1, h2, h3⟩ := ih i
      exact ⟨as', h1, h2, .no h3⟩
  | im h0 q0 ih => cases i with
    | zero => exact ⟨_, fun _ z => z, fun z => z, .no q0⟩
    | succ i =>
      obtain ⟨as', h1, h2, h3⟩ := ih i
      exact ⟨as', h1, h2, .im h0 h3⟩
  | @ow v0 d0 bs0 σ r as h0 q0 ih => cases i with
    | zero => exact ⟨as, fun _ z => by simp [z], fun z => (List.nodup_append.mp z).2.1, .no q0⟩
    | succ i =>
      obtain ⟨as', h1, h2, h3⟩ := ih i
      refine ⟨bs0 ++ as', fun b z => ?_, fun z => ?_, .ow h0 h3⟩
      · rcases List.mem_append.mp z with z | z
        · simp [z]
        · simp [h1 b z]
      · obtain ⟨n1, n2, n3⟩ := List.nodup_append.mp z
        exact List.nodup_append.mpr ⟨n1, h2 n2, fun a ha b hb => n3 a ha b (h1 b hb)⟩
theorem Rs.setNo (q : Rs K H W m σ (setSl r i .no) as) (hi : i < r.length) (h : Rp K H W m [v] [d] []) : Rs K H W m (σ.set i (some v)) (setSl r i (.im d)) as := by
  induction r generalizing i σ as with
  | nil => simp at hi
  | cons x r ih => cases i with
    | zero =>
      cases q with
      | no q => exact .im h q
    | succ i =>
      have hi' : i < r.length := by simpa using hi
      cases q with
      | no q => exact .no (ih q hi')
      | im h0 q => exact .im h0 (ih q hi')
      | ow h0 q => exact .ow h0 (ih q hi')
theorem Rs.setOw (q : Rs K H W m σ (setSl r i .no) as) (hi : i < r.length) (h : Rp K H W m [v] [d] bs) : ∃ a1 a2, as = a1 ++ a2 ∧ Rs K H W m (σ.set i (some v)) (setSl r i (.ow d)) (a1 ++ (bs ++ a2)) := by
  induction r generalizing i σ as with
  | nil => simp at hi
  | cons x r ih => cases i with
    | zero =>
      cases q with
      | no q => exact ⟨[], as, rfl, by simpa using Rs.ow h q⟩
    | succ i =>
      have hi' : i < r.length := by simpa using hi
      cases q with
      | no q =>
        obtain ⟨a1, a2, e, h1⟩ := ih q hi'
        exact ⟨a1, a2, e, .no h1⟩
      | im h0 q =>
        obtain ⟨a1, a2, e, h1⟩ := ih q hi'
        exact ⟨a1, a2, e, .im h0 h1⟩
      | @ow _ _ b0 _ _ as0 h0 q =>
        obtain ⟨a1, a2, e, h1⟩ := ih q hi'
        refine ⟨b0 ++ a1, a2, by rw [e, List.append_assoc], ?_⟩
        have h3 := Rs.ow h0 h1
        rw [List.append_assoc]
        exact h3
theorem setSl_len : ∀ (r : List Sl) (i : Nat) (y : Sl), (setSl r i y).length = r.length
  | [], _, _ => rfl
  | _ :: _, 0, _ => rfl
  | _ :: r, i + 1, y => by simp [setSl_len r i y]
theorem getSl_lt : ∀ {r : List Sl} {i : Nat}, getSl r i ≠ .no → i < r.length
  | [], _, h => absurd rfl h
  | _ :: _, 0, _ => by simp
  | _ :: r, i + 1, h => by simpa using getSl_lt (r := r) h
end
end Fk
/-! ## states: slots, objects, what is pending -/
namespace Fk
open PySem PySem.Spec PyProof.Rows L2
/-- how a def was entered: U what its callers own, H0 the heap, A0 what the objects own, m0 where they stand; T the tables of code -/
structure Gam where
  U : List Addr
  H0 : Hp
  A0 : List Addr
  m0 : List Addr
  T : List (Addr × Str)
/-- what is pending: shared values, owned ones, ones that are only looked at -/
structure Pd where
  iv : List V := []
  ix : List AV := []
  ov : List V := []
  ox : List AV := []
  bv : List V := []
  bx : List AV := []
abbrev Pd.sh (p : Pd) (v : V) (d : AV) : Pd := { p with iv := v :: p.iv, ix := d :: p.ix }
abbrev Pd.own (p : Pd) (v : V) (d : AV) : Pd := { p with ov := v :: p.ov, ox := d :: p.ox }
abbrev Pd.lk (p : Pd) (v : V) (d : AV) : Pd := { p with bv := v :: p.bv, bx := d :: p.bx }
abbrev Pd.nob (p : Pd) : Pd := { p with bv := [], bx := [] }
abbrev wOf (Γ : Gam) (ar am ao : List Addr) : List Addr := Γ.U ++ (ar ++ (am ++ ao))
/-- the tables of code of T -/
structure Tb (T : List (Addr × Str)) (H : Hp) : Prop where
  t : LamX.Tabs T H
theorem Tb.new {T : List (Addr × Str)} {H : Hp} {q : Addr} {o : HO} (x : Tb T H) (h : H q = none) (no : NoTbl o) : Tb T (upd H q o) :=
  ⟨x.t.ext fun b u e => by rw [upd_ne (ne_of_none e h)]; exact e⟩
structure Rl (K : PySem.W.Frag) (Γ : Gam) (σ : L2.St) (H : Hp) (st : Ss) (p : Pd) (m ar am ao ab : List Addr) : Prop where
  rs : Rs K H (wOf Γ ar am ao) m σ st.r ar
  rm : Rp K H (wOf Γ ar am ao) m (m.map V.ref) st.s am
  ri : Rp K H (wOf Γ ar am ao) m p.iv p.ix []
  ro : Rp K H (wOf Γ ar am ao) m p.ov p.ox ao
  rb : Rp K H (wOf Γ ar am ao) m p.bv p.bx ab
  nd : (wOf Γ ar am ao).Nodup
  fr : ∀ a ∈ ar ++ (am ++ ao), a ∈ Γ.A0 ∨ Γ.H0 a = none
  kp : ∀ a o, Γ.H0 a = some o → a ∉ Γ.A0 → ∃ o', H a = some o' ∧ (NoTbl o → o' = o)
  pm : ∀ (l : Nat) a, Γ.m0[l]? = some a → m[l]? = some a
  gu : ∀ a ∈ Γ.U, (∃ o, Γ.H0 a = some o ∧ mutO o = true) ∧ a ∉ Γ.A0
  tb : Tb Γ.T H
def Rel (K : PySem.W.Frag) (Γ : Gam) (σ : L2.St) (H : Hp) (st : Ss) (p : Pd) : Prop := ∃ m ar am ao ab, Rl K Γ σ H st p m ar am ao ab
theorem mut_noTbl {o : HO} (h : mutO o = true) : NoTbl o := fun ps z => by
  subst z
  cases h
section
variable {K : PySem.W.Frag} {Γ : Gam} {σ : L2.St} {H H' : Hp} {st : Ss} {p : Pd} {m ar am ao ab : List Addr}
/-- all owned ones stand -/
theorem Rl.own (R : Rl K Γ σ H st p m ar am ao ab) : ∀ a ∈ wOf Γ ar am ao, ∃ o, H a = some o ∧ mutO o = true := fun a ha => by
  rcases List.mem_append.mp ha with h | h
  · obtain ⟨⟨o, e, q⟩, n⟩ := R.gu a h
    obtain ⟨o', e', f⟩ := R.kp a o e n
    rw [f (mut_noTbl q)] at e'
    exact ⟨o, e', q⟩
  · rcases List.mem_append.mp h with h | h
    · exact R.rs.there a h
    · rcases List.mem_append.mp h with h | h
      · exact R.rm.there a h
      · exact R.ro.there a h
theorem Rl.fresh (R : Rl K Γ σ H st p m ar am ao ab) {q : Addr} (h : H q = none) : q ∉ wOf Γ ar am ao := fun z => by
  obtain ⟨o, e, _⟩ := R.own q z
  rw [h] at e
  cases e
theorem Rl.free0 (R : Rl K Γ σ H st p m ar am ao ab) {q : Addr} (h : H q = none) : q ∈ Γ.A0 ∨ Γ.H0 q = none := by
  by_cases c : q ∈ Γ.A0
  · exact .inl c
  · right
    cases e : Γ.H0 q with
    | none => rfl
    | some o =>
      obtain ⟨o', e', _⟩ := R.kp q o e c
      rw [h] at e'
      cases e'
theorem tabs_put {T : List (Addr × Str)} {a : Addr} {o u : HO} (x : Tb T H) (h : H a = some u) (q : mutO u = true) (no : NoTbl o := by intro ps z; cases z) : Tb T (upd H a o) := by
  refine ⟨fun p hp => ?_⟩
  obtain ⟨ps, e, tr, f⟩ := x.t p hp
  refine ⟨ps, ?_, tr, fun pos cv hc => ?_⟩
  · rw [upd_ne]
    · exact e
    · rintro rfl
      rw [e] at h
      cases h
      cases q
  · obtain ⟨c, e1, e2⟩ := f pos cv hc
    refine ⟨c, e1, ?_⟩
    rw [upd_ne]
    · exact e2
    · rintro rfl
      rw [e2] at h
      cases h
      cases q
/-- a new thing is laid: nothing else turns -/
theorem Rl.up (R : Rl K Γ σ H st p m ar am ao ab) {q : Addr} (h : H q = none) (o : HO) (no : NoTbl o := by intro ps z; cases z) : Rl K Γ σ (upd H q o) st p m ar am ao ab where
  rs := R.rs.keep (Kp.new h) (fun _ z => nomatch z) (fun _ _ n => n) (fun _ _ e => e) (fun _ _ z => nomatch z)
  rm := R.rm.keep (Kp.new h) (fun _ z => nomatch z) (fun _ _ n => n) (fun _ _ e => e) (fun _ _ z => nomatch z)
  ri := R.ri.keep (Kp.new h) (fun _ z => nomatch z) (fun _ _ n => n) (fun _ _ e => e) (fun _ _ z => nomatch z)
  ro := R.ro.keep (Kp.new h) (fun _ z => nomatch z) (fun _ _ n => n) (fun _ _ e => e) (fun _ _ z => nomatch z)
  rb := R.rb.keep (Kp.new h) (fun _ z => nomatch z) (fun _ _ n => n) (fun _ _ e => e) (fun _ _ z => nomatch z)
  nd := R.nd
  fr := R.fr
  kp := fun a u e n => by
    obtain ⟨o', e', f⟩ := R.kp a u e n
    exact ⟨o', by rw [upd_ne (ne_of_none e' h)]; exact e', f⟩
  pm := R.pm
  gu := R.gu
  tb := R.tb.new h no
/-- values pending: dropped, taken -/
theorem Rl.setI (R : Rl K Γ σ H st p m ar am ao ab) {vs : List V} {xs : List AV} (h : Rp K H (wOf Γ ar am ao) m vs xs []) : Rl K Γ σ H st { p with iv := vs, ix := xs } m ar am ao ab :=
  ⟨R.rs, R.rm, h, R.ro, R.rb, R.nd, R.fr, R.kp, R.pm, R.gu, R.tb⟩
theorem Rl.setB (R : Rl K Γ σ H st p m ar am ao ab) {vs : List V} {xs : List AV} {ab' : List Addr} (h : Rp K H (wOf Γ ar am ao) m vs xs ab') : Rl K Γ σ H st { p with bv := vs, bx := xs } m ar am ao ab' :=
  ⟨R.rs, R.rm, R.ri, R.ro, h, R.nd, R.fr, R.kp, R.pm, R.gu, R.tb⟩
theorem Rl.nob (R : Rl K Γ σ H st p m ar am ao ab) : Rl K Γ σ H st p.nob m ar am ao [] := R.setB .nil
/-- a new tuple -/
theorem Rl.tup (R : Rl K Γ σ H st p m ar am ao ab) {q : Addr} {vs : List V} {xs : List AV} (h : H q = none) (r : Rp K H (wOf Γ ar am ao) m vs xs []) : Rl K Γ σ (upd H q (.tup vs)) st (p.sh (.ref q) (.tup xs)) m ar am ao ab := by
  have R' := R.up h (.tup vs)
  have r' := r.keep (Kp.new (o := .tup vs) h) (fun _ z => nomatch z) (fun _ _ n => n) (fun _ _ e => e) (fun _ z => nomatch z)
  exact R'.setI (.tup (SqT.of upd_same) r' R'.ri)
/-- a new shared list, dict -/
theorem Rl.lst (R : Rl K Γ σ H st p m ar am ao ab) {q : Addr} {vs : List V} {xs : List AV} (h : H q = none) (r : Rp K H (wOf Γ ar am ao) m vs xs []) : Rl K Γ σ (upd H q (.lst vs)) st (p.sh (.ref q) (.lst false xs)) m ar am ao ab := by
  have R' := R.up h (.lst vs)
  have r' := r.keep (Kp.new (o := .lst vs) h) (fun _ z => nomatch z) (fun _ _ n => n) (fun _ _ e => e) (fun _ z => nomatch z)
  exact R'.setI (.lsI upd_same (R.fresh h) r' R'.ri)
/-- how what is kept passes over -/
structure Tr (H H' : Hp) (W W' m m' L : List Addr) : Prop where
  k : Kp H H' L
  hL : ∀ b ∈ L, b ∈ W
  hW : ∀ b, (∃ o, H b = some o) → b ∉ W → b ∉ W'
  hm : ∀ (l : Nat) a, m[l]? = some a → m'[l]? = some a
variable {W W' m' L : List Addr} {vs : List V} {xs : List AV} {as : List Addr} {r : List Sl}
theorem Tr.rp (t : Tr H H' W W' m m' L) (h : Rp K H W m vs xs as) (n : ∀ b ∈ as, b ∉ L) : Rp K H' W' m' vs xs as := h.keep t.k t.hL t.hW t.hm n
theorem Tr.rp0 (t : Tr H H' W W' m m' L) (h : Rp K H W m vs xs []) : Rp K H' W' m' vs xs [] := h.keep t.k t.hL t.hW t.hm (fun _ z => nomatch z)
theorem Tr.rs (t : Tr H H' W W' m m' L) (h : Rs K H W m σ r as) (n : ∀ b ∈ as, b ∉ L) : Rs K H' W' m' σ r as := h.keep t.k t.hL t.hW t.hm n
/-- a fresh thing that is owned -/
theorem Tr.new {q : Addr} {o : HO} (h : H q = none) (hw : ∀ b, b ∈ W' → b ∈ W ∨ b = q) : Tr H (upd H q o) W W' m m [] :=
  ⟨Kp.new h, (fun _ z => nomatch z), fun b ⟨o, e⟩ n z => (hw b z).elim n (fun z => by rw [z, h] at e; cases e), fun _ _ e => e⟩
/-- an owned thing is written -/
theorem Tr.put {q : Addr} {o u : HO} (h : H q = some u) (hm : mutO u = true) (hq : q ∈ W) (hw : ∀ b, b ∈ W' → b ∈ W) : Tr H (upd H q o) W W' m m [q] :=
  ⟨Kp.put h hm, fun b z => by rw [List.mem_singleton.mp z]; exact hq, fun b _ n z => n (hw b z), fun _ _ e => e⟩
theorem Tr.same (hw : ∀ b, b ∈ W' → b ∈ W) : Tr H H W W' m m [] := ⟨Kp.refl, (fun _ z => nomatch z), fun b _ n z => n (hw b z), fun _ _ e => e⟩
/-- a new list, dict that is owned by what is pending -/
theorem Rl.newO (R : Rl K Γ σ H st p m ar am ao ab) {q : Addr} {o : HO} {d : AV} (h : H q = none) (hr : ∀ {H' : Hp} {W' : List Addr}, Tr H H' (wOf Γ ar am ao) W' m m [] → H' q = some o → Rp K H' W' m [.ref q] [d] [q]) (no : NoTbl o := by intro ps z; cases z) :
    Rl K Γ σ (upd H q o) st (p.own (.ref q) d) m ar am (q :: ao) ab := by
  have t : Tr H (upd H q o) (wOf Γ ar am ao) (wOf Γ ar am (q :: ao)) m m [] := Tr.new h fun b z => by
    simp only [wOf, List.mem_append, List.mem_cons] at z ⊢
    grind
  have nq := R.fresh h
  refine ⟨t.rs R.rs (fun _ _ z => nomatch z), t.rp R.rm (fun _ _ z => nomatch z), t.rp0 R.ri, (hr t upd_same).cons (t.rp R.ro (fun _ _ z => nomatch z)), t.rp R.rb (fun _ _ z => nomatch z), ?_, ?_, ?_, R.pm, R.gu, ?_⟩
  · have h := R.nd
    simp only [wOf, List.nodup_append, List.nodup_cons, List.mem_append, List.mem_cons] at h nq ⊢
    grind
  · intro a ha
    have h1 := R.fr a
    have h2 := R.free0 h
    simp only [List.mem_append, List.mem_cons] at h1 ha
    grind
  · intro a u e n
    obtain ⟨o', e', f⟩ := R.kp a u e n
    exact ⟨o', by rw [upd_ne (ne_of_none e' h)]; exact e', f⟩
  · exact R.tb.new h no
end
/-! ### readings -/
/-- an expression that gives a shared value -/
def rdE (K : PySem.W.Frag) (Γ : Gam) (W : WX) (m : M AV) : TE := fun σ H Q => ∃ st p, Rel K Γ σ H st p ∧ match m st with
  | .ok d st' => ∀ v H', Rel K Γ σ H' st' (p.nob.sh v d) → Q v H'
  | .err c st' => ∀ H', Rel K Γ σ H' st' p.nob → W (.ref (He.ga K c)) none σ H'
  | .bad => False
/-- .. a new one that is owned -/
def rdO (K : PySem.W.Frag) (Γ : Gam) (W : WX) (m : M AV) : TE := fun σ H Q => ∃ st p, Rel K Γ σ H st p ∧ match m st with
  | .ok d st' => ∀ v H', Rel K Γ σ H' st' (p.nob.own v d) → Q v H'
  | .err c st' => ∀ H', Rel K Γ σ H' st' p.nob → W (.ref (He.ga K c)) none σ H'
  | .bad => False
/-- .. that is looked at alone: nothing turns -/
def rdP (K : PySem.W.Frag) (Γ : Gam) (m : Ss → Option AV) : TE := fun σ H Q => ∃ st p d, Rel K Γ σ H st p ∧ m st = some d ∧ ∀ v, Rel K Γ σ H st (p.lk v d) → Q v H
def rdT (K : PySem.W.Frag) (Γ : Gam) (W : WX) (m : M Bool) : TT := fun σ H Q => ∃ st p, Rel K Γ σ H st p ∧ match m st with
  | .ok b st' => ∀ H', Rel K Γ σ H' st' p.nob → Q b H'
  | .err c st' => ∀ H', Rel K Γ σ H' st' p.nob → W (.ref (He.ga K c)) none σ H'
  | .bad => False
def rdA (K : PySem.W.Frag) (Γ : Gam) (W : WX) (m : M (List AV)) : TA := fun σ H Q => ∃ st p, Rel K Γ σ H st p ∧ match m st with
  | .ok ds st' => ∀ vs H', vs.length = ds.length → Rel K Γ σ H' st' { p.nob with iv := vs ++ p.iv, ix := ds ++ p.ix } → Q vs H'
  | .err c st' => ∀ H', Rel K Γ σ H' st' p.nob → W (.ref (He.ga K c)) none σ H'
  | .bad => False
def rdS (K : PySem.W.Frag) (Γ : Gam) (W : WX) (m : M Fl) : TS := fun D σ H => ∃ st p, Rel K Γ σ H st p ∧ p.nob = p ∧ match m st with
  | .ok .nx st' => ∀ σ' H', Rel K Γ σ' H' st' p → D.nx σ' H'
  | .ok (.rt d) st' => ∀ v σ' H', Rel K Γ σ' H' st' (p.sh v d) → D.rt v H'
  | .ok .bk st' => ∀ σ' H', Rel K Γ σ' H' st' p → D.bk σ' H'
  | .ok .ct st' => ∀ σ' H', Rel K Γ σ' H' st' p → D.ct σ' H'
  | .err c st' => ∀ σ' H', Rel K Γ σ' H' st' p → W (.ref (He.ga K c)) none σ' H'
  | .bad => False
def Res.bind {α β γ : Type} (x : Res α γ) (k : α → γ → Res β γ) : Res β γ := match x with
  | .ok a s => k a s
  | .err c s => .err c s
  | .bad => .bad
@[simp] theorem Res.bind_ok {α β γ : Type} (a : α) (s : γ) (k : α → γ → Res β γ) : (Res.ok a s).bind k = k a s := rfl
@[simp] theorem Res.bind_err {α β γ : Type} (c : Str) (s : γ) (k : α → γ → Res β γ) : (Res.err c s : Res α γ).bind k = .err c s := rfl
@[simp] theorem Res.bind_bad {α β γ : Type} (k : α → γ → Res β γ) : (Res.bad : Res α γ).bind k = .bad := rfl
def ofO {α γ : Type} : Option α → γ → Res α γ
  | some d, s => .ok d s
  | none, _ => .bad
@[simp] theorem ofO_some {α γ : Type} (d : α) (s : γ) : ofO (some d) s = .ok d s := rfl
@[simp] theorem ofO_none {α γ : Type} (s : γ) : ofO (none : Option α) s = .bad := rfl
/-! ### terms -/
def eVar (i : Nat) : M AV := fun st => match getSl st.r i with
  | .im d => .ok d st
  | .ow d => match frz d with
    | some d' => .ok d' ⟨setSl st.r i (.im d'), st.s⟩
    | none => .bad
  | .no => .bad
def eC (d : AV) : M AV := fun st => .ok d st
def e1 (f : AV → Option AV) (a : M AV) : M AV := fun st => (a st).bind fun x s1 => ofO (f x) s1
def e2 (f : AV → AV → Option AV) (a b : M AV) : M AV := fun st => (a st).bind fun x s1 => (b s1).bind fun y s2 => ofO (f x y) s2
section
variable {X : Cx} {Γ : Gam} {W : WX} {σ : L2.St} {H H' : Hp} {st : Ss} {p : Pd}
theorem pe_imp {e : Expr} {t t' : TE} (h : PE X e t) (i : ∀ σ H Q, t' σ H Q → t σ H Q) : PE X e t' := ⟨fun pins s σ H Q I q => h.run pins s σ H Q I (i σ H Q q)⟩
theorem pt_imp {e : Expr} {t t' : TT} (h : PT X e t) (i : ∀ σ H Q, t' σ H Q → t σ H Q) : PT X e t' := ⟨fun pins s σ H Q I q => h.run pins s σ H Q I (i σ H Q q)⟩
theorem pw_imp {e : Expr} {t t' : TT} (h : PW X e t) (i : ∀ σ H Q, t' σ H Q → t σ H Q) : PW X e t' := ⟨fun wh pins s σ H Q I q => h.run wh pins s σ H Q I (i σ H Q q)⟩
theorem pa_imp {es : List Expr} {t t' : TA} (h : PA X es t) (i : ∀ σ H Q, t' σ H Q → t σ H Q) : PA X es t' := ⟨fun pos pins s σ H Q I q => h.run pos pins s σ H Q I (i σ H Q q)⟩
theorem ps_imp {s : Stmt} {t t' : TS} (h : PS X s t) (i : ∀ D σ H, t' D σ H → t D σ H) : PS X s t' := ⟨fun pins s σ H D I q => h.run pins s σ H D I (i D σ H q)⟩
theorem pss_imp {s : List Stmt} {t t' : TS} (h : PSs X s t) (i : ∀ D σ H, t' D σ H → t D σ H) : PSs X s t' := ⟨fun pins s σ H D I q => h.run pins s σ H D I (i D σ H q)⟩
variable {K : PySem.W.Frag}
theorem Rel.nob (R : Rel K Γ σ H st p) : Rel K Γ σ H st p.nob := by
  obtain ⟨m, ar, am, ao, ab, R⟩ := R
  exact ⟨m, ar, am, ao, [], R.nob⟩
theorem Rel.shC (R : Rel K Γ σ H st p) {v : V} {d : AV} (h : ∀ W m, Rp K H W m [v] [d] []) : Rel K Γ σ H st (p.sh v d) := by
  obtain ⟨m, ar, am, ao, ab, R⟩ := R
  exact ⟨m, ar, am, ao, ab, R.setI ((h _ _).cons0 R.ri)⟩
theorem Rel.drop {v : V} {d : AV} (R : Rel K Γ σ H st (p.sh v d)) : Rel K Γ σ H st p := by
  obtain ⟨m, ar, am, ao, ab, R⟩ := R
  exact ⟨m, ar, am, ao, ab, R.setI R.ri.head0.2⟩
/-- a name -/
theorem s_var {x : Str} {i : Nat} {pos : Pos} (hN : X.N[i]? = some x) (hv : Vis X.env.scope x) (hd : (x == ("__debug__" : Str)) = false := by decide) (hcd : (x == ("__classdict__" : Str)) = false := by decide) : PE X (.Name x pos) (rdE X.K Γ W (eVar i)) := by
  refine pe_imp (pe_var hN hv hd hcd) fun σ H Q h => ?_
  obtain ⟨st, p, ⟨m, ar, am, ao, ab, R⟩, h⟩ := h
  unfold eVar at h
  cases e : getSl st.r i with
  | no => rw [e] at h; exact h.elim
  | im d =>
    rw [e] at h
    obtain ⟨v, ev, rv⟩ := R.rs.getIm e
    exact ⟨v, ev, h v H ⟨m, ar, am, ao, [], R.nob.setI (rv.cons0 R.ri)⟩⟩
  | ow d =>
    rw [e] at h
    cases ef : frz d with
    | none => simp only [ef] at h
    | some d' =>
      simp only [ef] at h
      obtain ⟨v, a1, b, a2, ev, ea, rv, rn⟩ := R.rs.getOw e
      refine ⟨v, ev, h v H ?_⟩
      have nd := R.nd
      have fr := R.fr
      subst ea
      have t : Tr H H (wOf Γ (a1 ++ (b ++ a2)) am ao) (wOf Γ (a1 ++ a2) am ao) m m [] := Tr.same fun c z => by
        simp only [wOf, List.mem_append] at z ⊢
        grind
      have rd : Rp X.K H (wOf Γ (a1 ++ a2) am ao) m [v] [d'] [] := rv.frz ef (fun c z => by
        simp only [wOf, List.mem_append] at z ⊢
        grind) (fun c z => by
        simp only [wOf, List.nodup_append, List.mem_append] at nd ⊢
        grind)
      have hi : i < st.r.length := getSl_lt (by rw [e]; exact fun z => nomatch z)
      have r2 := (t.rs rn (fun _ _ z => nomatch z)).setNo hi rd
      have es : σ.set i (some v) = σ := by
        apply List.ext_getElem?
        intro j
        by_cases c : i = j
        · subst c
          rw [List.getElem?_set_self (by rw [R.rs.len]; exact hi), ev]
        · rw [List.getElem?_set_ne c]
      rw [es] at r2
      refine ⟨m, a1 ++ a2, am, ao, [], r2, t.rp R.rm (fun _ _ z => nomatch z), rd.cons0 (t.rp0 R.ri), t.rp R.ro (fun _ _ z => nomatch z), .nil, ?_, ?_, R.kp, R.pm, R.gu, R.tb⟩
      · simp only [wOf, List.nodup_append, List.mem_append] at nd ⊢
        grind
      · intro a ha
        have h1 := fr a
        simp only [List.mem_append] at h1 ha
        grind
theorem s_int {i : Int} {j : Nat} {pos : Pos} : PE X (.Constant (.int i) j pos) (rdE X.K Γ W (eC (.int i))) := by
  refine pe_imp pe_int fun σ H Q h => ?_
  obtain ⟨st, p, R, h⟩ := h
  exact h _ _ (R.nob.shC fun _ _ => .int .nil)
theorem s_bl {b : Bool} {j : Nat} {pos : Pos} : PE X (.Constant (.bool b) j pos) (rdE X.K Γ W (eC (.bl b))) := by
  refine pe_imp pe_bl fun σ H Q h => ?_
  obtain ⟨st, p, R, h⟩ := h
  exact h _ _ (R.nob.shC fun _ _ => .bl .nil)
theorem s_non {j : Nat} {pos : Pos} : PE X (.Constant .none j pos) (rdE X.K Γ W (eC .non)) := by
  refine pe_imp pe_non fun σ H Q h => ?_
  obtain ⟨st, p, R, h⟩ := h
  exact h _ _ (R.nob.shC fun _ _ => .non .nil)
theorem s_str {x : Str} {j : Nat} {pos : Pos} : PE X (.Constant (.str x) j pos) (rdE X.K Γ W (eC (.str x))) := by
  refine pe_imp pe_str fun σ H Q h => ?_
  obtain ⟨st, p, R, h⟩ := h
  exact h _ _ (R.nob.shC fun _ _ => .str .nil)
/-- an operator: from two shared values a shared one -/
def Op2 (K : PySem.W.Frag) (r : R2) (f : AV → AV → Option AV) : Prop := ∀ (Γ : Gam) (σ : L2.St) (H : Hp) (st : Ss) (p : Pd) (m ar am ao ab : List Addr) (v1 v2 : V) (x y d : AV) (a1 a2 : List Addr) (Q : VK), Rl K Γ σ H st p m ar am ao ab → Rp K H (wOf Γ ar am ao) m [v1] [x] a1 → Rp K H (wOf Γ ar am ao) m [v2] [y] a2 → f x y = some d → (∀ v H', Rel K Γ σ H' st (p.nob.sh v d) → Q v H') → r v1 v2 H Q
theorem Rel.one {v : V} {x : AV} (R : Rel K Γ σ H st (p.sh v x)) : ∃ m ar am ao ab, Rl K Γ σ H st p m ar am ao ab ∧ Rp K H (wOf Γ ar am ao) m [v] [x] [] := by
  obtain ⟨m, ar, am, ao, ab, R⟩ := R
  exact ⟨m, ar, am, ao, ab, R.setI R.ri.head0.2, R.ri.head0.1⟩
theorem Rel.two {v1 v2 : V} {x y : AV} (R : Rel K Γ σ H st ((p.sh v1 x).sh v2 y)) : ∃ m ar am ao ab, Rl K Γ σ H st p m ar am ao ab ∧ Rp K H (wOf Γ ar am ao) m [v1] [x] [] ∧ Rp K H (wOf Γ ar am ao) m [v2] [y] [] := by
  obtain ⟨m, ar, am, ao, ab, R⟩ := R
  exact ⟨m, ar, am, ao, ab, R.setI R.ri.head0.2.head0.2, R.ri.head0.2.head0.1, R.ri.head0.1⟩
/-- two in a row -/
theorem two_in {ma mb : M AV} {Q : VK} {f : AV → AV → Option AV} {r : R2} (ho : Op2 K r f) (h : rdE K Γ W (e2 f ma mb) σ H Q) : rdE K Γ W ma σ H fun x H1 => rdE K Γ W mb σ H1 fun y H2 => r x y H2 Q := by
  obtain ⟨st, p, R, h⟩ := h
  refine ⟨st, p, R, ?_⟩
  unfold e2 at h
  cases ea : ma st with
  | bad => rw [ea] at h; exact h
  | err c s1 => rw [ea] at h; exact h
  | ok x s1 =>
    rw [ea] at h
    intro v1 H1 R1
    refine ⟨s1, _, R1, ?_⟩
    simp only [Res.bind_ok] at h
    cases eb : mb s1 with
    | bad => rw [eb] at h; exact h
    | err c s2 =>
      rw [eb] at h
      intro H2 R2
      exact h H2 R2.drop
    | ok y s2 =>
      rw [eb] at h
      simp only [Res.bind_ok] at h
      intro v2 H2 R2
      cases ef : f x y with
      | none => simp only [ef, ofO_none] at h
      | some d =>
        simp only [ef, ofO_some] at h
        obtain ⟨m, ar, am, ao, ab, R3, r1, r2⟩ := R2.two
        exact ho Γ σ H2 s2 _ m ar am ao ab v1 v2 x y d _ _ Q R3 r1 r2 ef h
theorem s_op {a b : Expr} {op : Operator} {r : R2} {f : AV → AV → Option AV} {ma mb : M AV} {pos : Pos} (hr : OpR X (binaryOp op) r) (ho : Op2 X.K r f) (ha : PE X a (rdE X.K Γ W ma)) (hb : PE X b (rdE X.K Γ W mb)) : PE X (.BinOp a op b pos) (rdE X.K Γ W (e2 f ma mb)) :=
  pe_imp (pe_op hr ha hb) fun σ H Q h => two_in ho h
theorem s_cmp {a b : Expr} {op : CmpOp} {r : R2} {f : AV → AV → Option AV} {ma mb : M AV} {pos : Pos} (hr : OpR X (compareOp op) r) (ho : Op2 X.K r f) (ha : PE X a (rdE X.K Γ W ma)) (hb : PE X b (rdE X.K Γ W mb)) (hm : behindInMarks op b = false) : PE X (.Compare a [op] [b] pos) (rdE X.K Γ W (e2 f ma mb)) :=
  pe_imp (pe_cmpR hr ha hb hm) fun σ H Q h => two_in ho h
/-- a truth, as a test -/
def tOf (m : M AV) : M Bool := fun st => (m st).bind fun x s1 => match x with
  | .bl b => .ok b s1
  | _ => .bad
theorem rp_bl {b : Bool} {v : V} {W m : List Addr} {as : List Addr} (h : Rp K H W m [v] [.bl b] as) : v = .bl b := by
  cases h
  rfl
theorem tOf_in {m : M AV} {Q : Bool → Hp → Prop} (h : rdT K Γ W (tOf m) σ H Q) : tTest (rdE K Γ W m) σ H Q := by
  obtain ⟨st, p, R, h⟩ := h
  refine ⟨st, p, R, ?_⟩
  unfold tOf at h
  cases e : m st with
  | bad => rw [e] at h; exact h
  | err c s1 => rw [e] at h; exact h
  | ok x s1 =>
    rw [e] at h
    simp only [Res.bind_ok] at h
    intro v H1 R1
    cases x with
    | bl b =>
      obtain ⟨m, ar, am, ao, ab, R2⟩ := id R1
      exact ⟨b, rp_bl R2.ri.head0.1, h H1 R1.drop⟩
    | _ => exact h.elim
theorem s_tval {e : Expr} {m : M AV} (h : PE X e (rdE X.K Γ W m)) (he : ∀ whole, isTrue e X.env whole = (do let v ← whole; standAt e.pos; holding [v] (truthy v)) := by intro _; rfl) : PT X e (rdT X.K Γ W (tOf m)) :=
  pt_imp (pt_val h he) fun σ H Q q => tOf_in q
theorem s_tcmp {a b : Expr} {op : CmpOp} {r : R2} {f : AV → AV → Option AV} {ma mb : M AV} {pos : Pos} (hr : OpR X (compareOp op) r) (ho : Op2 X.K r f) (ha : PE X a (rdE X.K Γ W ma)) (hb : PE X b (rdE X.K Γ W mb)) (hm : behindInMarks op b = false) : PT X (.Compare a [op] [b] pos) (rdT X.K Γ W (tOf (e2 f ma mb))) := by
  refine pt_imp (pt_cmpR hr ha hb hm) fun σ H Q h => ?_
  obtain ⟨st, p, R, h⟩ := tOf_in h
  exact two_in ho ⟨st, p, R, h⟩
end
end Fk
/-! ## operators on plain values -/
namespace Fk
open PySem PySem.Spec PyProof.Rows L2
section
variable {K : PySem.W.Frag} {Γ : Gam} {σ : L2.St} {H : Hp} {st : Ss} {p : Pd} {W m as : List Addr} {v v1 v2 : V} {x y d : AV} {xs ys : List AV} {vs : List V}
theorem Rp.int_i {i : Int} (h : Rp K H W m [v] [.int i] as) : v = .int i := by cases h; rfl
theorem Rp.bl_i {i : Bool} (h : Rp K H W m [v] [.bl i] as) : v = .bl i := by cases h; rfl
theorem Rp.str_i {i : Str} (h : Rp K H W m [v] [.str i] as) : v = .str i := by cases h; rfl
theorem Rp.tup_i (h : Rp K H W m [v] [.tup xs] as) : ∃ a us, v = .ref a ∧ SqT K H a us ∧ Rp K H W m us xs [] := by
  cases h with
  | tup h q _ => exact ⟨_, _, rfl, h, q⟩
theorem Rp.lst_i {o : Bool} (h : Rp K H W m [v] [.lst o xs] as) : ∃ a us, v = .ref a ∧ H a = some (.lst us) ∧ Rp K H W m us xs [] := by
  cases h with
  | lsI h _ q _ => exact ⟨_, _, rfl, h, q⟩
  | lsO h q _ => exact ⟨_, _, rfl, h, q⟩
theorem Rp.lsO_i (h : Rp K H W m [v] [.lst true xs] as) : ∃ a us, v = .ref a ∧ as = [a] ∧ H a = some (.lst us) ∧ Rp K H W m us xs [] := by
  cases h with
  | lsO h q r =>
    obtain ⟨_, rfl⟩ := r.nil_inv
    exact ⟨_, _, rfl, rfl, h, q⟩
theorem Rp.dct_i {o : Bool} {ks : List Key} (h : Rp K H W m [v] [.dct o ks xs] as) : ∃ a kvs, v = .ref a ∧ H a = some (.dK kvs) ∧ kvs.map (·.1) = ks ∧ Rp K H W m (kvs.map (·.2)) xs [] := by
  cases h with
  | dcI h _ e q _ => exact ⟨_, _, rfl, h, e, q⟩
  | dcO h e q _ => exact ⟨_, _, rfl, h, e, q⟩
theorem Rp.loc_i {l : Nat} (h : Rp K H W m [v] [.loc l] as) : ∃ a, v = .ref a ∧ m[l]? = some a := by
  cases h with
  | loc h _ => exact ⟨_, rfl, h⟩
theorem Rp.scr_i (h : Rp K H W m [v] [.scr xs] as) : ∃ a us, v = .ref a ∧ Scr K H a us ∧ Rp K H W m us xs [] := by
  cases h with
  | scr h q _ => exact ⟨_, _, rfl, h, q⟩
theorem Rl.rel {ar am ao ab : List Addr} (R : Rl K Γ σ H st p m ar am ao ab) : Rel K Γ σ H st p := ⟨m, ar, am, ao, ab, R⟩
theorem Rl.sh {ar am ao ab : List Addr} (R : Rl K Γ σ H st p m ar am ao ab) (h : Rp K H (wOf Γ ar am ao) m [v] [x] []) : Rel K Γ σ H st (p.sh v x) := ⟨m, ar, am, ao, ab, R.setI (h.cons0 R.ri)⟩
theorem Rel.int (R : Rel K Γ σ H st p) (i : Int) : Rel K Γ σ H st (p.sh (.int i) (.int i)) := R.shC fun _ _ => .int .nil
theorem Rel.bl (R : Rel K Γ σ H st p) (i : Bool) : Rel K Γ σ H st (p.sh (.bl i) (.bl i)) := R.shC fun _ _ => .bl .nil
theorem Rel.str (R : Rel K Γ σ H st p) (i : Str) : Rel K Γ σ H st (p.sh (.str i) (.str i)) := R.shC fun _ _ => .str .nil
theorem Rel.non (R : Rel K Γ σ H st p) : Rel K Γ σ H st (p.sh .non .non) := R.shC fun _ _ => .non .nil
end
/-! ### data -/
mutual
def dat : AV → PyData
  | .non => .none
  | .bl b => .bool b
  | .int i => .int i
  | .str x => .str x
  | .tup xs => .tuple (dats xs)
  | .lst _ xs => .list (dats xs)
  | .nst xs => .list (dats xs)
  | .scr xs => .list (dats xs)
  | _ => .none
def dats : List AV → List PyData
  | [] => []
  | x :: xs => dat x :: dats xs
end
mutual
/-- plain data -/
def pl : AV → Bool
  | .non => true
  | .bl _ => true
  | .int _ => true
  | .str _ => true
  | .tup xs => pls xs
  | .lst _ xs => pls xs
  | .nst xs => pls xs
  | .scr xs => pls xs
  | _ => false
def pls : List AV → Bool
  | [] => true
  | x :: xs => pl x && pls xs
end
theorem Rp.dps {K : PySem.W.Frag} {H : Hp} {W m as : List Addr} {vs : List V} {xs : List AV} (r : Rp K H W m vs xs as) : pls xs = true → DpAll K H vs (dats xs) := by
  have ba : ∀ {a b : Bool}, (a && b) = true → a = true ∧ b = true := fun h => Bool.and_eq_true_iff.mp h
  induction r with
  | nil => intro _; exact .nil
  | non _ i => intro h; exact .cons .non (i (ba h).2)
  | bl _ i => intro h; exact .cons (.bl _) (i (ba h).2)
  | int _ i => intro h; exact .cons (.int _) (i (ba h).2)
  | str _ i => intro h; exact .cons (.str _) (i (ba h).2)
  | tup h _ _ i1 i2 => intro e; exact .cons (.tup h (i1 (ba e).1)) (i2 (ba e).2)
  | lsI h _ _ _ i1 i2 => intro e; exact .cons (.lst (SqL.of h) (i1 (ba e).1)) (i2 (ba e).2)
  | lsO h _ _ i1 i2 => intro e; exact .cons (.lst (SqL.of h) (i1 (ba e).1)) (i2 (ba e).2)
  | nst h _ _ i1 i2 => intro e; exact .cons (.lst (SqL.of h) (i1 (ba e).1)) (i2 (ba e).2)
  | scr h _ _ i1 i2 => intro e; exact .cons (.lst h.sq (i1 (ba e).1)) (i2 (ba e).2)
  | _ => intro h; exact nomatch (ba h).1
theorem Rp.dp {K : PySem.W.Frag} {H : Hp} {W m as : List Addr} {v : V} {x : AV} (r : Rp K H W m [v] [x] as) (h : pl x = true) : Dp K H v (dat x) := by
  have q := r.dps (show (pl x && true) = true by rw [h]; rfl)
  cases q with
  | cons q _ => exact q
/-- data that may be compared -/
def okA (x : AV) : Bool := pl x && SeqAt.shaped (dat x)
theorem mx_eq : sizeLine = 16777216 := by decide
/-! ### the operators' plain meaning -/
def b2I (b : Bool) : Int := if b = true then 1 else 0
def oAdd : AV → AV → Option AV
  | .int a, .int b => some (.int (a + b))
  | .bl a, .int b => some (.int (b2I a + b))
  | .str a, .str b => if a.length + b.length ≤ 16777216 then some (.str (a ++ b)) else none
  | .tup a, .tup b => if a.length + b.length ≤ 16777216 then some (.tup (a ++ b)) else none
  | .lst _ a, .lst _ b => if a.length + b.length ≤ 16777216 then some (.lst false (a ++ b)) else none
  | _, _ => none
def oSub : AV → AV → Option AV
  | .int a, .int b => some (.int (a - b))
  | .bl a, .int b => some (.int (b2I a - b))
  | _, _ => none
def cMul (a b : Int) : Bool := (decide (-(2 ^ 64) < a) && decide (a < 2 ^ 64)) || (decide (-(2 ^ 64) < b) && decide (b < 2 ^ 64))
def repA (k : Int) (xs : List AV) : List AV := (List.replicate k.toNat xs).flatten
def oMul : AV → AV → Option AV
  | .int a, .int b => if cMul a b then some (.int (a * b)) else none
  | .lst _ xs, .int k => if k < 1000000 ∧ -1000000 < k ∧ xs.length * k.toNat ≤ 16777216 then some (.lst false (repA k xs)) else none
  | .tup xs, .int k => if xs ≠ [] ∧ 1 ≤ k ∧ k ≤ 1000 ∧ xs.length ≤ 1000 then some (.tup (repA k xs)) else none
  | _, _ => none
def uMul2 (K : PySem.W.Frag) : R2 := fun x y H Q => uMul K x y H Q ∨ (rRepT K x y H Q ∨ rRep1 K x y H Q)
theorem o_mul2 {X : Cx} : OpR X (binaryOp .Mult) (uMul2 X.K) := o_mul.or (op_repT.or op_rep1)
def oFdv : AV → AV → Option AV
  | .int a, .int b => if 0 < b ∧ b < 2 ^ 64 then some (.int (a / b)) else none
  | _, _ => none
def oMod : AV → AV → Option AV
  | .int a, .int b => if 0 < b then some (.int (a % b)) else none
  | _, _ => none
def cPow (a b : Int) : Bool := decide (0 ≤ b) && decide (b ≤ 1000000) && decide (a.natAbs < 2 ^ 64)
def oPow : AV → AV → Option AV
  | .int a, .int b => if cPow a b then some (.int (a ^ b.toNat)) else none
  | _, _ => none
def oLt : AV → AV → Option AV
  | .int a, .int b => some (.bl (decide (a < b)))
  | _, _ => none
def oLe : AV → AV → Option AV
  | .int a, .int b => some (.bl (decide (a ≤ b)))
  | _, _ => none
def oGt : AV → AV → Option AV
  | .int a, .int b => some (.bl (decide (b < a)))
  | _, _ => none
def eqA : AV → AV → Option Bool
  | .int a, .int b => some (decide (a = b))
  | .str a, .str b => some (decide (a = b))
  | .bl a, .bl b => some (decide (a = b))
  | x, y => if okA x && okA y then some (PyData.eqv (dat x) (dat y)) else none
def oEq (x y : AV) : Option AV := (eqA x y).map AV.bl
def oNe (x y : AV) : Option AV := (eqA x y).map fun b => AV.bl (!b)
def isN : AV → Bool
  | .non => true
  | _ => false
def oIs : AV → AV → Option AV
  | x, .non => some (.bl (isN x))
  | .bl a, .bl b => some (.bl (decide (a = b)))
  | _, _ => none
def oNis : AV → AV → Option AV
  | x, .non => some (.bl (!isN x))
  | .bl a, .bl b => some (.bl (!decide (a = b)))
  | _, _ => none
section
variable {K : PySem.W.Frag}
theorem p_add : Op2 K (uAddB K) oAdd := by
  intro Γ σ H st p m ar am ao ab v1 v2 x y d a1 a2 Q R0 r1 r2 e h
  replace R0 := R0.nob
  unfold oAdd at e
  split at e
  · cases e
    obtain rfl := r1.int_i
    obtain rfl := r2.int_i
    exact .inl (.inl ⟨_, _, rfl, rfl, h _ _ (R0.rel.int _)⟩)
  · cases e
    obtain rfl := r1.bl_i
    obtain rfl := r2.int_i
    exact .inr ⟨_, _, rfl, rfl, h _ _ (R0.rel.int _)⟩
  · split at e
    · cases e
      obtain rfl := r1.str_i
      obtain rfl := r2.str_i
      exact .inl (.inr (.inl ⟨_, _, rfl, rfl, by rw [mx_eq]; assumption, h _ _ (R0.rel.str _)⟩))
    · cases e
  · split at e
    · cases e
      obtain ⟨a, us, rfl, h1, q1⟩ := r1.tup_i
      obtain ⟨b, ws, rfl, h2, q2⟩ := r2.tup_i
      have l1 := q1.len
      have l2 := q2.len
      have z0 := mx_eq
      refine .inl (.inr (.inr (.inr ⟨a, b, us, ws, rfl, rfl, h1, h2, by omega, fun z => ?_, fun z1 z2 => ?_, fun z1 z2 q hq => ?_⟩)))
      · subst z
        obtain ⟨rfl, _⟩ := q1.nil_inv'
        exact h _ _ (R0.sh (.tup h2 q2 .nil))
      · subst z2
        obtain ⟨rfl, _⟩ := q2.nil_inv'
        rw [List.append_nil] at h
        exact h _ _ (R0.sh (.tup h1 q1 .nil))
      · exact h _ _ (R0.tup hq (q1.app q2)).rel
    · cases e
  · split at e
    · cases e
      obtain ⟨a, us, rfl, h1, q1⟩ := r1.lst_i
      obtain ⟨b, ws, rfl, h2, q2⟩ := r2.lst_i
      have l1 := q1.len
      have l2 := q2.len
      have z0 := mx_eq
      exact .inl (.inr (.inr (.inl ⟨a, b, us, ws, rfl, rfl, h1, h2, by omega, fun q hq => h _ _ (R0.lst hq (q1.app q2)).rel⟩)))
    · cases e
  · cases e
theorem p_sub : Op2 K uSubB oSub := by
  intro Γ σ H st p m ar am ao ab v1 v2 x y d a1 a2 Q R0 r1 r2 e h
  replace R0 := R0.nob
  unfold oSub at e
  split at e
  · cases e
    obtain rfl := r1.int_i
    obtain rfl := r2.int_i
    exact .inl ⟨_, _, rfl, rfl, h _ _ (R0.rel.int _)⟩
  · cases e
    obtain rfl := r1.bl_i
    obtain rfl := r2.int_i
    exact .inr ⟨_, _, rfl, rfl, h _ _ (R0.rel.int _)⟩
  · cases e
theorem cMul_ok {a b : Int} (h : cMul a b = true) : CMul a b := by
  unfold cMul at h
  simp only [Bool.or_eq_true, Bool.and_eq_true, decide_eq_true_eq] at h
  exact h
theorem rep_rp {H : Hp} {W m : List Addr} {us : List V} {xs : List AV} (q : Rp K H W m us xs []) : ∀ n : Nat, Rp K H W m (List.replicate n us).flatten (List.replicate n xs).flatten []
  | 0 => .nil
  | n + 1 => by
    rw [List.replicate_succ, List.replicate_succ, List.flatten_cons, List.flatten_cons]
    exact q.app (rep_rp q n)
theorem p_mul : Op2 K (uMul2 K) oMul := by
  intro Γ σ H st p m ar am ao ab v1 v2 x y d a1 a2 Q R0 r1 r2 e h
  replace R0 := R0.nob
  unfold oMul at e
  split at e
  · split at e
    · cases e
      obtain rfl := r1.int_i
      obtain rfl := r2.int_i
      rename_i c
      exact .inl (.inl ⟨_, _, rfl, rfl, cMul_ok c, h _ _ (R0.rel.int _)⟩)
    · cases e
  · split at e
    · cases e
      obtain ⟨a, us, rfl, h1, q1⟩ := r1.lst_i
      obtain rfl := r2.int_i
      rename_i c
      have l1 := q1.len
      exact .inl (.inr ⟨a, _, us, rfl, rfl, h1, by omega, by omega, by rw [l1, mx_eq]; exact c.2.2, fun q hq => h _ _ (R0.lst hq (rep_rp q1 _)).rel⟩)
    · cases e
  · split at e
    · cases e
      obtain ⟨a, us, rfl, h1, q1⟩ := r1.tup_i
      obtain rfl := r2.int_i
      rename_i k c
      have l1 := q1.len
      by_cases c2 : k = 1
      · subst c2
        refine .inr (.inr ⟨a, us, rfl, rfl, h1, h _ _ ?_⟩)
        have e : ∀ zs : List AV, repA 1 zs = zs := fun zs => List.append_nil _
        rw [e]
        exact ⟨_, _, _, _, _, R0.setI ((Rp.tup h1 q1 .nil).cons0 R0.ri)⟩
      · have hne : us ≠ [] := fun z => c.1 (by rw [z] at l1; exact List.eq_nil_of_length_eq_zero l1.symm)
        exact .inr (.inl ⟨a, _, us, rfl, rfl, h1, hne, by omega, by omega, by omega, fun q hq => h _ _ (R0.tup hq (rep_rp q1 _)).rel⟩)
    · cases e
  · cases e
/-- operators on two ints -/
theorem p_int {r : R2} {f : AV → AV → Option AV} (C : Int → Int → Prop) (g : Int → Int → Int) (hf : ∀ x y d, f x y = some d → ∃ a b, x = .int a ∧ y = .int b ∧ C a b ∧ d = .int (g a b)) (hr : ∀ a b H Q, C a b → Q (.int (g a b)) H → r (.int a) (.int b) H Q) : Op2 K r f := by
  intro Γ σ H st p m ar am ao ab v1 v2 x y d a1 a2 Q R0 r1 r2 e h
  replace R0 := R0.nob
  obtain ⟨a, b, rfl, rfl, c, rfl⟩ := hf _ _ _ e
  obtain rfl := r1.int_i
  obtain rfl := r2.int_i
  exact hr a b H Q c (h _ _ (R0.rel.int _))
theorem p_cmp {r : R2} {f : AV → AV → Option AV} (g : Int → Int → Bool) (hf : ∀ x y d, f x y = some d → ∃ a b, x = .int a ∧ y = .int b ∧ d = .bl (g a b)) (hr : ∀ a b H Q, Q (.bl (g a b)) H → r (.int a) (.int b) H Q) : Op2 K r f := by
  intro Γ σ H st p m ar am ao ab v1 v2 x y d a1 a2 Q R0 r1 r2 e h
  replace R0 := R0.nob
  obtain ⟨a, b, rfl, rfl, rfl⟩ := hf _ _ _ e
  obtain rfl := r1.int_i
  obtain rfl := r2.int_i
  exact hr a b H Q (h _ _ (R0.rel.bl _))
theorem p_mod : Op2 K uMod oMod := p_int (fun _ b => 0 < b) (· % ·) (fun x y d e => by unfold oMod at e; split at e <;> (try split at e) <;> cases e; exact ⟨_, _, rfl, rfl, by assumption, rfl⟩) fun a b H Q c q => ⟨a, b, rfl, rfl, c, q⟩
theorem cPow_ok {a b : Int} (h : cPow a b = true) : CPow a b := by
  unfold cPow at h
  simp only [Bool.and_eq_true, decide_eq_true_eq] at h
  exact ⟨h.1.1, h.1.2, h.2⟩
theorem p_pow : Op2 K uPow oPow := p_int CPow (fun a b => a ^ b.toNat) (fun x y d e => by unfold oPow at e; split at e <;> (try split at e) <;> cases e; exact ⟨_, _, rfl, rfl, cPow_ok (by assumption), rfl⟩) fun a b H Q c q => ⟨a, b, rfl, rfl, c, q⟩
theorem p_lt : Op2 K uLt oLt := p_cmp (fun a b => decide (a < b)) (fun x y d e => by unfold oLt at e; split at e <;> cases e; exact ⟨_, _, rfl, rfl, rfl⟩) fun a b H Q q => ⟨a, b, rfl, rfl, q⟩
theorem p_le : Op2 K uLe oLe := p_cmp (fun a b => decide (a ≤ b)) (fun x y d e => by unfold oLe at e; split at e <;> cases e; exact ⟨_, _, rfl, rfl, rfl⟩) fun a b H Q q => ⟨a, b, rfl, rfl, q⟩
theorem p_gt : Op2 K uGt oGt := p_cmp (fun a b => decide (b < a)) (fun x y d e => by unfold oGt at e; split at e <;> cases e; exact ⟨_, _, rfl, rfl, rfl⟩) fun a b H Q q => ⟨a, b, rfl, rfl, q⟩
theorem p_fdv : Op2 K uFdv oFdv := p_int (fun _ b => 0 < b ∧ b < 2 ^ 64) (· / ·) (fun x y d e => by unfold oFdv at e; split at e <;> (try split at e) <;> cases e; exact ⟨_, _, rfl, rfl, by assumption, rfl⟩) fun a b H Q c q => by
  exact .inr ⟨a, b, rfl, rfl, wide_div (b := 64) c.1 (by omega) (by decide) (by decide), q⟩
/-- what two values' comparison is -/
theorem eq_sem {Γ : Gam} {σ : L2.St} {H : Hp} {st : Ss} {p : Pd} {v1 v2 : V} {x y : AV} {b : Bool} {r1 r2 : Prop} (W m as bs : List Addr) (q1 : Rp K H W m [v1] [x] as) (q2 : Rp K H W m [v2] [y] bs) (e : eqA x y = some b) :
    (scal v1 v2 = true ∧ decide (v1 = v2) = b) ∨ (∃ d d', Dp K H v1 d ∧ Dp K H v2 d' ∧ SeqAt.shaped d = true ∧ SeqAt.shaped d' = true ∧ PyData.eqv d d' = b) := by
  unfold eqA at e
  split at e
  · cases e
    obtain rfl := q1.int_i
    obtain rfl := q2.int_i
    exact .inl ⟨rfl, by simp⟩
  · cases e
    obtain rfl := q1.str_i
    obtain rfl := q2.str_i
    exact .inl ⟨rfl, by simp⟩
  · cases e
    obtain rfl := q1.bl_i
    obtain rfl := q2.bl_i
    exact .inl ⟨rfl, by simp⟩
  · split at e
    · cases e
      rename_i c
      obtain ⟨c1, c2⟩ := Bool.and_eq_true_iff.mp c
      obtain ⟨c3, c4⟩ := Bool.and_eq_true_iff.mp c1
      obtain ⟨c5, c6⟩ := Bool.and_eq_true_iff.mp c2
      exact .inr ⟨_, _, q1.dp c3, q2.dp c5, c4, c6, rfl⟩
    · cases e
theorem p_eq : Op2 K (uEq K) oEq := by
  intro Γ σ H st p m ar am ao ab v1 v2 x y d a1 a2 Q R0 r1 r2 e h
  replace R0 := R0.nob
  unfold oEq at e
  obtain ⟨b, e1, rfl⟩ := Option.map_eq_some_iff.mp e
  rcases eq_sem (Γ := Γ) (σ := σ) (st := st) (p := p) (r1 := True) (r2 := True) _ _ _ _ r1 r2 e1 with ⟨s, eb⟩ | ⟨d1, d2, h1, h2, s1, s2, eb⟩
  · subst eb
    exact .inl ⟨s, h _ _ (R0.rel.bl _)⟩
  · subst eb
    exact .inr ⟨d1, d2, h1, h2, s1, s2, h _ _ (R0.rel.bl _)⟩
theorem p_ne : Op2 K (uNe K) oNe := by
  intro Γ σ H st p m ar am ao ab v1 v2 x y d a1 a2 Q R0 r1 r2 e h
  replace R0 := R0.nob
  unfold oNe at e
  obtain ⟨b, e1, rfl⟩ := Option.map_eq_some_iff.mp e
  rcases eq_sem (Γ := Γ) (σ := σ) (st := st) (p := p) (r1 := True) (r2 := True) _ _ _ _ r1 r2 e1 with ⟨s, eb⟩ | ⟨d1, d2, h1, h2, s1, s2, eb⟩
  · subst eb
    exact .inl ⟨s, h _ _ (R0.rel.bl _)⟩
  · subst eb
    exact .inr ⟨d1, d2, h1, h2, s1, s2, h _ _ (R0.rel.bl _)⟩
end
end Fk
/-! ## expressions and statements -/
namespace Fk
open PySem PySem.Spec PyProof.Rows L2
def aNil : M (List AV) := fun st => .ok [] st
def aCons (a : M AV) (r : M (List AV)) : M (List AV) := fun st => (a st).bind fun x s1 => (r s1).bind fun xs s2 => .ok (x :: xs) s2
def eTup (a : M (List AV)) : M AV := fun st => (a st).bind fun xs s1 => if xs.length ≤ 16777216 then .ok (.tup xs) s1 else .bad
def eLst (a : M (List AV)) : M AV := fun st => (a st).bind fun xs s1 => if xs.length ≤ 16777216 then .ok (.lst false xs) s1 else .bad
def eLstO (a : M (List AV)) : M AV := fun st => (a st).bind fun xs s1 => if xs.length ≤ 16777216 then .ok (.lst true xs) s1 else .bad
def tNotM (a : M Bool) : M Bool := fun st => (a st).bind fun x s1 => .ok (!x) s1
def tAndM (a b : M Bool) : M Bool := fun st => (a st).bind fun x s1 => bif x then b s1 else .ok false s1
def tOrM (a b : M Bool) : M Bool := fun st => (a st).bind fun x s1 => bif x then .ok true s1 else b s1
def asB : AV → Option Bool
  | .bl b => some b
  | _ => none
@[simp] theorem asB_bl (b : Bool) : asB (.bl b) = some b := rfl
def eAnd (a b : M AV) : M AV := fun st => (a st).bind fun x s1 => (ofO (asB x) s1).bind fun c s2 => bif c then b s2 else .ok (.bl false) s2
def eOr (a b : M AV) : M AV := fun st => (a st).bind fun x s1 => (ofO (asB x) s1).bind fun c s2 => bif c then .ok (.bl true) s2 else b s2
def oNot (x : AV) : Option AV := (asB x).map fun b => AV.bl (!b)
def eIf (t : M Bool) (a b : M AV) : M AV := fun st => (t st).bind fun c s1 => bif c then a s1 else b s1
def eChn (f g : AV → AV → Option AV) (a b c : M AV) : M AV := fun st => (a st).bind fun x s1 => (b s1).bind fun y s2 => (ofO ((f x y).bind asB) s2).bind fun k s3 => bif k then (c s3).bind fun z s4 => ofO (g y z) s4 else .ok (.bl false) s3
def oNeg : AV → Option AV
  | .int i => some (.int (-i))
  | _ => none
def sNx : M Fl := fun st => .ok .nx st
def sSeq (a b : M Fl) : M Fl := fun st => (a st).bind fun f s1 => match f with
  | .nx => b s1
  | f => .ok f s1
def sAsg (i : Nat) (e : M AV) : M Fl := fun st => (e st).bind fun d s1 => .ok .nx ⟨setSl s1.r i (.im d), s1.s⟩
def sAsgO (i : Nat) (e : M AV) : M Fl := fun st => (e st).bind fun d s1 => .ok .nx ⟨setSl s1.r i (.ow d), s1.s⟩
def sExp (e : M AV) : M Fl := fun st => (e st).bind fun _ s1 => .ok .nx s1
def sRet (e : M AV) : M Fl := fun st => (e st).bind fun d s1 => .ok (.rt d) s1
def sIf (t : M Bool) (a b : M Fl) : M Fl := fun st => (t st).bind fun c s1 => bif c then a s1 else b s1
def sBrk : M Fl := fun st => .ok .bk st
def sCnt : M Fl := fun st => .ok .ct st
section
variable {X : Cx} {Γ : Gam} {W : WX} {σ : L2.St} {H : Hp} {st : Ss} {p : Pd} {K : PySem.W.Frag} {pos : Pos}
theorem Rel.rot {v : V} {x : AV} {vs iv : List V} {xs ix : List AV} (hl : vs.length = xs.length) (R : Rel K Γ σ H st { p with iv := vs ++ v :: iv, ix := xs ++ x :: ix }) : Rel K Γ σ H st { p with iv := v :: vs ++ iv, ix := x :: xs ++ ix } := by
  obtain ⟨m, ar, am, ao, ab, R⟩ := R
  refine ⟨m, ar, am, ao, ab, R.setI (p := { p with iv := vs ++ v :: iv, ix := xs ++ x :: ix }) ?_⟩
  obtain ⟨a1, a2, e, r1, r2⟩ := Rp.app_inv hl R.ri
  obtain ⟨e1, e2⟩ := List.append_eq_nil_iff.mp e.symm
  subst e1 e2
  exact r2.head0.1.cons0 (r1.app r2.head0.2)
theorem s_nil : PA X [] (rdA X.K Γ W aNil) := by
  refine pa_imp pa_nil fun σ H Q h => ?_
  obtain ⟨st, p, R, h⟩ := h
  exact h [] H rfl R.nob
theorem cons_in {ma : M AV} {mr : M (List AV)} {Q : List V → Hp → Prop} (h : rdA K Γ W (aCons ma mr) σ H Q) : tCons (rdE K Γ W ma) (rdA K Γ W mr) σ H Q := by
  obtain ⟨st, p, R, h⟩ := h
  refine ⟨st, p, R, ?_⟩
  unfold aCons at h
  cases ea : ma st with
  | bad => rw [ea] at h; exact h
  | err c s1 => rw [ea] at h; exact h
  | ok x s1 =>
    rw [ea] at h
    simp only [Res.bind_ok] at h
    intro v H1 R1
    refine ⟨s1, _, R1, ?_⟩
    cases er : mr s1 with
    | bad => rw [er] at h; exact h
    | err c s2 =>
      rw [er] at h
      intro H2 R2
      exact h H2 R2.drop
    | ok xs s2 =>
      rw [er] at h
      simp only [Res.bind_ok] at h
      intro vs H2 hl R2
      exact h (v :: vs) H2 (by simp [hl]) (Rel.rot (p := p.nob) hl R2)
theorem s_cons {e : Expr} {es : List Expr} {ma : M AV} {mr : M (List AV)} (ha : PE X e (rdE X.K Γ W ma)) (hr : PA X es (rdA X.K Γ W mr)) (hs : starEach (e :: es) X.env = (false, eval e X.env) :: starEach es X.env := by rfl) : PA X (e :: es) (rdA X.K Γ W (aCons ma mr)) :=
  pa_imp (pa_cons ha hr hs) fun σ H Q h => cons_in h
theorem Rel.args {vs : List V} {xs : List AV} (hl : vs.length = xs.length) (R : Rel K Γ σ H st { p with iv := vs ++ p.iv, ix := xs ++ p.ix }) : ∃ m ar am ao ab, Rl K Γ σ H st p m ar am ao ab ∧ Rp K H (wOf Γ ar am ao) m vs xs [] := by
  obtain ⟨m, ar, am, ao, ab, R⟩ := R
  obtain ⟨a1, a2, e, r1, r2⟩ := Rp.app_inv hl R.ri
  obtain ⟨e1, e2⟩ := List.append_eq_nil_iff.mp e.symm
  subst e1 e2
  exact ⟨m, ar, am, ao, ab, R.setI (p := { p with iv := vs ++ p.iv, ix := xs ++ p.ix }) r2, r1⟩
theorem s_tup {es : List Expr} {k : Nat} {ma : M (List AV)} (h : PA X es (rdA X.K Γ W ma)) : PE X (.Tuple es k pos) (rdE X.K Γ W (eTup ma)) := by
  refine pe_imp (pe_tup h) fun σ H Q h => ?_
  obtain ⟨st, p, R, h⟩ := h
  refine ⟨st, p, R, ?_⟩
  unfold eTup at h
  cases ea : ma st with
  | bad => rw [ea] at h; exact h
  | err c s1 => rw [ea] at h; exact h
  | ok xs s1 =>
    rw [ea] at h
    simp only [Res.bind_ok] at h
    intro vs H1 hl R1
    by_cases c : xs.length ≤ 16777216
    · rw [if_pos c] at h
      obtain ⟨m, ar, am, ao, ab, R2, r⟩ := Rel.args (p := p.nob) hl R1
      exact ⟨by rw [hl, mx_eq]; exact c, fun q hq => h _ _ (R2.tup hq r).rel⟩
    · rw [if_neg c] at h; exact h.elim
theorem s_lst {es : List Expr} {ma : M (List AV)} (h : PA X es (rdA X.K Γ W ma)) : PE X (.List es pos) (rdE X.K Γ W (eLst ma)) := by
  refine pe_imp (pe_lst h) fun σ H Q h => ?_
  obtain ⟨st, p, R, h⟩ := h
  refine ⟨st, p, R, ?_⟩
  unfold eLst at h
  cases ea : ma st with
  | bad => rw [ea] at h; exact h
  | err c s1 => rw [ea] at h; exact h
  | ok xs s1 =>
    rw [ea] at h
    simp only [Res.bind_ok] at h
    intro vs H1 hl R1
    by_cases c : xs.length ≤ 16777216
    · rw [if_pos c] at h
      obtain ⟨m, ar, am, ao, ab, R2, r⟩ := Rel.args (p := p.nob) hl R1
      exact ⟨by rw [hl, mx_eq]; exact c, fun q hq => h _ _ (R2.lst hq r).rel⟩
    · rw [if_neg c] at h; exact h.elim
theorem Rl.newLst {m ar am ao ab : List Addr} (R : Rl K Γ σ H st p m ar am ao ab) {q : Addr} {vs : List V} {xs : List AV} (h : H q = none) (r : Rp K H (wOf Γ ar am ao) m vs xs []) : Rel K Γ σ (upd H q (.lst vs)) st (p.own (.ref q) (.lst true xs)) :=
  ⟨m, ar, am, q :: ao, ab, R.newO (o := .lst vs) h fun t e => .lsO e (t.rp0 r) .nil⟩
theorem s_lstO {es : List Expr} {ma : M (List AV)} (h : PA X es (rdA X.K Γ W ma)) : PE X (.List es pos) (rdO X.K Γ W (eLstO ma)) := by
  refine pe_imp (pe_lst h) fun σ H Q h => ?_
  obtain ⟨st, p, R, h⟩ := h
  refine ⟨st, p, R, ?_⟩
  unfold eLstO at h
  cases ea : ma st with
  | bad => rw [ea] at h; exact h
  | err c s1 => rw [ea] at h; exact h
  | ok xs s1 =>
    rw [ea] at h
    simp only [Res.bind_ok] at h
    intro vs H1 hl R1
    by_cases c : xs.length ≤ 16777216
    · rw [if_pos c] at h
      obtain ⟨m, ar, am, ao, ab, R2, r⟩ := Rel.args (p := p.nob) hl R1
      exact ⟨by rw [hl, mx_eq]; exact c, fun q hq => h _ _ (R2.newLst hq r)⟩
    · rw [if_neg c] at h; exact h.elim
/-! tests -/
theorem s_not {a : Expr} {ma : M Bool} (h : PT X a (rdT X.K Γ W ma)) : PT X (.UnaryOp .Not a pos) (rdT X.K Γ W (tNotM ma)) := by
  refine pt_imp (pt_not h) fun σ H Q h => ?_
  obtain ⟨st, p, R, h⟩ := h
  refine ⟨st, p, R, ?_⟩
  unfold tNotM at h
  cases ea : ma st with
  | bad => rw [ea] at h; exact h
  | err c s1 => rw [ea] at h; exact h
  | ok b s1 => rw [ea] at h; exact h
theorem s_or1 {a : Expr} {ma : M Bool} (h : PT X a (rdT X.K Γ W ma)) : PW X (.BoolOp .Or [a] pos) (rdT X.K Γ W ma) := pw_or1 h
theorem s_or {a b : Expr} {rest : List Expr} {ma mb : M Bool} (h : PT X a (rdT X.K Γ W ma)) (h2 : PW X (.BoolOp .Or (b :: rest) pos) (rdT X.K Γ W mb)) : PW X (.BoolOp .Or (a :: b :: rest) pos) (rdT X.K Γ W (tOrM ma mb)) := by
  refine pw_imp (pw_or h h2) fun σ H Q h => ?_
  obtain ⟨st, p, R, h⟩ := h
  refine ⟨st, p, R, ?_⟩
  unfold tOrM at h
  cases ea : ma st with
  | bad => rw [ea] at h; exact h
  | err c s1 => rw [ea] at h; exact h
  | ok b s1 =>
    rw [ea] at h
    simp only [Res.bind_ok] at h
    intro H1 R1
    cases b with
    | true => rw [if_pos rfl]; exact h H1 R1
    | false => rw [if_neg Bool.false_ne_true]; exact ⟨s1, p.nob, R1, h⟩
/-! .. as values -/
theorem asB_v {v : V} {x : AV} {b : Bool} {W m as : List Addr} (r : Rp K H W m [v] [x] as) (e : asB x = some b) : v = .bl b := by
  cases x with
  | bl c =>
    have e2 : c = b := by simpa using e
    rw [r.bl_i, e2]
  | _ => cases e
theorem s_vand {a b : Expr} {rest : List Expr} {ma mb : M AV} (h : PE X a (rdE X.K Γ W ma)) (h2 : PE X (.BoolOp .And (b :: rest) pos) (rdE X.K Γ W mb)) : PE X (.BoolOp .And (a :: b :: rest) pos) (rdE X.K Γ W (eAnd ma mb)) := by
  refine pe_imp (pe_and h h2) fun σ H Q h => ?_
  obtain ⟨st, p, R, h⟩ := h
  refine ⟨st, p, R, ?_⟩
  unfold eAnd at h
  cases ea : ma st with
  | bad => rw [ea] at h; exact h
  | err c s1 => rw [ea] at h; exact h
  | ok x s1 =>
    rw [ea] at h
    simp only [Res.bind_ok] at h
    intro v H1 R1
    cases eb : asB x with
    | none => rw [eb] at h; exact h.elim
    | some c =>
      rw [eb] at h
      simp only [ofO_some, Res.bind_ok] at h
      obtain ⟨m, ar, am, ao, ab, R2, r⟩ := R1.one
      refine ⟨c, asB_v r eb, ?_⟩
      cases c with
      | true => rw [if_pos rfl]; exact ⟨s1, p.nob, R2.rel, h⟩
      | false => rw [if_neg Bool.false_ne_true]; exact h _ _ (R2.rel.bl _)
theorem s_vone {op : BoolOp} {a : Expr} {ma : M AV} (h : PE X a (rdE X.K Γ W ma)) : PE X (.BoolOp op [a] pos) (rdE X.K Γ W ma) := pe_one h
/-- one value turned into another -/
def Op1 (K : PySem.W.Frag) (r : V → Hp → VK → Prop) (f : AV → Option AV) : Prop := ∀ (Γ : Gam) (σ : L2.St) (H : Hp) (st : Ss) (p : Pd) (v1 : V) (x d : AV) (Q : VK), Rel K Γ σ H st (p.sh v1 x) → f x = some d → (∀ v H', Rel K Γ σ H' st (p.sh v d) → Q v H') → r v1 H Q
theorem one_in {ma : M AV} {Q : VK} {f : AV → Option AV} {r : V → Hp → VK → Prop} (ho : Op1 K r f) (h : rdE K Γ W (e1 f ma) σ H Q) : rdE K Γ W ma σ H fun x H1 => r x H1 Q := by
  obtain ⟨st, p, R, h⟩ := h
  refine ⟨st, p, R, ?_⟩
  unfold e1 at h
  cases ea : ma st with
  | bad => rw [ea] at h; exact h
  | err c s1 => rw [ea] at h; exact h
  | ok x s1 =>
    rw [ea] at h
    simp only [Res.bind_ok] at h
    intro v1 H1 R1
    cases ef : f x with
    | none => simp only [ef, ofO_none] at h
    | some d =>
      simp only [ef, ofO_some] at h
      exact ho Γ σ H1 s1 _ v1 x d Q R1 ef h
theorem s_vnot {a : Expr} {ma : M AV} (h : PE X a (rdE X.K Γ W ma)) : PE X (.UnaryOp .Not a pos) (rdE X.K Γ W (e1 oNot ma)) := by
  refine pe_imp (pe_not h) fun σ H Q h => ?_
  refine one_in (r := fun x H1 Q => ∃ c, x = .bl c ∧ Q (.bl (!c)) H1) ?_ h
  intro Γ σ H st p v1 x d Q R e h
  obtain ⟨m, ar, am, ao, ab, R2, r⟩ := R.one
  unfold oNot at e
  obtain ⟨b, eb, rfl⟩ := Option.map_eq_some_iff.mp e
  exact ⟨b, asB_v r eb, h _ _ (R2.rel.bl _)⟩
theorem s_neg {a : Expr} {ma : M AV} (h : PE X a (rdE X.K Γ W ma)) : PE X (.UnaryOp .USub a pos) (rdE X.K Γ W (e1 oNeg ma)) := by
  refine pe_imp (pe_un un_neg h) fun σ H Q h => ?_
  refine one_in (r := fun x H1 Q => (rU fun i => .int (-i)) x H1 Q) ?_ h
  intro Γ σ H st p v1 x d Q R e h
  obtain ⟨m, ar, am, ao, ab, R2, r⟩ := R.one
  unfold oNeg at e
  split at e
  · cases e
    exact ⟨_, r.int_i, h _ _ (R2.rel.int _)⟩
  · cases e
theorem chn_in {r r' : R2} {f g : AV → AV → Option AV} {ma mb mc : M AV} {Q : VK} (ho : Op2 K r f) (ho' : Op2 K r' g) (h : rdE K Γ W (eChn f g ma mb mc) σ H Q) : tChain r r' (rdE K Γ W ma) (rdE K Γ W mb) (rdE K Γ W mc) σ H Q := by
  obtain ⟨st, p, R, h⟩ := h
  refine ⟨st, p, R, ?_⟩
  unfold eChn at h
  cases ea : ma st with
  | bad => rw [ea] at h; exact h
  | err c s1 => rw [ea] at h; exact h
  | ok x s1 =>
    rw [ea] at h
    simp only [Res.bind_ok] at h
    intro v1 H1 R1
    refine ⟨s1, _, R1, ?_⟩
    cases eb : mb s1 with
    | bad => rw [eb] at h; exact h
    | err c s2 =>
      rw [eb] at h
      intro H2 R2
      exact h H2 R2.drop
    | ok y s2 =>
      rw [eb] at h
      simp only [Res.bind_ok] at h
      intro v2 H2 R2
      cases ef : f x y with
      | none => simp only [ef, Option.bind_none, ofO_none, Res.bind_bad] at h
      | some d =>
        simp only [ef, Option.bind_some] at h
        cases ek : asB d with
        | none => simp only [ek, ofO_none, Res.bind_bad] at h
        | some k =>
          simp only [ek, ofO_some, Res.bind_ok] at h
          obtain ⟨m, ar, am, ao, ab, R3, r1, r2⟩ := R2.two
          refine ho Γ σ H2 s2 (p.nob.sh v2 y) m ar am ao ab v1 v2 x y d _ _ _ (R3.setI (r2.cons0 R3.ri)) r1 r2 ef ?_
          intro v H3 R4
          obtain ⟨m, ar, am, ao, ab, R5, r⟩ := R4.one
          refine ⟨k, asB_v r ek, ?_⟩
          cases k with
          | false =>
            rw [if_neg Bool.false_ne_true]
            exact h _ _ (R5.rel.drop.bl _)
          | true =>
            rw [if_pos rfl]
            simp only [cond_true] at h
            refine ⟨s2, _, R5.rel, ?_⟩
            cases ec : mc s2 with
            | bad => rw [ec] at h; exact h
            | err c s3 =>
              rw [ec] at h
              intro H4 R6
              exact h H4 R6.drop
            | ok z s3 =>
              rw [ec] at h
              simp only [Res.bind_ok] at h
              intro v3 H4 R6
              cases eg : g y z with
              | none => simp only [eg, ofO_none] at h
              | some d2 =>
                simp only [eg, ofO_some] at h
                obtain ⟨m, ar, am, ao, ab, R7, r1, r2⟩ := R6.two
                exact ho' Γ σ H4 s3 _ m ar am ao ab v2 v3 y z d2 _ _ Q R7 r1 r2 eg h
theorem s_chn {a b c : Expr} {op op' : CmpOp} {r r' : R2} {f g : AV → AV → Option AV} {ma mb mc : M AV} (hr : OpR X (compareOp op) r) (hr' : OpR X (compareOp op') r') (ho : Op2 X.K r f) (ho' : Op2 X.K r' g) (ha : PE X a (rdE X.K Γ W ma)) (hb : PE X b (rdE X.K Γ W mb)) (hc : PE X c (rdE X.K Γ W mc))
    (hp : ∀ {t t' : R2} {u1 u2 u3 : TE}, OpR X (compareOp op) t → OpR X (compareOp op') t' → PE X a u1 → PE X b u2 → PE X c u3 → PE X (.Compare a [op, op'] [b, c] pos) (tChain t t' u1 u2 u3)) : PE X (.Compare a [op, op'] [b, c] pos) (rdE X.K Γ W (eChn f g ma mb mc)) :=
  pe_imp (hp hr hr' ha hb hc) fun σ H Q h => chn_in ho ho' h
end
section
variable {X : Cx} {Γ : Gam} {W : WX} {σ : L2.St} {H : Hp} {st : Ss} {p : Pd} {K : PySem.W.Frag} {pos : Pos}
theorem s_tchn {a b c : Expr} {op op' : CmpOp} {r r' : R2} {f g : AV → AV → Option AV} {ma mb mc : M AV} (hr : OpR X (compareOp op) r) (hr' : OpR X (compareOp op') r') (ho : Op2 X.K r f) (ho' : Op2 X.K r' g) (ha : PE X a (rdE X.K Γ W ma)) (hb : PE X b (rdE X.K Γ W mb)) (hc : PE X c (rdE X.K Γ W mc))
    (hp : ∀ {t t' : R2} {u1 u2 u3 : TE}, OpR X (compareOp op) t → OpR X (compareOp op') t' → PE X a u1 → PE X b u2 → PE X c u3 → PT X (.Compare a [op, op'] [b, c] pos) (tTest (tChain t t' u1 u2 u3))) : PT X (.Compare a [op, op'] [b, c] pos) (rdT X.K Γ W (tOf (eChn f g ma mb mc))) :=
  pt_imp (hp hr hr' ha hb hc) fun σ H Q h => by
    obtain ⟨st, p, R, h⟩ := tOf_in h
    exact chn_in ho ho' ⟨st, p, R, h⟩
/-! statements -/
theorem s_end : PSs X [] (rdS X.K Γ W sNx) := by
  refine pss_imp pss_nil fun D σ H h => ?_
  obtain ⟨st, p, R, hp, h⟩ := h
  exact h σ H R
theorem s_seq {s : Stmt} {r : List Stmt} {ma mb : M Fl} (h1 : PS X s (rdS X.K Γ W ma)) (h2 : PSs X r (rdS X.K Γ W mb)) : PSs X (s :: r) (rdS X.K Γ W (sSeq ma mb)) := by
  refine pss_imp (pss_cons h1 h2) fun D σ H h => ?_
  obtain ⟨st, p, R, hp, h⟩ := h
  refine ⟨st, p, R, hp, ?_⟩
  unfold sSeq at h
  cases ea : ma st with
  | bad => rw [ea] at h; exact h
  | err c s1 => rw [ea] at h; exact h
  | ok f s1 =>
    rw [ea] at h
    simp only [Res.bind_ok] at h
    cases f with
    | nx => exact fun σ' H' R' => ⟨s1, p, R', hp, h⟩
    | rt d => exact h
    | bk => exact h
    | ct => exact h
theorem s_one {s : Stmt} {ma : M Fl} (h1 : PS X s (rdS X.K Γ W ma)) : PSs X [s] (rdS X.K Γ W ma) := pss_one h1
theorem nob_sh {v : V} {d : AV} (hp : p.nob = p) : p.nob.sh v d = p.sh v d := by rw [hp]
theorem s_ret {e : Expr} {m : M AV} (h : PE X e (rdE X.K Γ W m)) : PS X (.Return (some e) pos) (rdS X.K Γ W (sRet m)) := by
  refine ps_imp (ps_ret h) fun D σ H h => ?_
  obtain ⟨st, p, R, hp, h⟩ := h
  refine ⟨st, p, R, ?_⟩
  unfold sRet at h
  cases ea : m st with
  | bad => rw [ea] at h; exact h
  | err c s1 => rw [ea] at h; exact fun H' R' => h σ H' (hp ▸ R')
  | ok d s1 =>
    rw [ea] at h
    simp only [Res.bind_ok] at h
    exact fun v H' R' => h v σ H' (nob_sh hp ▸ R')
theorem s_if {c : Expr} {a b : List Stmt} {mc : M Bool} {ma mb : M Fl} (hc : PT X c (rdT X.K Γ W mc)) (ha : PSs X a (rdS X.K Γ W ma)) (hb : PSs X b (rdS X.K Γ W mb)) : PS X (.If c a b pos) (rdS X.K Γ W (sIf mc ma mb)) := by
  refine ps_imp (ps_if hc ha hb) fun D σ H h => ?_
  obtain ⟨st, p, R, hp, h⟩ := h
  refine ⟨st, p, R, ?_⟩
  unfold sIf at h
  cases ea : mc st with
  | bad => rw [ea] at h; exact h
  | err c s1 => rw [ea] at h; exact fun H' R' => h σ H' (hp ▸ R')
  | ok k s1 =>
    rw [ea] at h
    simp only [Res.bind_ok] at h
    intro H1 R1
    rw [hp] at R1
    cases k with
    | true => rw [if_pos rfl]; exact ⟨s1, p, R1, hp, h⟩
    | false => rw [if_neg Bool.false_ne_true]; exact ⟨s1, p, R1, hp, h⟩
/-- a value goes into a slot -/
theorem Rel.put {v : V} {d : AV} (R : Rel K Γ σ H st (p.sh v d)) (i : Nat) : Rel K Γ (σ.set i (some v)) H ⟨setSl st.r i (.im d), st.s⟩ p := by
  obtain ⟨m, ar, am, ao, ab, R⟩ := R
  obtain ⟨ar', h1, h2, h3⟩ := R.rs.drop i
  have nd := R.nd
  have fr := R.fr
  have t : Tr H H (wOf Γ ar am ao) (wOf Γ ar' am ao) m m [] := Tr.same fun c z => by
    simp only [wOf, List.mem_append] at z ⊢
    grind
  have rs : Rs K H (wOf Γ ar' am ao) m (σ.set i (some v)) (setSl st.r i (.im d)) ar' := by
    by_cases hi : i < st.r.length
    · exact (t.rs h3 (fun _ _ z => nomatch z)).setNo hi (t.rp0 R.ri.head0.1)
    · have e1 : ∀ (r : List Sl) (y : Sl) (i : Nat), ¬ i < r.length → setSl r i y = r := fun r y => by
        induction r with
        | nil => intro i _; rfl
        | cons x r ih => intro i hi; cases i with
          | zero => exact absurd (by simp) hi
          | succ i => rw [setSl_s, ih i (by simpa using hi)]
      have e2 : σ.set i (some v) = σ := List.set_eq_of_length_le (by rw [R.rs.len]; omega)
      rw [e1 _ _ i hi, e2]
      rw [e1 _ _ i hi] at h3
      exact t.rs h3 (fun _ _ z => nomatch z)
  refine ⟨m, ar', am, ao, ab, rs, t.rp R.rm (fun _ _ z => nomatch z), t.rp0 R.ri.head0.2, t.rp R.ro (fun _ _ z => nomatch z), t.rp R.rb (fun _ _ z => nomatch z), ?_, ?_, R.kp, R.pm, R.gu, R.tb⟩
  · simp only [wOf, List.nodup_append, List.mem_append] at nd ⊢
    grind
  · intro a ha
    have z := fr a
    simp only [List.mem_append] at z ha
    grind
theorem s_asg {i : Nat} {x : Str} {e : Expr} {m : M AV} {pos' : Pos} (hN : X.N.Nodup) (hi : X.N[i]? = some x) (hx : Loc X.env.scope x) (he : PE X e (rdE X.K Γ W m)) (hs : swapsWith e (some (.Name x pos')) pos.line X.env = pure false := by rfl) (hf : X.fn x = true ∨ X.env.scope.names.lookup x = some .local := by first | exact .inl rfl | exact .inr rfl | assumption) :
    PS X (.Assign [.Name x pos'] e pos) (rdS X.K Γ W (sAsg i m)) := by
  refine ps_imp (ps_set hN hi hx he hs hf) fun D σ H h => ?_
  obtain ⟨st, p, R, hp, h⟩ := h
  refine ⟨st, p, R, ?_⟩
  unfold sAsg at h
  cases ea : m st with
  | bad => rw [ea] at h; exact h
  | err c s1 => rw [ea] at h; exact fun H' R' => h σ H' (hp ▸ R')
  | ok d s1 =>
    rw [ea] at h
    simp only [Res.bind_ok] at h
    exact fun v H' R' => h _ H' (Rel.put (nob_sh hp ▸ R') i)
/-- an owned thing goes into a slot -/
theorem Rel.putO {v : V} {d : AV} (R : Rel K Γ σ H st (p.own v d)) (i : Nat) (hi : i < st.r.length) : Rel K Γ (σ.set i (some v)) H ⟨setSl st.r i (.ow d), st.s⟩ p := by
  obtain ⟨m, ar, am, ao, ab, R⟩ := R
  obtain ⟨ar', h1, h2, h3⟩ := R.rs.drop i
  obtain ⟨b, ao', eo, r1, r2⟩ := R.ro.head
  have nd := R.nd
  have fr := R.fr
  subst eo
  have t0 : Tr H H (wOf Γ ar am (b ++ ao')) (wOf Γ ar' am (b ++ ao')) m m [] := Tr.same fun c z => by
    simp only [wOf, List.mem_append] at z ⊢
    grind
  obtain ⟨a1, a2, ea, rs⟩ := (t0.rs h3 (fun _ _ z => nomatch z)).setOw hi (t0.rp r1 (fun _ _ z => nomatch z))
  subst ea
  have t : Tr H H (wOf Γ ar am (b ++ ao')) (wOf Γ (a1 ++ (b ++ a2)) am ao') m m [] := Tr.same fun c z => by
    simp only [wOf, List.mem_append] at z h1 ⊢
    grind
  have t1 : Tr H H (wOf Γ (a1 ++ a2) am (b ++ ao')) (wOf Γ (a1 ++ (b ++ a2)) am ao') m m [] := Tr.same fun c z => by
    simp only [wOf, List.mem_append] at z ⊢
    grind
  refine ⟨m, a1 ++ (b ++ a2), am, ao', ab, t1.rs rs (fun _ _ z => nomatch z), t.rp R.rm (fun _ _ z => nomatch z), t.rp0 R.ri, t.rp r2 (fun _ _ z => nomatch z), t.rp R.rb (fun _ _ z => nomatch z), ?_, ?_, R.kp, R.pm, R.gu, R.tb⟩
  · simp only [wOf, List.nodup_append, List.mem_append] at nd h1 h2 ⊢
    grind
  · intro a ha
    have z := fr a
    simp only [List.mem_append] at z ha h1
    grind
def sAsgOw (i : Nat) (e : M AV) : M Fl := fun st => (e st).bind fun d s1 => if i < s1.r.length then .ok .nx ⟨setSl s1.r i (.ow d), s1.s⟩ else .bad
theorem s_asgO {i : Nat} {x : Str} {e : Expr} {m : M AV} {pos' : Pos} (hN : X.N.Nodup) (hi : X.N[i]? = some x) (hx : Loc X.env.scope x) (he : PE X e (rdO X.K Γ W m)) (hs : swapsWith e (some (.Name x pos')) pos.line X.env = pure false := by rfl) (hf : X.fn x = true ∨ X.env.scope.names.lookup x = some .local := by first | exact .inl rfl | exact .inr rfl | assumption) :
    PS X (.Assign [.Name x pos'] e pos) (rdS X.K Γ W (sAsgOw i m)) := by
  refine ps_imp (ps_set hN hi hx he hs hf) fun D σ H h => ?_
  obtain ⟨st, p, R, hp, h⟩ := h
  refine ⟨st, p, R, ?_⟩
  unfold sAsgOw at h
  cases ea : m st with
  | bad => rw [ea] at h; exact h
  | err c s1 => rw [ea] at h; exact fun H' R' => h σ H' (hp ▸ R')
  | ok d s1 =>
    rw [ea] at h
    simp only [Res.bind_ok] at h
    by_cases c : i < s1.r.length
    · rw [if_pos c] at h
      intro v H' R'
      have e : p.nob.own v d = p.own v d := by rw [hp]
      rw [e] at R'
      exact h _ H' (Rel.putO R' i c)
    · rw [if_neg c] at h; exact h.elim
end
end Fk
/-! ## defs and their calls -/
namespace Fk
open PySem PySem.Spec PyProof.Rows L2
/-- what a def leaves: U is not touched, objects stand at m, own am -/
def Pst (K : PySem.W.Frag) (T : List (Addr × Str)) (U m am : List Addr) (H : Hp) (vs : List V) (xs S : List AV) (H' : Hp) : Prop := ∃ m' am', Rp K H' (U ++ am') m' vs xs [] ∧ Rp K H' (U ++ am') m' (m'.map V.ref) S am' ∧ (U ++ am').Nodup ∧
  (∀ a ∈ am', a ∈ am ∨ H a = none) ∧ (∀ a o, H a = some o → a ∉ am → ∃ o', H' a = some o' ∧ (NoTbl o → o' = o)) ∧ (∀ (l : Nat) a, m[l]? = some a → m'[l]? = some a) ∧ Tb T H'
abbrev Fn := List AV → List AV → Res AV (List AV)
/-- a def that is worth f -/
def spM (K : PySem.W.Frag) (T : List (Addr × Str)) (n : Nat) (f : Fn) : Sp := fun vs H Q E => vs.length = n ∧ ∃ U m am xs S, Rp K H (U ++ am) m vs xs [] ∧ Rp K H (U ++ am) m (m.map V.ref) S am ∧ (U ++ am).Nodup ∧ (∀ a ∈ U, ∃ o, H a = some o ∧ mutO o = true) ∧ Tb T H ∧
  match f xs S with
  | .ok d S' => ∀ v H', Pst K T U m am H [v] [d] S' H' → Q v H'
  | .err c S' => ∀ H', Pst K T U m am H [] [] S' H' → E (.ref (He.ga K c)) none H'
  | .bad => False
def fnM (n : Nat) (body : M Fl) : Fn := fun xs S => match body ⟨xs.map Sl.im ++ List.replicate n .no, S⟩ with
  | .ok (.rt d) st => .ok d st.s
  | .ok .nx st => .ok .non st.s
  | .err c st => .err c st.s
  | _ => .bad
section
variable {K : PySem.W.Frag} {Γ : Gam} {σ : L2.St} {H H' : Hp} {st : Ss} {p : Pd} {m ar am ao ab : List Addr} {vs : List V} {xs S : List AV}
theorem rs_args {W : List Addr} : ∀ {vs : List V} {xs : List AV} (n : Nat), Rp K H W m vs xs [] → Rs K H W m (vs.map some ++ List.replicate n none) (xs.map Sl.im ++ List.replicate n .no) []
  | [], xs, n, r => by
    obtain ⟨rfl, _⟩ := r.nil_inv'
    induction n with
    | zero => exact .nil
    | succ n ih => exact .no ih
  | v :: vs, [], n, r => by cases r.nil_inv.1
  | v :: vs, x :: xs, n, r => .im r.head0.1 (rs_args n r.head0.2)
/-- a def's entry -/
theorem ent {T : List (Addr × Str)} {U : List Addr} {n : Nat} (r1 : Rp K H (U ++ am) m vs xs []) (r2 : Rp K H (U ++ am) m (m.map V.ref) S am) (nd : (U ++ am).Nodup) (hu : ∀ a ∈ U, ∃ o, H a = some o ∧ mutO o = true) (tb : Tb T H) :
    Rel K ⟨U, H, am, m, T⟩ (vs.map some ++ List.replicate n none) H ⟨xs.map Sl.im ++ List.replicate n .no, S⟩ {} := by
  have e : U ++ am = wOf ⟨U, H, am, m, T⟩ [] am [] := by simp [wOf]
  rw [e] at r1 r2 nd
  refine ⟨m, [], am, [], [], rs_args n r1, r2, .nil, .nil, .nil, nd, fun a ha => .inl (by simpa using ha), fun a o h _ => ⟨o, h, fun _ => rfl⟩, fun _ _ h => h, fun a ha => ⟨hu a ha, fun z => ?_⟩, tb⟩
  rw [← e] at nd
  exact (List.nodup_append.mp nd).2.2 a ha a z rfl
/-- .. and its end -/
theorem ext_ {U A0 m0 : List Addr} {H0 : Hp} {T : List (Addr × Str)} (R : Rel K ⟨U, H0, A0, m0, T⟩ σ H st p) (hv : p.iv = vs) (hx : p.ix = xs) : Pst K T U m0 A0 H0 vs xs st.s H := by
  obtain ⟨m, ar, am, ao, ab, R⟩ := R
  subst hv hx
  have h1 : ∀ b, b ∈ U ++ am → b ∈ wOf ⟨U, H0, A0, m0, T⟩ ar am ao := fun b z => by
    simp only [wOf, List.mem_append] at z ⊢
    grind
  refine ⟨m, am, R.ri.perm h1, R.rm.perm h1, ?_, fun a ha => R.fr a (by simp [ha]), R.kp, R.pm, R.tb⟩
  have nd := R.nd
  simp only [wOf, List.nodup_append, List.mem_append] at nd ⊢
  grind
/-- what is handed to a def -/
theorem Rl.enter (R : Rl K Γ σ H st p m ar am ao ab) (r : Rp K H (wOf Γ ar am ao) m vs xs []) : Rp K H ((Γ.U ++ (ar ++ ao)) ++ am) m vs xs [] ∧ Rp K H ((Γ.U ++ (ar ++ ao)) ++ am) m (m.map V.ref) st.s am ∧ ((Γ.U ++ (ar ++ ao)) ++ am).Nodup ∧
    (∀ a ∈ Γ.U ++ (ar ++ ao), ∃ o, H a = some o ∧ mutO o = true) ∧ Tb Γ.T H := by
  have h1 : ∀ b, b ∈ (Γ.U ++ (ar ++ ao)) ++ am → b ∈ wOf Γ ar am ao := fun b z => by
    simp only [wOf, List.mem_append] at z ⊢
    grind
  refine ⟨r.perm h1, R.rm.perm h1, ?_, fun a ha => R.own a ?_, R.tb⟩
  · have nd := R.nd
    simp only [wOf, List.nodup_append, List.mem_append] at nd ⊢
    grind
  · simp only [wOf, List.mem_append] at ha ⊢
    grind
/-- back from it -/
theorem Rl.back (R : Rl K Γ σ H st p m ar am ao ab) {U : List Addr} (hU : U = Γ.U ++ (ar ++ ao)) (h : Pst K Γ.T U m am H vs xs S H') : ∃ m' am', Rl K Γ σ H' ⟨st.r, S⟩ p.nob m' ar am' ao [] ∧ Rp K H' (wOf Γ ar am' ao) m' vs xs [] := by
  subst hU
  obtain ⟨m', am', r1, r2, nd, fr, kp, pm, tb⟩ := h
  have w1 : ∀ b, b ∈ wOf Γ ar am' ao → b ∈ (Γ.U ++ (ar ++ ao)) ++ am' := fun b z => by
    simp only [wOf, List.mem_append] at z ⊢
    grind
  have k : Kp H H' am := ⟨fun b o e n t => by
    obtain ⟨o', e', f⟩ := kp b o e n
    rw [f t] at e'
    exact e', fun b hb => R.rm.there b hb⟩
  have t : Tr H H' (wOf Γ ar am ao) (wOf Γ ar am' ao) m m' am := by
    refine ⟨k, fun b hb => by simp only [wOf, List.mem_append]; grind, fun b ⟨o, e⟩ n z => ?_, pm⟩
    have f := fr b
    simp only [wOf, List.mem_append] at n z
    grind
  have dr : ∀ b ∈ ar, b ∉ am := fun b hb z => by
    have n := R.nd
    simp only [wOf, List.nodup_append, List.mem_append] at n
    grind
  have dq : ∀ b ∈ ao, b ∉ am := fun b hb z => by
    have n := R.nd
    simp only [wOf, List.nodup_append, List.mem_append] at n
    grind
  refine ⟨m', am', ⟨t.rs R.rs dr, r2.perm w1, t.rp0 R.ri, t.rp R.ro dq, .nil, ?_, fun a ha => ?_, fun a o e n => ?_, fun l a h => pm l a (R.pm l a h), R.gu, tb⟩, r1.perm w1⟩
  · simp only [wOf, List.nodup_append, List.mem_append] at nd ⊢
    grind
  · have f := fr a
    have g := R.fr a
    simp only [List.mem_append] at ha f g
    rcases ha with ha | ha | ha
    · exact g (.inl ha)
    · rcases f ha with z | z
      · exact g (.inr (.inl z))
      · exact R.free0 z
    · exact g (.inr (.inr ha))
  · obtain ⟨o1, e1, f1⟩ := R.kp a o e n
    by_cases c : a ∈ am
    · have g := R.fr a (by simp [c])
      rcases g with g | g
      · exact absurd g n
      · rw [e] at g; cases g
    · obtain ⟨o2, e2, f2⟩ := kp a o1 e1 c
      refine ⟨o2, e2, fun z => ?_⟩
      have z1 := f1 z
      subst z1
      exact f2 z
end
/-! ### a def of the text -/
structure FnN (P : Program) (w : World) (K : PySem.W.Frag) (mg : Str → Option Value) (base : Heap) (k : Nat) (f : Addr) (fd : FuncData) (ps : List Str) (sp : Sp) : Prop where
  len : ∀ vs H Q E, sp vs H Q E → vs.length = ps.length
  run : ∀ (A : Around) (outer : List Env) (s : Shared) (H : Hp) (args : Args) (us : List Value) (vs : List V) (Q : VK) (E : XK), A.guards = some [] → Room k A → Env0 P w K mg base A outer s H →
    BindsTo s fd args (ps.zip us) → Vals vs us → sp vs H Q E → codeAny (model P w) A (.call (.ref f) args) (CR (L2N.CX P w) outer P w H s Q E) s
abbrev cxN (P : Program) (w : World) (K : PySem.W.Frag) (mg : Str → Option Value) (base : Heap) (N : List Str) (qual : Str) (scope : Scope) (f : Addr) (cd : Value) (A : Around) (outer : List Env) (s : Shared) (H : Hp) (E : XK) : Cx :=
  cxOf (L2N.CX P w) P w K mg base N qual scope f cd A outer s H E
section
variable {P : Program} {w : World} {K : PySem.W.Frag} {mg : Str → Option Value} {base : Heap} {k : Nat} {f : Addr} {fd : FuncData} {ps N : List Str} {sp : Sp} {x qual : Str} {params : Arguments} {body : List Stmt} {scope : Scope} {dvs : List V} {kws : List (Str × V)} {T : List (Addr × Str)}
theorem okN (F : FunD K x qual params body scope dvs kws f fd) (S : FnScope N ps scope) (len : ∀ vs H Q E, sp vs H Q E → vs.length = ps.length)
    (hb : ∀ (cdv : Value) (A : Around) (outer : List Env) (s : Shared) (H : Hp) (vs : List V) (Q : VK) (E : XK), A.guards = some [] → Room k (A.deeper (envOfC qual scope s.heap.objs.size f cdv)) → sp vs H Q E →
      ∃ t, PSs (cxN P w K mg base N qual scope f cdv A outer s H E) body t ∧ t { nx := fun _ H' => Q .non H', rt := Q } (start N vs) H) : FnN P w K mg base (k + 1) f fd ps sp := by
  obtain ⟨oc, od, dV, kV, doc, pm, an, cdv, ct, osl, rfl, lk, hcd, _, _⟩ := F.ex
  refine ⟨len, ?_⟩
  intro A outer s H args us vs Q E hG hr e0 hbi r hsp
  have inK : K.In s.heap := e0.mod.kin.keeps fun b o e => (e0.bs b o e).1
  have lim : s.heap.NoLimit := e0.mod.nolimit.keeps fun b o e => (e0.bs b o e).1
  refine codeAny_call_function hr.depth (inK _ _ lk) rfl S.co S.gen rfl (PySem.W.codeRec_of inK hcd) (hbi _ _ _ _ ?_)
  refine wpAny_newFunctionEnv_cells S.kind ?_ ?_
  · rintro ⟨n, v⟩ hy
    rcases S.par n (List.of_mem_zip hy).1 with z | z
    · exact .inl z
    · exact .inr ⟨z, PySem.W.cellsFrom_some _ _ _ (.inl z)⟩
  intro env he s1 y
  subst he
  refine ⟨lim.keeps y.toInCall.keep, codeAny_func ?_⟩
  obtain ⟨t, ht, hq⟩ := hb cdv A outer s H vs Q E hG (hr.deeper _) hsp
  have I := inv_start (CX := L2N.CX P w) (E := E) S hr.hd e0 (len _ _ _ _ hsp) r y
  refine wpAny_mono (ht.run [] s1 (start N vs) H _ I hq) ?_ (fun e s' z => z)
  intro fl s' z
  cases fl with
  | ret u =>
    obtain ⟨v, σ', H', J, rv, q⟩ := z
    exact ⟨v, H', J.os, J.bare, J.base, J.hok, rv, q⟩
  | next =>
    obtain ⟨σ', H', J, q⟩ := z
    exact ⟨V.non, H', J.os, J.bare, J.base, J.hok, rfl, q⟩
  | brk => obtain ⟨_, _, _, q⟩ := z; exact q.elim
  | cont => obtain ⟨_, _, _, q⟩ := z; exact q.elim
theorem takes_N {cd : Value} {A : Around} {outer : List Env} {s : Shared} {H : Hp} {E : XK} : L2N.Takes (cxN P w K mg base N qual scope f cd A outer s H E) (fun cls d _ H => E cls d H) := L2N.takes_of rfl rfl rfl rfl
/-- a def by its body's plain meaning -/
theorem okM {mb : M Fl} {n : Nat} (F : FunD K x qual params body scope dvs kws f fd) (S : FnScope N ps scope) (hn : N.length - ps.length = n)
    (hb : ∀ (cdv : Value) (A : Around) (outer : List Env) (s : Shared) (H : Hp) (E : XK) (Γ : Gam), Γ.T = T → A.guards = some [] → Room k (A.deeper (envOfC qual scope s.heap.objs.size f cdv)) →
      PSs (cxN P w K mg base N qual scope f cdv A outer s H E) body (rdS K Γ (fun cls d _ H => E cls d H) mb)) : FnN P w K mg base (k + 1) f fd ps (spM K T ps.length (fnM n mb)) := by
  refine okN F S (fun vs H Q E h => h.1) ?_
  intro cdv A outer s H vs Q E hG hr hsp
  obtain ⟨hl, U, m, am, xs, S0, r1, r2, nd, hu, tb, h⟩ := hsp
  refine ⟨_, hb cdv A outer s H E ⟨U, H, am, m, T⟩ rfl hG hr, ?_⟩
  have e : L2.start N vs = vs.map some ++ List.replicate n none := by unfold L2.start; rw [hl, hn]
  rw [e]
  refine ⟨_, _, ent (n := n) r1 r2 nd hu tb, rfl, ?_⟩
  unfold fnM at h
  cases em : mb ⟨xs.map Sl.im ++ List.replicate n .no, S0⟩ with
  | bad => rw [em] at h; exact h
  | err c st => rw [em] at h; exact fun σ' H' R' => h H' (ext_ R' rfl rfl)
  | ok fl st =>
    rw [em] at h
    cases fl with
    | nx => exact fun σ' H' R' => h .non H' (ext_ R'.non rfl rfl)
    | rt d => exact fun v σ' H' R' => h v H' (ext_ R' rfl rfl)
    | bk => exact h.elim
    | ct => exact h.elim
end
/-- a function of the text that stands behind its name -/
structure CalN (P : Program) (w : World) (K : PySem.W.Frag) (mg : Str → Option Value) (base : Heap) (T : List (Addr × Str)) (k : Nat) (x : Str) (ps : List Str) (ds : List AV) (f : Fn) : Prop where
  ex : ∃ (a : Addr) (fd : FuncData) (dvs : List V) (us : List Value), FnN P w K mg base k a fd ps (spM K T ps.length f) ∧ mg x = some (.ref a) ∧ PySem.W.keepIn K (.ref a) = true ∧ Binds K fd ps us ∧ Vals dvs us ∧ ∀ H W m, Rp K H W m dvs ds []
/-- what a def leaves, taken over -/
def back (r : List Sl) : Res AV (List AV) → Res AV Ss
  | .ok d S => .ok d ⟨r, S⟩
  | .err c S => .err c ⟨r, S⟩
  | .bad => .bad
@[simp] theorem back_ok (r : List Sl) (d : AV) (S : List AV) : back r (.ok d S) = .ok d ⟨r, S⟩ := rfl
@[simp] theorem back_err (r : List Sl) (c : Str) (S : List AV) : back r (.err c S) = .err c ⟨r, S⟩ := rfl
@[simp] theorem back_bad (r : List Sl) : back r .bad = .bad := rfl
def eCall (n : Nat) (f : Fn) (ds : List AV) (a : M (List AV)) : M AV := fun st => (a st).bind fun xs s1 => if xs.length + ds.length = n then back s1.r (f (xs ++ ds) s1.s) else .bad
section
variable {X : Cx} {Γ : Gam} {W : WX} {σ : L2.St} {H : Hp} {st : Ss} {p : Pd} {K : PySem.W.Frag} {pos q : Pos} {k j : Nat} {x : Str} {ps : List Str} {ds : List AV} {f : Fn} {e : Expr} {es : List Expr} {ma : M (List AV)}
theorem run_N {pins : List (Addr × Obj)} {s : Shared} {Q : VK} {us ws : List Value} {vs dvs : List V} {a : Addr} {fd : FuncData} {sp : Sp} {E : XK} (F : FnN X.prog X.w X.K X.mg X.base k a fd ps sp) (hG : X.A.guards = some []) (hr : Room k X.A) (hb : Binds X.K fd ps ws) (hd : Vals dvs ws)
    (hx : PassesAt (L2N.CX X.prog X.w) X σ E) (I : Inv X pins σ H s) (r : Vals vs us) (h : sp (vs ++ dvs) H Q E) : wpAny (model X.prog X.w) X.A (call (.ref a) us) (EP X pins σ Q) X.xe s := by
  have r2 := r.append hd
  have hl : (us ++ ws).length = ps.length := r2.length.symm.trans (F.len _ _ _ _ h)
  refine wpAny_call (codeAny_mono (F.run X.A X.stack s H ⟨us, []⟩ (us ++ ws) (vs ++ dvs) Q E hG hr I.env0 (hb s us I.kIn hl) r2 h) ?_)
  intro r s' z
  cases r with
  | error e => exact hx pins H s e s' I z
  | ok fl => cases fl with
    | ret u => exact I.after z
    | next => exact z.elim
    | brk => exact z.elim
    | cont => exact z.elim
/-- arguments, then the def -/
theorem call_in {n : Nat} {dvs : List V} {Q : VK} (hd : ∀ H W m, Rp K H W m dvs ds []) (h : rdE K Γ W (eCall n f ds ma) σ H Q) : rdA K Γ W ma σ H fun vs H1 => spM K Γ.T n f (vs ++ dvs) H1 Q (WE W σ) := by
  obtain ⟨st, p, R, h⟩ := h
  refine ⟨st, p, R, ?_⟩
  unfold eCall at h
  cases ea : ma st with
  | bad => rw [ea] at h; exact h
  | err c s1 => rw [ea] at h; exact h
  | ok xs s1 =>
    rw [ea] at h
    simp only [Res.bind_ok] at h
    by_cases cn : xs.length + ds.length = n
    · rw [if_pos cn] at h
      intro vs H1 hl R1
      obtain ⟨m, ar, am, ao, ab, R2, r⟩ := Rel.args (p := p.nob) hl R1
      obtain ⟨c1, c2, c3, c4, c5⟩ := R2.enter (r.app (hd _ _ _))
      have l2 := (hd H1 [] []).len
      refine ⟨by rw [List.length_append]; omega, _, m, am, xs ++ ds, s1.s, c1, c2, c3, c4, c5, ?_⟩
      cases ef : f (xs ++ ds) s1.s with
      | bad => rw [ef] at h; exact h
      | err c S' =>
        rw [ef] at h
        intro H2 hp
        obtain ⟨m', am', R3, _⟩ := R2.back rfl hp
        exact h H2 R3.rel
      | ok d S' =>
        rw [ef] at h
        intro v H2 hp
        obtain ⟨m', am', R3, r3⟩ := R2.back rfl hp
        exact h v H2 (R3.sh r3)
    · rw [if_neg cn] at h
      exact h.elim
theorem s_call (F : CalN X.prog X.w X.K X.mg X.base Γ.T k x ps ds f) (hG : X.A.guards = some []) (hr : Room j X.A) (hk : k ≤ j) (hg : Gl X x) (tk : L2N.Takes X W) (ha : PA X (e :: es) (rdA X.K Γ W ma))
    (hdb : (x == ("__debug__" : Str)) = false := by decide) (he : starEach (e :: es) X.env = (false, eval e X.env) :: starEach es X.env := by rfl) (hpl : (backTo pos (starEach es X.env)).any (·.1) = false := by rfl) :
    PE X (.Call (.Name x q) (e :: es) [] pos) (rdE X.K Γ W (eCall ps.length f ds ma)) := by
  obtain ⟨a, fd, dvs, us, G, gm, kp, b, v, hd⟩ := F.ex
  refine ⟨fun pins s σ H Q I h => wpAny_Call_Name_kw (ld_glob I hg gm ?_ hdb)⟩
  refine PySem.W.callWith_K (h₀ := X.base) I.ok.mod.kin kp (thn (ha.run pos pins s σ H _ I (call_in hd h)) ?_) he hpl
  rintro us s1 ⟨vs, H1, I1, r, q⟩
  exact ⟨I1.kIn, run_N G hG (hr.mono hk) b v (L2N.passAt tk σ) I1 r q⟩
/-! ### raise -/
def sRaise (c : Str) : M Fl := fun st => .err c st
end
end Fk
/-! ## targets, loops, comprehensions -/
namespace Fk
open PySem PySem.Spec PyProof.Rows L2
abbrev Tg := AV → Ss → Option Ss
/-- a target: ns are the slots that it stores to -/
def rdG (K : PySem.W.Frag) (Γ : Gam) (ns : List Nat) (t : Tg) : TG := fun v σ H Q => ∃ st p d st', Rel K Γ σ H st (p.sh v d) ∧ t d st = some st' ∧ ∀ σ' H', wipe σ' ns = wipe σ ns → Rel K Γ σ' H' st' p → Q σ' H'
def rdGs (K : PySem.W.Frag) (Γ : Gam) (ns : List Nat) (t : List AV → Ss → Option Ss) : TGs := fun vs σ H Q => ∃ st p ds st', vs.length = ds.length ∧ Rel K Γ σ H st { p with iv := vs ++ p.iv, ix := ds ++ p.ix } ∧ t ds st = some st' ∧ ∀ σ' H', wipe σ' ns = wipe σ ns → Rel K Γ σ' H' st' p → Q σ' H'
def gN (i : Nat) : Tg := fun d st => some ⟨setSl st.r i (.im d), st.s⟩
def gNil' : List AV → Ss → Option Ss
  | [], st => some st
  | _ :: _, _ => none
def gCons' (t : Tg) (u : List AV → Ss → Option Ss) : List AV → Ss → Option Ss
  | d :: ds, st => (t d st).bind fun s1 => u ds s1
  | [], _ => none
def gT (n : Nat) (u : List AV → Ss → Option Ss) : Tg := fun d st => match d with
  | .tup xs => if xs.length = n then u xs st else none
  | .lst _ xs => if xs.length = n then u xs st else none
  | _ => none
theorem pg_or {X : Cx} {tg : Expr} {g1 g2 : TG} (h1 : PG X tg g1) (h2 : PG X tg g2) : PG X tg (fun v σ H Q => g1 v σ H Q ∨ g2 v σ H Q) := ⟨fun pins s σ H v u Q I r h => h.elim (h1.run pins s σ H v u Q I r) (h2.run pins s σ H v u Q I r)⟩
theorem wipe_sub {σ σ' : L2.St} {ns ms : List Nat} (h : wipe σ' ns = wipe σ ns) (hs : ∀ i ∈ ns, i ∈ ms) : wipe σ' ms = wipe σ ms := by
  have len : σ'.length = σ.length := by rw [← wipe_length σ' ns, h, wipe_length]
  apply List.ext_getElem?
  intro i
  by_cases c : i ∈ ms
  · have z : ∀ (τ : L2.St) (l : List Nat), i ∈ l → (wipe τ l)[i]? = if i < τ.length then some none else none := fun τ l => by
      induction l with
      | nil => intro z; cases z
      | cons a l ih =>
        intro z
        unfold wipe
        by_cases e : a = i
        · subst e
          by_cases hl : a < τ.length
          · rw [if_pos hl, List.getElem?_set_self (by rw [wipe_length]; exact hl)]
          · rw [if_neg hl, List.getElem?_eq_none (by rw [List.length_set, wipe_length]; omega)]
        · rw [List.getElem?_set_ne e]
          exact ih (by
            rcases List.mem_cons.mp z with z | z
            · exact absurd z.symm e
            · exact z)
    rw [z _ _ c, z _ _ c, len]
  · rw [wipe_out c, wipe_out c]
    have c2 : i ∉ ns := fun z => c (hs i z)
    have e1 := wipe_out (σ := σ') c2
    have e2 := wipe_out (σ := σ) c2
    rw [← e1, ← e2, h]
theorem wipe_set {σ : L2.St} {i : Nat} {o : Option V} : wipe (σ.set i o) [i] = wipe σ [i] := by
  show ((σ.set i o).set i none) = σ.set i none
  rw [List.set_set]
section
variable {X : Cx} {Γ : Gam} {W : WX} {σ : L2.St} {H : Hp} {st : Ss} {p : Pd} {K : PySem.W.Frag} {pos : Pos}
theorem pg_imp {e : Expr} {t t' : TG} (h : PG X e t) (i : ∀ v σ H Q, t' v σ H Q → t v σ H Q) : PG X e t' := ⟨fun pins s σ H v u Q I r q => h.run pins s σ H v u Q I r (i v σ H Q q)⟩
theorem pgs_imp {e : List Expr} {t t' : TGs} (h : PGs X e t) (i : ∀ v σ H Q, t' v σ H Q → t v σ H Q) : PGs X e t' := ⟨fun pins s σ H v u Q I r q => h.run pins s σ H v u Q I r (i v σ H Q q)⟩
theorem s_gn {i : Nat} {x : Str} (hN : X.N.Nodup) (hi : X.N[i]? = some x) (hx : Loc X.env.scope x) (hf : X.fn x = true ∨ X.env.scope.names.lookup x = some .local := by first | exact .inl rfl | exact .inr rfl | assumption) : PG X (.Name x pos) (rdG X.K Γ [i] (gN i)) := by
  refine pg_imp (pg_name hN hi hx hf) fun v σ H Q h => ?_
  obtain ⟨st, p, d, st', R, e, h⟩ := h
  cases e
  exact h _ _ wipe_set (R.put i)
theorem s_gnil : PGs X [] (rdGs X.K Γ [] gNil') := by
  refine pgs_imp pgs_nil fun vs σ H Q h => ?_
  obtain ⟨st, p, ds, st', hl, R, e, h⟩ := h
  cases ds with
  | nil =>
    cases e
    cases vs with
    | nil => exact ⟨rfl, h _ _ rfl R⟩
    | cons _ _ => cases hl
  | cons _ _ => cases e
theorem s_gcons {e : Expr} {es : List Expr} {ns ms : List Nat} {t : Tg} {u : List AV → Ss → Option Ss} (h1 : PG X e (rdG X.K Γ ns t)) (h2 : PGs X es (rdGs X.K Γ ms u))
    (hs : (assignEach (e :: es) X.env).map (·.2) = assign e X.env :: (assignEach es X.env).map (·.2) := by rfl) : PGs X (e :: es) (rdGs X.K Γ (ns ++ ms) (gCons' t u)) := by
  refine pgs_imp (pgs_cons h1 h2 hs) fun vs σ H Q h => ?_
  obtain ⟨st, p, ds, st', hl, R, e, h⟩ := h
  cases ds with
  | nil => cases e
  | cons d ds =>
    cases vs with
    | nil => cases hl
    | cons v vs =>
      have e2 : (t d st).bind (fun s1 => u ds s1) = some st' := e
      cases et : t d st with
      | none => rw [et] at e2; cases e2
      | some s1 =>
        rw [et] at e2
        refine ⟨v, vs, rfl, st, { p with iv := vs ++ p.iv, ix := ds ++ p.ix }, d, s1, R, et, fun σ' H' w1 R1 => ⟨s1, p, ds, st', by simpa using hl, R1, e2, fun σ2 H2 w2 R2 => h σ2 H2 ?_ R2⟩⟩
        exact (wipe_sub w2 (fun i hi => by simp [hi])).trans (wipe_sub w1 (fun i hi => by simp [hi]))
theorem s_gt {es : List Expr} {k n : Nat} {ns : List Nat} {u : List AV → Ss → Option Ss} (hc : X.calm = true) (h : PGs X es (rdGs X.K Γ ns u)) (hn : (assignEach es X.env).length = n := by rfl) (hst : (assignEach es X.env).findIdx? (·.1) = none := by rfl) :
    PG X (.Tuple es k pos) (rdG X.K Γ ns (gT n u)) := by
  refine pg_imp (pg_or (pg_tup hc h hn hst) (pg_lst hc h hn hst)) fun v σ H Q h => ?_
  obtain ⟨st, p, d, st', R, e, h⟩ := h
  unfold gT at e
  cases d with
  | tup xs =>
    obtain ⟨m, ar, am, ao, ab, R0, r⟩ := R.one
    obtain ⟨a, us, rfl, hs, q⟩ := r.tup_i
    by_cases c : xs.length = n
    · simp only [c, if_true] at e
      exact .inl ⟨a, us, rfl, hs, by rw [q.len]; exact c, st, p, xs, st', q.len, ⟨m, ar, am, ao, ab, R0.setI (q.app R0.ri)⟩, e, h⟩
    · simp only [c, if_false] at e
      cases e
  | lst o xs =>
    obtain ⟨m, ar, am, ao, ab, R0, r⟩ := R.one
    obtain ⟨a, us, rfl, hs, q⟩ := r.lst_i
    by_cases c : xs.length = n
    · simp only [c, if_true] at e
      exact .inr ⟨a, us, rfl, SqL.of hs, by rw [q.len]; exact c, st, p, xs, st', q.len, ⟨m, ar, am, ao, ab, R0.setI (q.app R0.ri)⟩, e, h⟩
    · simp only [c, if_false] at e
      cases e
  | _ => cases e
/-! ### what is walked -/
abbrev Pd.shs (p : Pd) (vs : List V) (xs : List AV) : Pd := { p with iv := vs ++ p.iv, ix := xs ++ p.ix }
theorem Rel.dropL {vs : List V} {xs : List AV} (hl : vs.length = xs.length) (R : Rel K Γ σ H st (p.shs vs xs)) : Rel K Γ σ H st p := by
  obtain ⟨m, ar, am, ao, ab, R, _⟩ := Rel.args hl R
  exact R.rel
theorem Rel.dropL1 {vs : List V} {xs : List AV} {v : V} {d : AV} (hl : vs.length = xs.length) (R : Rel K Γ σ H st ((p.shs vs xs).sh v d)) : Rel K Γ σ H st (p.sh v d) := by
  obtain ⟨m, ar, am, ao, ab, R, r⟩ := R.one
  obtain ⟨a1, a2, e, r1, r2⟩ := Rp.app_inv hl R.ri
  obtain ⟨e1, e2⟩ := List.append_eq_nil_iff.mp e.symm
  subst e1 e2
  exact ⟨m, ar, am, ao, ab, R.setI (p := p.shs vs xs) (r.cons0 r2)⟩
/-- J walks ds as long as what is pending stands -/
def ItR (K : PySem.W.Frag) (Γ : Gam) (J : It) (p : Pd) (ds : List AV) : Prop :=
  (∀ (i : Nat) d σ H st ov ox, ds[i]? = some d → Rel K Γ σ H st { p with ov := ov, ox := ox } → J.go i H ∧ ∀ x H', J.yld i H x H' → Rel K Γ σ H' st ({ p with ov := ov, ox := ox }.sh x d)) ∧ ∀ σ H st ov ox, Rel K Γ σ H st { p with ov := ov, ox := ox } → J.stop ds.length H
def rdI (K : PySem.W.Frag) (Γ : Gam) (W : WX) (m : M (List AV)) : TI := fun σ H R => ∃ st p, Rel K Γ σ H st p ∧ match m st with
  | .ok ds st' => ∀ J H' vs xs, vs.length = xs.length → Rel K Γ σ H' st' (p.nob.shs vs xs) → ItR K Γ J (p.nob.shs vs xs) ds → R J H'
  | .err c st' => ∀ H', Rel K Γ σ H' st' p.nob → W (.ref (He.ga K c)) none σ H'
  | .bad => False
theorem pi_imp {tg it : Expr} {t t' : TI} (h : PI X tg it t) (i : ∀ σ H R, t' σ H R → t σ H R) : PI X tg it t' := ⟨fun pins s σ H R I q => h.run pins s σ H R I (i σ H R q)⟩
/-- a list's, a tuple's items -/
def itemsOf : AV → Option (List AV)
  | .lst _ xs => some xs
  | .tup xs => some xs
  | .scr xs => some xs
  | _ => none
def iOf (m : M AV) : M (List AV) := fun st => (m st).bind fun x s1 => ofO (itemsOf x) s1
theorem s_it {tg e : Expr} {m : M AV} (h : PE X e (rdE X.K Γ W m)) : PI X tg e (rdI X.K Γ W (iOf m)) := by
  refine pi_imp (pi_or (pi_list h) (pi_tup h)) fun σ H R q => ?_
  obtain ⟨st, p, R0, q⟩ := q
  unfold iOf at q
  cases ea : m st with
  | bad => rw [ea] at q; exact q.elim
  | err c s1 =>
    rw [ea] at q
    exact .inl ⟨st, p, R0, by rw [ea]; exact q⟩
  | ok d s1 =>
    rw [ea] at q
    simp only [Res.bind_ok] at q
    cases d with
    | lst o xs =>
      refine .inl ⟨st, p, R0, ?_⟩
      rw [ea]
      intro v H1 R1
      obtain ⟨mm, ar, am, ao, ab, R2, r⟩ := R1.one
      obtain ⟨a, us, rfl, hs, _⟩ := r.lst_i
      refine ⟨a, rfl, ⟨us, SqL.of hs⟩, q (Itl X.K a) H1 [.ref a] [(.lst o xs)] rfl R1 ⟨fun i d σ H st ov ox e R3 => ?_, fun σ H st ov ox R3 => ?_⟩⟩
      · obtain ⟨m3, ar3, am3, ao3, ab3, R4, r4⟩ := Rel.one (p := { p.nob with ov := ov, ox := ox }) R3
        obtain ⟨a2, us2, e2, hs2, q2⟩ := r4.lst_i
        cases e2
        obtain ⟨u, eu, ru⟩ := q2.get0 e
        refine ⟨⟨us2, u, SqL.of hs2, eu⟩, fun x H' y => ?_⟩
        obtain ⟨eh, y⟩ := y
        subst eh
        have z := y us2 (SqL.of hs2)
        rw [eu] at z
        cases z
        exact ⟨m3, ar3, am3, ao3, ab3, R4.setI (ru.cons0 (r4.cons0 R4.ri))⟩
      · obtain ⟨m3, ar3, am3, ao3, ab3, R4, r4⟩ := Rel.one (p := { p.nob with ov := ov, ox := ox }) R3
        obtain ⟨a2, us2, e2, hs2, q2⟩ := r4.lst_i
        cases e2
        exact ⟨us2, SqL.of hs2, Nat.le_of_eq q2.len⟩
    | scr xs =>
      refine .inl ⟨st, p, R0, ?_⟩
      rw [ea]
      intro v H1 R1
      obtain ⟨mm, ar, am, ao, ab, R2, r⟩ := R1.one
      obtain ⟨a, us, rfl, hs, _⟩ := r.scr_i
      refine ⟨a, rfl, ⟨us, hs.sq⟩, q (Itl X.K a) H1 [.ref a] [(.scr xs)] rfl R1 ⟨fun i d σ H st ov ox e R3 => ?_, fun σ H st ov ox R3 => ?_⟩⟩
      · obtain ⟨m3, ar3, am3, ao3, ab3, R4, r4⟩ := Rel.one (p := { p.nob with ov := ov, ox := ox }) R3
        obtain ⟨a2, us2, e2, hs2, q2⟩ := r4.scr_i
        cases e2
        obtain ⟨u, eu, ru⟩ := q2.get0 e
        refine ⟨⟨us2, u, hs2.sq, eu⟩, fun x H' y => ?_⟩
        obtain ⟨eh, y⟩ := y
        subst eh
        have z := y us2 hs2.sq
        rw [eu] at z
        cases z
        exact ⟨m3, ar3, am3, ao3, ab3, R4.setI (ru.cons0 (r4.cons0 R4.ri))⟩
      · obtain ⟨m3, ar3, am3, ao3, ab3, R4, r4⟩ := Rel.one (p := { p.nob with ov := ov, ox := ox }) R3
        obtain ⟨a2, us2, e2, hs2, q2⟩ := r4.scr_i
        cases e2
        exact ⟨us2, hs2.sq, Nat.le_of_eq q2.len⟩
    | tup xs =>
      refine .inr ⟨st, p, R0, ?_⟩
      rw [ea]
      intro v H1 R1
      obtain ⟨mm, ar, am, ao, ab, R2, r⟩ := R1.one
      obtain ⟨a, us, rfl, hs, _⟩ := r.tup_i
      refine ⟨a, rfl, ⟨us, hs⟩, q (Itt X.K a) H1 [.ref a] [(.tup xs)] rfl R1 ⟨fun i d σ H st ov ox e R3 => ?_, fun σ H st ov ox R3 => ?_⟩⟩
      · obtain ⟨m3, ar3, am3, ao3, ab3, R4, r4⟩ := Rel.one (p := { p.nob with ov := ov, ox := ox }) R3
        obtain ⟨a2, us2, e2, hs2, q2⟩ := r4.tup_i
        cases e2
        obtain ⟨u, eu, ru⟩ := q2.get0 e
        refine ⟨⟨us2, u, hs2, eu⟩, fun x H' y => ?_⟩
        obtain ⟨eh, y⟩ := y
        subst eh
        have z := y us2 hs2
        rw [eu] at z
        cases z
        exact ⟨m3, ar3, am3, ao3, ab3, R4.setI (ru.cons0 (r4.cons0 R4.ri))⟩
      · obtain ⟨m3, ar3, am3, ao3, ab3, R4, r4⟩ := Rel.one (p := { p.nob with ov := ov, ox := ox }) R3
        obtain ⟨a2, us2, e2, hs2, q2⟩ := r4.tup_i
        cases e2
        exact ⟨us2, hs2, Nat.le_of_eq q2.len⟩
    | _ => exact q.elim
/-- range -/
def rngL (lo hi : Int) : List AV := (List.range (hi - lo).toNat).map fun (i : Nat) => AV.int (lo + i)
def rng1 : List AV → Option (List AV)
  | [.int n] => if -(2 ^ 62) ≤ n ∧ n < 2 ^ 62 then some (rngL 0 n) else none
  | _ => none
def iArg (f : List AV → Option (List AV)) (m : M (List AV)) : M (List AV) := fun st => (m st).bind fun xs s1 => ofO (f xs) s1
theorem itr_r {lo : Int} {n : Nat} : ItR K Γ (Itr lo n) p ((List.range n).map fun (i : Nat) => AV.int (lo + i)) := by
  refine ⟨fun i d σ H st ov ox e R => ?_, fun σ H st ov ox R => by rw [List.length_map, List.length_range]; exact Nat.le_refl _⟩
  rw [List.getElem?_map] at e
  by_cases c : i < n
  · rw [List.getElem?_range c] at e
    cases e
    refine ⟨c, fun x H' y => ?_⟩
    obtain ⟨eh, ex⟩ := y
    subst eh ex
    exact R.int _
  · rw [List.getElem?_eq_none (by rw [List.length_range]; omega)] at e
    cases e
theorem s_rng1 {tg a : Expr} {ma : M (List AV)} {q : Pos} (hg : Gl X "range") (hm : X.mg "range" = none) (ha : PA X [a] (rdA X.K Γ W ma)) (hs : starEach [a] X.env = [(false, eval a X.env)] := by rfl) : PI X tg (.Call (.Name "range" q) [a] [] pos) (rdI X.K Γ W (iArg rng1 ma)) := by
  refine pi_imp (pi_range1 hg hm ha hs) fun σ H R h => ?_
  obtain ⟨st, p, R0, h⟩ := h
  refine ⟨st, p, R0, ?_⟩
  unfold iArg at h
  cases ea : ma st with
  | bad => rw [ea] at h; exact h
  | err c s1 => rw [ea] at h; exact h
  | ok xs s1 =>
    rw [ea] at h
    simp only [Res.bind_ok] at h
    intro vs H1 hl R1
    obtain ⟨m, ar, am, ao, ab, R2, r⟩ := Rel.args (p := p.nob) hl R1
    cases e : rng1 xs with
    | none => rw [e] at h; exact h.elim
    | some ds =>
      rw [e] at h
      unfold rng1 at e
      split at e
      · split at e
        · cases e
          rename_i n c
          obtain ⟨v, vs', rfl⟩ : ∃ v vs', vs = v :: vs' := by
            cases vs with
            | nil => cases hl
            | cons v vs' => exact ⟨v, vs', rfl⟩
          have e1 := r.head0.1.int_i
          have e2 := (r.head0.2.nil_inv).1
          subst e1 e2
          refine ⟨n, rfl, c.1, c.2, h _ H1 [] [] rfl R2.rel ?_⟩
          have e3 : n.toNat = (n - 0).toNat := by omega
          unfold rngL
          rw [← e3]
          exact itr_r
        · cases e
      · cases e
/-! ### for -/
def forM (t : Tg) (body : M Fl) : List AV → M Fl
  | [], st => .ok .nx st
  | d :: ds, st => match t d st with
    | none => .bad
    | some s0 => match body s0 with
      | .ok .nx s1 => forM t body ds s1
      | .ok .ct s1 => forM t body ds s1
      | .ok .bk s1 => .ok .nx s1
      | .ok (.rt d) s1 => .ok (.rt d) s1
      | .err c s1 => .err c s1
      | .bad => .bad
def sFor (mi : M (List AV)) (t : Tg) (body : M Fl) : M Fl := fun st => (mi st).bind fun ds s1 => forM t body ds s1
def Pos_ (K : PySem.W.Frag) (Γ : Gam) (W : WX) (D : Ends) (p : Pd) (r : Res Fl Ss) : Prop := match r with
  | .ok .nx st' => ∀ σ' H', Rel K Γ σ' H' st' p → D.nx σ' H'
  | .ok (.rt d) st' => ∀ v σ' H', Rel K Γ σ' H' st' (p.sh v d) → D.rt v H'
  | .ok .bk st' => ∀ σ' H', Rel K Γ σ' H' st' p → D.bk σ' H'
  | .ok .ct st' => ∀ σ' H', Rel K Γ σ' H' st' p → D.ct σ' H'
  | .err c st' => ∀ σ' H', Rel K Γ σ' H' st' p → W (.ref (He.ga K c)) none σ' H'
  | .bad => False
theorem s_for {tg iter : Expr} {body : List Stmt} {mi : M (List AV)} {ns : List Nat} {t : Tg} {mb : M Fl} (hp : PassesOwn (model X.prog X.w) X.A X.env X.xe) (hc : X.calm = true) (hi : PI X tg iter (rdI X.K Γ W mi)) (hg : PG X tg (rdG X.K Γ ns t)) (hb : PSs X body (rdS X.K Γ W mb))
    (hs : ∀ x, foldedSetIterable iter X.env x = pure x := by intro _; rfl) : PS X (.For tg iter body [] pos) (rdS X.K Γ W (sFor mi t mb)) := by
  refine ps_imp (ps_for hp hc hi hg hb hs) fun D σ H h => ?_
  obtain ⟨st, p, R, hp, h⟩ := h
  refine ⟨st, p, R, ?_⟩
  unfold sFor at h
  cases ea : mi st with
  | bad => rw [ea] at h; exact h
  | err c s1 => rw [ea] at h; exact fun H' R' => h σ H' (hp ▸ R')
  | ok ds s1 =>
    rw [ea] at h
    simp only [Res.bind_ok] at h
    have h : Pos_ X.K Γ W D p (forM t mb ds s1) := h
    intro J H1 vs xs hl R1 J1
    rw [hp] at R1 J1
    have hw : ∀ σ H st, Rel X.K Γ σ H st (p.shs vs xs) → Rel X.K Γ σ H st p := fun _ _ _ z => z.dropL hl
    have np : (p.shs vs xs).nob = p.shs vs xs := by
      have e := hp
      have e1 : p.bv = [] := by rw [← hp]
      have e2 : p.bx = [] := by rw [← hp]
      show { p.shs vs xs with bv := [], bx := [] } = p.shs vs xs
      rw [← e1, ← e2]
    refine ⟨fun i n σ H => n = ds.length - i ∧ i ≤ ds.length ∧ ∃ st, Rel X.K Γ σ H st (p.shs vs xs) ∧ Pos_ X.K Γ W D p (forM t mb (ds.drop i) st), ⟨_, rfl, Nat.zero_le _, s1, R1, h⟩, ?_⟩
    rintro i n σ H ⟨rfl, hi, st, R2, h2⟩
    by_cases c : i < ds.length
    · rw [List.drop_eq_getElem_cons c] at h2
      unfold forM at h2
      cases et : t ds[i] st with
      | none => rw [et] at h2; exact h2.elim
      | some s0 =>
        rw [et] at h2
        have h2 : Pos_ X.K Γ W D p (match mb s0 with
          | .ok .nx s1 => forM t mb (ds.drop (i + 1)) s1
          | .ok .ct s1 => forM t mb (ds.drop (i + 1)) s1
          | .ok .bk s1 => .ok .nx s1
          | .ok (.rt d) s1 => .ok (.rt d) s1
          | .err c s1 => .err c s1
          | .bad => .bad) := h2
        obtain ⟨go, yl⟩ := J1.1 i ds[i] σ H st p.ov p.ox (by simp [c]) R2
        refine .inr ⟨go, fun σ' H' => ∃ st, Rel X.K Γ σ' H' st (p.shs vs xs) ∧ Pos_ X.K Γ W D p (forM t mb (ds.drop (i + 1)) st), fun σ' H' ⟨st, R3, h3⟩ => ⟨_, by omega, rfl, c, st, R3, h3⟩, fun x H' y => ?_⟩
        refine ⟨st, p.shs vs xs, ds[i], s0, yl x H' y, et, fun σ2 H2 _ R3 => ⟨s0, p.shs vs xs, R3, np, ?_⟩⟩
        cases em : mb s0 with
        | bad => rw [em] at h2; exact h2
        | err c s2 => rw [em] at h2; exact fun σ3 H3 R4 => h2 σ3 H3 (hw _ _ _ R4)
        | ok f s2 =>
          rw [em] at h2
          cases f with
          | nx => exact fun σ3 H3 R4 => ⟨s2, R4, h2⟩
          | ct => exact fun σ3 H3 R4 => ⟨s2, R4, h2⟩
          | bk => exact fun σ3 H3 R4 => h2 σ3 H3 (hw _ _ _ R4)
          | rt d => exact fun v σ3 H3 R4 => h2 v σ3 H3 (R4.dropL1 hl)
    · have e : i = ds.length := by omega
      subst e
      rw [List.drop_length] at h2
      exact .inl ⟨J1.2 σ H st p.ov p.ox R2, h2 σ H (hw _ _ _ R2)⟩
end
end Fk
/-! ## list comprehensions -/
namespace Fk
open PySem PySem.Spec PyProof.Rows L2
def wipeSl (r : List Sl) : List Nat → List Sl
  | [] => r
  | v :: vs => setSl (wipeSl r vs) v .no
abbrev Ss.wipe (st : Ss) (vs : List Nat) : Ss := ⟨wipeSl st.r vs, st.s⟩
def noX : WX := fun _ _ _ _ => False
def compM (t : Tg) (tt : M Bool) (te : M AV) (vs : List Nat) : List AV → List AV → Ss → Res (List AV) Ss
  | [], acc, st => .ok acc st
  | d :: ds, acc, st => match t d st with
    | none => .bad
    | some s0 => match tt s0 with
      | .ok true s1 => (match te s1 with
        | .ok y s2 => if acc.length < 16777216 then compM t tt te vs ds (acc ++ [y]) (s2.wipe vs) else .bad
        | _ => .bad)
      | .ok false s1 => compM t tt te vs ds acc (s1.wipe vs)
      | _ => .bad
theorem wipe_wipe {σ : L2.St} {vs : List Nat} : L2.wipe (L2.wipe σ vs) vs = L2.wipe σ vs := by
  apply List.ext_getElem?
  intro i
  by_cases c : i ∈ vs
  · have z : ∀ (τ : L2.St) (l : List Nat), i ∈ l → (L2.wipe τ l)[i]? = if i < τ.length then some none else none := fun τ l => by
      induction l with
      | nil => intro z; cases z
      | cons a l ih =>
        intro z
        unfold L2.wipe
        by_cases e : a = i
        · subst e
          by_cases hl : a < τ.length
          · rw [if_pos hl, List.getElem?_set_self (by rw [wipe_length]; exact hl)]
          · rw [if_neg hl, List.getElem?_eq_none (by rw [List.length_set, wipe_length]; omega)]
        · rw [List.getElem?_set_ne e]
          exact ih (by
            rcases List.mem_cons.mp z with z | z
            · exact absurd z.symm e
            · exact z)
    rw [z _ _ c, z _ _ c, wipe_length]
  · rw [wipe_out c]
def tTrue : M Bool := fun st => .ok true st
def lcM (mi : M (List AV)) (t : Tg) (tt : M Bool) (te : M AV) (vs : List Nat) : M (List AV) := fun st => (mi st).bind fun ds s1 => compM t tt te vs ds [] (s1.wipe vs)
def eLc (o : Bool) (m : M (List AV)) : M AV := fun st => (m st).bind fun xs s1 => .ok (.lst o xs) s1
section
variable {K : PySem.W.Frag} {H H' : Hp} {W m : List Addr} {as : List Addr} {σ : L2.St} {r : List Sl}
theorem Rs.wipe1 (q : Rs K H W m σ r as) (i : Nat) : ∃ as', (∀ b ∈ as', b ∈ as) ∧ (as.Nodup → as'.Nodup) ∧ Rs K H W m (σ.set i none) (setSl r i .no) as' := by
  obtain ⟨as', h1, h2, h3⟩ := q.drop i
  refine ⟨as', h1, h2, ?_⟩
  clear h1 h2 q
  induction r generalizing i σ as' with
  | nil =>
    cases h3
    exact .nil
  | cons x r ih => cases i with
    | zero =>
      cases h3 with
      | no q => exact .no q
    | succ i =>
      cases h3 with
      | no q => exact .no (ih _ _ q)
      | im h0 q => exact .im h0 (ih _ _ q)
      | ow h0 q => exact .ow h0 (ih _ _ q)
theorem Rs.wipes (q : Rs K H W m σ r as) : ∀ vs : List Nat, ∃ as', (∀ b ∈ as', b ∈ as) ∧ (as.Nodup → as'.Nodup) ∧ Rs K H W m (L2.wipe σ vs) (wipeSl r vs) as'
  | [] => ⟨as, fun _ z => z, fun z => z, q⟩
  | v :: vs => by
    obtain ⟨a1, h1, h2, h3⟩ := q.wipes vs
    obtain ⟨a2, g1, g2, g3⟩ := h3.wipe1 v
    exact ⟨a2, fun b z => h1 b (g1 b z), fun z => g2 (h2 z), g3⟩
/-- a slot that tells nothing may hold anything -/
theorem Rs.any1 {i : Nat} {o : Option V} (q : Rs K H W m (σ.set i o) (setSl r i .no) as) : Rs K H W m σ (setSl r i .no) as := by
  induction r generalizing i σ as with
  | nil =>
    cases σ with
    | nil => exact q
    | cons a b =>
      have l := q.len
      simp [setSl] at l
  | cons x r ih => cases i with
    | zero =>
      cases σ with
      | nil => exact q
      | cons a b =>
        cases q with
        | no q => exact .no q
    | succ i =>
      cases σ with
      | nil => exact q
      | cons a b =>
        cases q with
        | no q => exact .no (ih q)
        | im h0 q => exact .im h0 (ih q)
        | ow h0 q => exact .ow h0 (ih q)
theorem setSl_comm : ∀ (r : List Sl) (i j : Nat), setSl (setSl r i .no) j .no = setSl (setSl r j .no) i .no
  | [], _, _ => rfl
  | _ :: _, 0, 0 => rfl
  | _ :: _, 0, _ + 1 => rfl
  | _ :: _, _ + 1, 0 => rfl
  | x :: r, i + 1, j + 1 => by simp [setSl_comm r i j]
theorem wipeSl_set : ∀ (vs : List Nat) (r : List Sl) (i : Nat), wipeSl (setSl r i .no) vs = setSl (wipeSl r vs) i .no
  | [], _, _ => rfl
  | v :: vs, r, i => by
    show setSl (wipeSl (setSl r i .no) vs) v .no = setSl (setSl (wipeSl r vs) v .no) i .no
    rw [wipeSl_set vs r i, setSl_comm]
theorem Rs.any : ∀ (vs : List Nat) {σ : L2.St} {r : List Sl} {as : List Addr}, Rs K H W m (L2.wipe σ vs) (wipeSl r vs) as → Rs K H W m σ (wipeSl r vs) as
  | [], _, _, _, q => q
  | v :: vs, σ, r, as, q => by
    have q1 : Rs K H W m (L2.wipe σ vs) (setSl (wipeSl r vs) v .no) as := Rs.any1 (show Rs K H W m ((L2.wipe σ vs).set v none) (setSl (wipeSl r vs) v .no) as from q)
    rw [← wipeSl_set] at q1
    have q2 := Rs.any vs q1
    rw [wipeSl_set] at q2
    exact q2
end
section
variable {X : Cx} {Γ : Gam} {W : WX} {σ : L2.St} {H : Hp} {st : Ss} {p : Pd} {K : PySem.W.Frag} {pos : Pos}
theorem Rel.wipe (R : Rel K Γ σ H st p) (vs : List Nat) : Rel K Γ (L2.wipe σ vs) H (st.wipe vs) p := by
  obtain ⟨m, ar, am, ao, ab, R⟩ := R
  obtain ⟨ar', h1, h2, h3⟩ := R.rs.wipes vs
  have nd := R.nd
  have fr := R.fr
  have t : Tr H H (wOf Γ ar am ao) (wOf Γ ar' am ao) m m [] := Tr.same fun c z => by
    simp only [wOf, List.mem_append] at z ⊢
    grind
  refine ⟨m, ar', am, ao, ab, t.rs h3 (fun _ _ z => nomatch z), t.rp R.rm (fun _ _ z => nomatch z), t.rp0 R.ri, t.rp R.ro (fun _ _ z => nomatch z), t.rp R.rb (fun _ _ z => nomatch z), ?_, ?_, R.kp, R.pm, R.gu, R.tb⟩
  · simp only [wOf, List.nodup_append, List.mem_append] at nd ⊢
    grind
  · intro a ha
    have z := fr a
    simp only [List.mem_append] at z ha
    grind
theorem Rel.unwipe {vs : List Nat} {s0 : Ss} (R : Rel K Γ (L2.wipe σ vs) H (s0.wipe vs) p) : Rel K Γ σ H (s0.wipe vs) p := by
  obtain ⟨m, ar, am, ao, ab, R⟩ := R
  exact ⟨m, ar, am, ao, ab, Rs.any vs R.rs, R.rm, R.ri, R.ro, R.rb, R.nd, R.fr, R.kp, R.pm, R.gu, R.tb⟩
/-- the owned list that is pending gets an item more -/
theorem Rel.appO {D : Addr} {acc : List AV} {y : V} {d : AV} (R : Rel K Γ σ H st ((p.own (.ref D) (.lst true acc)).sh y d)) : ∃ us, H D = some (.lst us) ∧ us.length = acc.length ∧ Rel K Γ σ (upd H D (.lst (us ++ [y]))) st (p.own (.ref D) (.lst true (acc ++ [d]))).nob := by
  obtain ⟨m, ar, am, ao, ab, R⟩ := R
  have ry := R.ri.head0.1
  have ri := R.ri.head0.2
  obtain ⟨b, ao', eo, r1, r2⟩ := R.ro.head
  obtain ⟨_, us, e0, rfl, h, q⟩ := r1.lsO_i
  cases e0
  · subst eo
    have nd := R.nd
    have hD : D ∈ wOf Γ ar am ([D] ++ ao') := by simp [wOf]
    have t : Tr H (upd H D (.lst (us ++ [y]))) (wOf Γ ar am ([D] ++ ao')) (wOf Γ ar am ([D] ++ ao')) m m [D] := Tr.put h rfl hD fun _ z => z
    have n1 : ∀ b ∈ ar, b ∉ [D] := fun b hb z => by
      simp only [wOf, List.nodup_append, List.mem_append, List.mem_singleton] at nd z
      grind
    have n2 : ∀ b ∈ am, b ∉ [D] := fun b hb z => by
      simp only [wOf, List.nodup_append, List.mem_append, List.mem_singleton] at nd z
      grind
    have n3 : ∀ b ∈ ao', b ∉ [D] := fun b hb z => by
      simp only [wOf, List.nodup_append, List.mem_append, List.mem_singleton] at nd z
      grind
    refine ⟨us, h, q.len, m, ar, am, [D] ++ ao', [], t.rs R.rs n1, t.rp R.rm n2, t.rp0 ri, (Rp.lsO upd_same ((t.rp0 q).app (t.rp0 ry)) .nil).cons (t.rp r2 n3), .nil, nd, R.fr, fun a o e n => ?_, R.pm, R.gu, tabs_put R.tb h rfl⟩
    obtain ⟨o', e', f⟩ := R.kp a o e n
    have ne : a ≠ D := by
      rintro rfl
      rcases R.fr a (by simp) with z | z
      · exact n z
      · rw [e] at z; cases z
    exact ⟨o', by rw [upd_ne ne]; exact e', f⟩
/-- what is owned and pending is given up -/
theorem Rel.frzO {v : V} {x d : AV} (R : Rel K Γ σ H st (p.own v x)) (e : Fk.frz x = some d) : Rel K Γ σ H st (p.sh v d) := by
  obtain ⟨m, ar, am, ao, ab, R⟩ := R
  obtain ⟨b, ao', eo, r1, r2⟩ := R.ro.head
  subst eo
  have nd := R.nd
  have fr := R.fr
  have hw : ∀ c, c ∈ wOf Γ ar am ao' → c ∈ wOf Γ ar am (b ++ ao') := fun c z => by
    simp only [wOf, List.mem_append] at z ⊢
    grind
  have t : Tr H H (wOf Γ ar am (b ++ ao')) (wOf Γ ar am ao') m m [] := Tr.same hw
  have rd := r1.frz e hw (fun c z => by
    simp only [wOf, List.nodup_append, List.mem_append] at nd ⊢
    grind)
  refine ⟨m, ar, am, ao', ab, t.rs R.rs (fun _ _ z => nomatch z), t.rp R.rm (fun _ _ z => nomatch z), rd.cons0 (t.rp0 R.ri), t.rp r2 (fun _ _ z => nomatch z), t.rp R.rb (fun _ _ z => nomatch z), ?_, ?_, R.kp, R.pm, R.gu, R.tb⟩
  · simp only [wOf, List.nodup_append, List.mem_append] at nd ⊢
    grind
  · intro a ha
    have z := fr a
    simp only [List.mem_append] at z ha
    grind
theorem pts_imp {es : List Expr} {t t' : TT} (h : PTs X es t) (i : ∀ σ H Q, t' σ H Q → t σ H Q) : PTs X es t' := ⟨fun pins s σ H Q I q => h.run pins s σ H Q I (i σ H Q q)⟩
theorem s_ts0 : PTs X [] (rdT X.K Γ W tTrue) := by
  refine pts_imp pts_nil fun σ H Q h => ?_
  obtain ⟨st, p, R, h⟩ := h
  exact h H R.nob
theorem s_ts1 {c : Expr} {m : M Bool} (h : PT X c (rdT X.K Γ W m)) : PTs X [c] (rdT X.K Γ W m) := pts_one h
/-- the comprehension's reading, the list that comes owned -/
theorem lc_in {mi : M (List AV)} {ns vs : List Nat} {t : Tg} {mt : M Bool} {me : M AV} {Q : VK} (hns : ∀ i ∈ ns, i ∈ vs) (h : rdO K Γ W (eLc true (lcM mi t mt me vs)) σ H Q) : tLc (rdI K Γ W mi) (rdG K Γ ns t) (rdT K Γ noX mt) (rdE K Γ noX me) vs σ H Q := by
  obtain ⟨st, p, R, h⟩ := h
  refine ⟨st, p, R, ?_⟩
  unfold eLc lcM at h
  cases ea : mi st with
  | bad => rw [ea] at h; exact h
  | err c s1 => rw [ea] at h; exact h
  | ok ds s1 =>
    rw [ea] at h
    simp only [Res.bind_ok] at h
    have h : match compM t mt me vs ds [] (s1.wipe vs) with
      | .ok xs st' => ∀ v H', Rel K Γ σ H' st' (p.nob.own v (.lst true xs)) → Q v H'
      | _ => False := by
      cases ec : compM t mt me vs ds [] (s1.wipe vs) with
      | bad => rw [ec] at h; exact h
      | err c s => 
        exfalso
        have noerr : ∀ (ds acc : List AV) (st : Ss) (c : Str) (s : Ss), compM t mt me vs ds acc st ≠ .err c s := fun ds => by
          induction ds with
          | nil => intro acc st c s z; cases z
          | cons d ds ih =>
            intro acc st c s z
            unfold compM at z
            cases e1 : t d st with
            | none => rw [e1] at z; cases z
            | some s0 =>
              rw [e1] at z
              cases e2 : mt s0 with
              | bad => simp only [e2] at z; cases z
              | err _ _ => simp only [e2] at z; cases z
              | ok b s1 =>
                cases b with
                | false => simp only [e2] at z; exact ih _ _ _ _ z
                | true =>
                  simp only [e2] at z
                  cases e3 : me s1 with
                  | bad => simp only [e3] at z; cases z
                  | err _ _ => simp only [e3] at z; cases z
                  | ok y s2 =>
                    simp only [e3] at z
                    split at z
                    · exact ih _ _ _ _ z
                    · cases z
        exact noerr _ _ _ _ _ ec
      | ok xs s => rw [ec] at h; exact h
    intro J H1 pv px hl R1 J1 D hD
    refine ⟨fun i n H => n = ds.length - i ∧ i ≤ ds.length ∧ ∃ (s0 : Ss) (acc : List AV), Rel K Γ (L2.wipe σ vs) H (s0.wipe vs) ((p.nob.shs pv px).own (.ref D) (.lst true acc)) ∧ (match compM t mt me vs (ds.drop i) acc (s0.wipe vs) with
      | .ok xs st' => ∀ v H', Rel K Γ σ H' st' (p.nob.own v (.lst true xs)) → Q v H'
      | _ => False), ⟨_, rfl, Nat.zero_le _, s1, [], ?_, h⟩, ?_⟩
    · obtain ⟨m, ar, am, ao, ab, R2⟩ := R1.wipe vs
      exact R2.newLst hD .nil
    rintro i n H ⟨rfl, hi, s0, acc, R2, h2⟩
    by_cases c : i < ds.length
    · rw [List.drop_eq_getElem_cons c] at h2
      unfold compM at h2
      cases et : t ds[i] (s0.wipe vs) with
      | none => rw [et] at h2; exact h2.elim
      | some s2 =>
        rw [et] at h2
        obtain ⟨go, yl⟩ := J1.1 i ds[i] (L2.wipe σ vs) H (s0.wipe vs) _ _ (by simp [c]) R2
        refine .inr ⟨go, fun H' => ∃ (s0 : Ss) (acc : List AV), Rel K Γ (L2.wipe σ vs) H' (s0.wipe vs) ((p.nob.shs pv px).own (.ref D) (.lst true acc)) ∧ (match compM t mt me vs (ds.drop (i + 1)) acc (s0.wipe vs) with
          | .ok xs st' => ∀ v H', Rel K Γ σ H' st' (p.nob.own v (.lst true xs)) → Q v H'
          | _ => False), fun H' ⟨s3, acc3, R3, h3⟩ => ⟨_, by omega, rfl, c, s3, acc3, R3, h3⟩, fun x H' y => ?_⟩
        refine ⟨_, _, ds[i], s2, yl x H' y, et, fun σ2 H2 w1 R3 => ⟨?_, s2, _, R3, ?_⟩⟩
        · have w2 := wipe_sub w1 hns
          have w3 : L2.wipe (L2.wipe σ vs) vs = L2.wipe σ vs := wipe_wipe
          exact w2.trans w3
        have back : ∀ {H : Hp} {st : Ss} {q : Pd}, Rel K Γ σ2 H st q → Rel K Γ (L2.wipe σ vs) H (st.wipe vs) q := fun z => by
          have z1 := z.wipe vs
          have w2 := wipe_sub w1 hns
          have w3 : L2.wipe (L2.wipe σ vs) vs = L2.wipe σ vs := wipe_wipe
          rw [w2.trans w3] at z1
          exact z1
        cases em : mt s2 with
        | bad => simp only [em] at h2
        | err _ _ => simp only [em] at h2
        | ok b s3 =>
          intro H3 R4
          cases b with
          | false =>
            simp only [em] at h2
            rw [if_neg Bool.false_ne_true]
            exact ⟨s3, acc, back R4, h2⟩
          | true =>
            simp only [em] at h2
            rw [if_pos rfl]
            refine ⟨s3, _, R4, ?_⟩
            cases ee : me s3 with
            | bad => simp only [ee] at h2
            | err _ _ => simp only [ee] at h2
            | ok d s4 =>
              simp only [ee] at h2
              intro y H4 R5
              obtain ⟨us, e1, e2, R6⟩ := Rel.appO (p := p.nob.shs pv px) R5
              by_cases cz : acc.length < 16777216
              · simp only [cz, if_true] at h2
                exact ⟨us, e1, by rw [e2, mx_eq]; exact cz, s4, acc ++ [d], back R6, h2⟩
              · simp only [cz, if_false] at h2
    · have e : i = ds.length := by omega
      subst e
      rw [List.drop_length] at h2
      refine .inl ⟨J1.2 _ H _ _ _ R2, ?_⟩
      have R3 := R2.unwipe
      exact h2 (.ref D) H (Rel.dropL (p := p.nob.own (.ref D) (.lst true acc)) hl R3)
theorem s_lcO {elt tg iter : Expr} {ifs : List Expr} {scope : Scope} {own : List (Str × Nat)} {mi : M (List AV)} {ns : List Nat} {t : Tg} {mt : M Bool} {me : M AV} (hc : X.calm = true) (hN : X.N.Nodup) (hi : PI X tg iter (rdI X.K Γ W mi)) (ok : BlkOk X.N X.env.scope scope own)
    (hg : ∀ (s : Shared) (H : Hp) (C : Addr) (cl : List (Str × Addr)) (fp : List Addr), PG (X.blk s H scope (compEnvC scope cl C X.env) fp) tg (rdG X.K Γ ns t)) (ht : ∀ (s : Shared) (H : Hp) (C : Addr) (cl : List (Str × Addr)) (fp : List Addr), PTs (X.blk s H scope (compEnvC scope cl C X.env) fp) ifs (rdT X.K Γ noX mt))
    (he : ∀ (s : Shared) (H : Hp) (C : Addr) (cl : List (Str × Addr)) (fp : List Addr), PE (X.blk s H scope (compEnvC scope cl C X.env) fp) elt (rdE X.K Γ noX me)) (hns : ∀ i ∈ ns, i ∈ own.map (·.2) := by decide) (hs : ∀ x, foldedSetIterable iter X.env x = pure x := by intro _; rfl) :
    PE X (.ListComp elt [⟨tg, iter, ifs, 0⟩] scope pos) (rdO X.K Γ W (eLc true (lcM mi t mt me (own.map (·.2))))) :=
  pe_imp (pe_lc hc hN hi ok hg ht he hs) fun σ H Q h => lc_in hns h
theorem frz_in {m : M (List AV)} {Q : VK} (h : rdE K Γ W (eLc false m) σ H Q) : rdO K Γ W (eLc true m) σ H Q := by
  obtain ⟨st, p, R, h⟩ := h
  refine ⟨st, p, R, ?_⟩
  unfold eLc at h ⊢
  cases ea : m st with
  | bad => rw [ea] at h; exact h
  | err c s1 => rw [ea] at h; exact h
  | ok xs s1 => rw [ea] at h; exact fun v H' R' => h v H' (R'.frzO rfl)
theorem s_lc {elt tg iter : Expr} {ifs : List Expr} {scope : Scope} {own : List (Str × Nat)} {mi : M (List AV)} {ns : List Nat} {t : Tg} {mt : M Bool} {me : M AV} (hc : X.calm = true) (hN : X.N.Nodup) (hi : PI X tg iter (rdI X.K Γ W mi)) (ok : BlkOk X.N X.env.scope scope own)
    (hg : ∀ (s : Shared) (H : Hp) (C : Addr) (cl : List (Str × Addr)) (fp : List Addr), PG (X.blk s H scope (compEnvC scope cl C X.env) fp) tg (rdG X.K Γ ns t)) (ht : ∀ (s : Shared) (H : Hp) (C : Addr) (cl : List (Str × Addr)) (fp : List Addr), PTs (X.blk s H scope (compEnvC scope cl C X.env) fp) ifs (rdT X.K Γ noX mt))
    (he : ∀ (s : Shared) (H : Hp) (C : Addr) (cl : List (Str × Addr)) (fp : List Addr), PE (X.blk s H scope (compEnvC scope cl C X.env) fp) elt (rdE X.K Γ noX me)) (hns : ∀ i ∈ ns, i ∈ own.map (·.2) := by decide) (hs : ∀ x, foldedSetIterable iter X.env x = pure x := by intro _; rfl) :
    PE X (.ListComp elt [⟨tg, iter, ifs, 0⟩] scope pos) (rdE X.K Γ W (eLc false (lcM mi t mt me (own.map (·.2))))) :=
  pe_imp (s_lcO hc hN hi ok hg ht he hns hs) fun σ H Q h => frz_in h
/-- name = [..] on one line -/
theorem s_asgLc {i : Nat} {y : Str} {py spos : Pos} {elt tg iter : Expr} {ifs : List Expr} {scope : Scope} {own : List (Str × Nat)} {mi : M (List AV)} {ns : List Nat} {t : Tg} {mt : M Bool} {me : M AV} (hc : X.calm = true) (hN : X.N.Nodup) (hy : X.N[i]? = some y) (hyl : X.env.scope.names.lookup y = some .local)
    (hsw : swapsWith (.ListComp elt [⟨tg, iter, ifs, 0⟩] scope pos) (some (.Name y py)) spos.line X.env = pure true) (hi : PI X tg iter (rdI X.K Γ W mi)) (ok : BlkOk X.N X.env.scope scope own)
    (hg : ∀ (s : Shared) (H : Hp) (C : Addr) (cl : List (Str × Addr)) (fp : List Addr), PG (X.blk s H scope (compEnvC scope cl C X.env) fp) tg (rdG X.K Γ ns t)) (ht : ∀ (s : Shared) (H : Hp) (C : Addr) (cl : List (Str × Addr)) (fp : List Addr), PTs (X.blk s H scope (compEnvC scope cl C X.env) fp) ifs (rdT X.K Γ noX mt))
    (he : ∀ (s : Shared) (H : Hp) (C : Addr) (cl : List (Str × Addr)) (fp : List Addr), PE (X.blk s H scope (compEnvC scope cl C X.env) fp) elt (rdE X.K Γ noX me)) (hns : ∀ i ∈ ns, i ∈ own.map (·.2) := by decide) (hs : ∀ x, foldedSetIterable iter X.env x = pure x := by intro _; rfl) :
    PS X (.Assign [.Name y py] (.ListComp elt [⟨tg, iter, ifs, 0⟩] scope pos) spos) (rdS X.K Γ W (sAsg i (eLc false (lcM mi t mt me (own.map (·.2)))))) := by
  refine ps_imp (ps_setLc hc hN hy hyl hsw hi ok hg ht he hs) fun D σ H h => ?_
  obtain ⟨st, p, R, hp, h⟩ := h
  refine lc_in hns (frz_in ⟨st, p, R, ?_⟩)
  unfold sAsg at h
  cases ea : eLc false (lcM mi t mt me (own.map (·.2))) st with
  | bad => rw [ea] at h; exact h
  | err c s1 => rw [ea] at h; exact fun H' R' => h σ H' (hp ▸ R')
  | ok d s1 =>
    rw [ea] at h
    simp only [Res.bind_ok] at h
    exact fun v H' R' => h _ H' (Rel.put (nob_sh hp ▸ R') i)
theorem takes_noX : L2N.Takes X noX := fun u s' x => by
  obtain ⟨_, _, _, _, _, _, _, _, _, _, _, _, _, _, _, _, w⟩ := x
  exact w.elim
end
end Fk
/-! ## built-ins, subscripts, what is looked at alone -/
namespace Fk
open PySem PySem.Spec PyProof.Rows L2
/-- from values (the objects told) a shared one -/
def OpA (K : PySem.W.Frag) (r : List V → Hp → VK → Prop) (f : List AV → List AV → Option AV) : Prop := ∀ (Γ : Gam) (σ : L2.St) (H : Hp) (st : Ss) (p : Pd) (m ar am ao ab : List Addr) (vs : List V) (xs : List AV) (as : List Addr) (d : AV) (Q : VK),
  Rl K Γ σ H st p m ar am ao ab → Rp K H (wOf Γ ar am ao) m vs xs as → f st.s xs = some d → (∀ v H', Rel K Γ σ H' st (p.nob.sh v d) → Q v H') → r vs H Q
/-- .. a new list -/
def OpL (K : PySem.W.Frag) (r : List V → Hp → VK → Prop) (f : List AV → List AV → Option (List AV)) : Prop := ∀ (Γ : Gam) (σ : L2.St) (H : Hp) (st : Ss) (p : Pd) (m ar am ao ab : List Addr) (vs : List V) (xs : List AV) (as : List Addr) (ys : List AV) (Q : VK),
  Rl K Γ σ H st p m ar am ao ab → Rp K H (wOf Γ ar am ao) m vs xs as → f st.s xs = some ys → (∀ q us, H q = none → Rp K H (wOf Γ ar am ao) m us ys [] → Q (.ref q) (upd H q (.lst us))) → r vs H Q
def eB (f : List AV → List AV → Option AV) (a : M (List AV)) : M AV := fun st => (a st).bind fun xs s1 => ofO (f s1.s xs) s1
def fL (o : Bool) (f : List AV → List AV → Option (List AV)) : List AV → List AV → Option AV := fun S xs => (f S xs).map (AV.lst o)
/-- arguments that are looked at alone -/
def rdAP (K : PySem.W.Frag) (Γ : Gam) (m : Ss → Option (List AV)) : TA := fun σ H Q => ∃ st p ds, Rel K Γ σ H st p ∧ m st = some ds ∧ ∀ vs, vs.length = ds.length → Rel K Γ σ H st { p with bv := vs ++ p.bv, bx := ds ++ p.bx } → Q vs H
def eBP (f : List AV → List AV → Option AV) (a : Ss → Option (List AV)) : M AV := fun st => match a st with
  | some xs => ofO (f st.s xs) st
  | none => .bad
def pNil : Ss → Option (List AV) := fun _ => some []
def pCons (a : Ss → Option AV) (r : Ss → Option (List AV)) : Ss → Option (List AV) := fun st => (a st).bind fun x => (r st).map (x :: ·)
def pVar (i : Nat) : Ss → Option AV := fun st => match getSl st.r i with
  | .im d => some d
  | .ow d => some d
  | .no => none
def pC (d : AV) : Ss → Option AV := fun _ => some d
def p2 (f : AV → AV → Option AV) (a b : Ss → Option AV) : Ss → Option AV := fun st => (a st).bind fun x => (b st).bind fun y => f x y
def imm : AV → Bool
  | .lst o _ => !o
  | .dct o _ _ => !o
  | .nst _ => false
  | .ndc _ _ => false
  | .ins _ _ _ => false
  | .set _ => false
  | _ => true
def eP (m : Ss → Option AV) : M AV := fun st => match m st with
  | some d => bif imm d then .ok d st else .bad
  | none => .bad
section
variable {X : Cx} {Γ : Gam} {W : WX} {σ : L2.St} {H : Hp} {st : Ss} {p : Pd} {K : PySem.W.Frag} {pos q : Pos} {e : Expr} {es : List Expr} {ma : M (List AV)} {mp : Ss → Option (List AV)}
theorem Rl.freshL {m ar am ao ab : List Addr} (R : Rl K Γ σ H st p m ar am ao ab) {q : Addr} {us : List V} {ys : List AV} (h : H q = none) (r : Rp K H (wOf Γ ar am ao) m us ys []) (o : Bool) : (o = false → Rel K Γ σ (upd H q (.lst us)) st (p.nob.sh (.ref q) (.lst o ys))) ∧ (o = true → Rel K Γ σ (upd H q (.lst us)) st (p.nob.own (.ref q) (.lst o ys))) :=
  ⟨fun e => by subst e; exact (R.nob.lst h r).rel, fun e => by subst e; exact R.nob.newLst h r⟩
theorem OpL.a {r : List V → Hp → VK → Prop} {f : List AV → List AV → Option (List AV)} (h : OpL K r f) : OpA K r (fL false f) := by
  intro Γ σ H st p m ar am ao ab vs xs as d Q R r1 e q
  obtain ⟨ys, ey, rfl⟩ := Option.map_eq_some_iff.mp e
  exact h Γ σ H st p m ar am ao ab vs xs as ys Q R r1 ey fun a us ha ru => q _ _ ((R.freshL ha ru false).1 rfl)
theorem callB_in {r : List V → Hp → VK → Prop} {f : List AV → List AV → Option AV} {Q : VK} (ho : OpA K r f) (h : rdE K Γ W (eB f ma) σ H Q) : rdA K Γ W ma σ H fun vs H1 => r vs H1 Q := by
  obtain ⟨st, p, R, h⟩ := h
  refine ⟨st, p, R, ?_⟩
  unfold eB at h
  cases ea : ma st with
  | bad => rw [ea] at h; exact h
  | err c s1 => rw [ea] at h; exact h
  | ok xs s1 =>
    rw [ea] at h
    simp only [Res.bind_ok] at h
    intro vs H1 hl R1
    obtain ⟨m, ar, am, ao, ab, R2, r1⟩ := Rel.args (p := p.nob) hl R1
    cases ef : f s1.s xs with
    | none => simp only [ef, ofO_none] at h
    | some d =>
      simp only [ef, ofO_some] at h
      exact ho Γ σ H1 s1 _ m ar am ao ab vs xs _ d Q R2 r1 ef h
theorem callBP_in {r : List V → Hp → VK → Prop} {f : List AV → List AV → Option AV} {Q : VK} (ho : OpA K r f) (h : rdE K Γ W (eBP f mp) σ H Q) : rdAP K Γ mp σ H fun vs H1 => r vs H1 Q := by
  obtain ⟨st, p, R, h⟩ := h
  unfold eBP at h
  cases ea : mp st with
  | none => simp only [ea] at h
  | some xs =>
    simp only [ea] at h
    cases ef : f st.s xs with
    | none => simp only [ef, ofO_none] at h
    | some d =>
      simp only [ef, ofO_some] at h
      refine ⟨st, p, xs, R, ea, fun vs hl R1 => ?_⟩
      obtain ⟨m, ar, am, ao, ab, R1⟩ := R1
      obtain ⟨a1, a2, _, r1, r2⟩ := Rp.app_inv hl R1.rb
      exact ho Γ σ H st p m ar am ao a2 vs xs _ d Q (R1.setB (p := { p with bv := vs ++ p.bv, bx := xs ++ p.bx }) r2) r1 ef h
theorem callOP_in {r : List V → Hp → VK → Prop} {f : List AV → List AV → Option (List AV)} {Q : VK} (ho : OpL K r f) (h : rdO K Γ W (eBP (fL true f) mp) σ H Q) : rdAP K Γ mp σ H fun vs H1 => r vs H1 Q := by
  obtain ⟨st, p, R, h⟩ := h
  unfold eBP at h
  cases ea : mp st with
  | none => simp only [ea] at h
  | some xs =>
    simp only [ea, fL] at h
    cases ef : f st.s xs with
    | none => simp only [ef, Option.map_none, ofO_none] at h
    | some ys =>
      simp only [ef, Option.map_some, ofO_some] at h
      refine ⟨st, p, xs, R, ea, fun vs hl R1 => ?_⟩
      obtain ⟨m, ar, am, ao, ab, R1⟩ := R1
      obtain ⟨a1, a2, _, r1, r2⟩ := Rp.app_inv hl R1.rb
      have R2 := R1.setB (p := { p with bv := vs ++ p.bv, bx := xs ++ p.bx }) r2
      exact ho Γ σ H st p m ar am ao a2 vs xs _ ys Q R2 r1 ef fun a us ha ru => h _ _ ((R2.freshL ha ru true).2 rfl)
/-! calls by name -/
variable {id : String} {x : Str} {r : List V → Hp → VK → Prop} {f : List AV → List AV → Option AV} {fl : List AV → List AV → Option (List AV)} {T : String}
theorem s_cb (hc : CallR X (.builtin id) r) (ho : OpA X.K r f) (hg : Gl X x) (hm : X.mg x = none) (hv : bootBuiltins x = some (.builtin id)) (ha : PA X (e :: es) (rdA X.K Γ W ma)) (hn : x ≠ "__name__" := by decide) (hdb : (x == ("__debug__" : Str)) = false := by decide)
    (he : starEach (e :: es) X.env = (false, eval e X.env) :: starEach es X.env := by rfl) (hpl : (backTo pos (starEach es X.env)).any (·.1) = false := by rfl) : PE X (.Call (.Name x q) (e :: es) [] pos) (rdE X.K Γ W (eB f ma)) :=
  pe_imp (pe_callB hc hg hm hv ha hn hdb he hpl) fun σ H Q h => callB_in ho h
theorem s_cbP (hc : CallR X (.builtin id) r) (ho : OpA X.K r f) (hg : Gl X x) (hm : X.mg x = none) (hv : bootBuiltins x = some (.builtin id)) (ha : PA X (e :: es) (rdAP X.K Γ mp)) (hn : x ≠ "__name__" := by decide) (hdb : (x == ("__debug__" : Str)) = false := by decide)
    (he : starEach (e :: es) X.env = (false, eval e X.env) :: starEach es X.env := by rfl) (hpl : (backTo pos (starEach es X.env)).any (·.1) = false := by rfl) : PE X (.Call (.Name x q) (e :: es) [] pos) (rdE X.K Γ W (eBP f mp)) :=
  pe_imp (pe_callB hc hg hm hv ha hn hdb he hpl) fun σ H Q h => callBP_in ho h
theorem s_cbOP (hc : CallR X (.builtin id) r) (ho : OpL X.K r fl) (hg : Gl X x) (hm : X.mg x = none) (hv : bootBuiltins x = some (.builtin id)) (ha : PA X (e :: es) (rdAP X.K Γ mp)) (hn : x ≠ "__name__" := by decide) (hdb : (x == ("__debug__" : Str)) = false := by decide)
    (he : starEach (e :: es) X.env = (false, eval e X.env) :: starEach es X.env := by rfl) (hpl : (backTo pos (starEach es X.env)).any (·.1) = false := by rfl) : PE X (.Call (.Name x q) (e :: es) [] pos) (rdO X.K Γ W (eBP (fL true fl) mp)) :=
  pe_imp (pe_callB hc hg hm hv ha hn hdb he hpl) fun σ H Q h => callOP_in ho h
theorem s_ct (hc : CallR X (.type T) r) (ho : OpA X.K r f) (hg : Gl X x) (hm : X.mg x = none) (hv : bootBuiltins x = some (.type T)) (ha : PA X (e :: es) (rdA X.K Γ W ma)) (hn : x ≠ "__name__" := by decide) (hdb : (x == ("__debug__" : Str)) = false := by decide)
    (he : starEach (e :: es) X.env = (false, eval e X.env) :: starEach es X.env := by rfl) (hpl : (backTo pos (starEach es X.env)).any (·.1) = false := by rfl) : PE X (.Call (.Name x q) (e :: es) [] pos) (rdE X.K Γ W (eB f ma)) :=
  pe_imp (pe_callTy hc hg hm hv ha hn hdb he hpl) fun σ H Q h => callB_in ho h
theorem s_ctOP (hc : CallR X (.type T) r) (ho : OpL X.K r fl) (hg : Gl X x) (hm : X.mg x = none) (hv : bootBuiltins x = some (.type T)) (ha : PA X (e :: es) (rdAP X.K Γ mp)) (hn : x ≠ "__name__" := by decide) (hdb : (x == ("__debug__" : Str)) = false := by decide)
    (he : starEach (e :: es) X.env = (false, eval e X.env) :: starEach es X.env := by rfl) (hpl : (backTo pos (starEach es X.env)).any (·.1) = false := by rfl) : PE X (.Call (.Name x q) (e :: es) [] pos) (rdO X.K Γ W (eBP (fL true fl) mp)) :=
  pe_imp (pe_callTy hc hg hm hv ha hn hdb he hpl) fun σ H Q h => callOP_in ho h
/-! looked at alone -/
theorem Rel.lkC {v : V} {d : AV} (R : Rel K Γ σ H st p) (h : ∀ W m, Rp K H W m [v] [d] []) : Rel K Γ σ H st (p.lk v d) := by
  obtain ⟨m, ar, am, ao, ab, R⟩ := R
  exact ⟨m, ar, am, ao, ab, R.setB ((h _ _).cons0 R.rb)⟩
theorem q_var {i : Nat} (hN : X.N[i]? = some x) (hv : Vis X.env.scope x) (hd : (x == ("__debug__" : Str)) = false := by decide) (hcd : (x == ("__classdict__" : Str)) = false := by decide) : PE X (.Name x pos) (rdP X.K Γ (pVar i)) := by
  refine pe_imp (pe_var hN hv hd hcd) fun σ H Q h => ?_
  obtain ⟨st, p, d, R, e, h⟩ := h
  obtain ⟨m, ar, am, ao, ab, R⟩ := R
  unfold pVar at e
  cases eg : getSl st.r i with
  | no => rw [eg] at e; cases e
  | im d' =>
    rw [eg] at e
    cases e
    obtain ⟨v, ev, rv⟩ := R.rs.getIm eg
    exact ⟨v, ev, h v ⟨m, ar, am, ao, ab, R.setB (rv.cons0 R.rb)⟩⟩
  | ow d' =>
    rw [eg] at e
    cases e
    obtain ⟨v, a1, b, a2, ev, _, rv, _⟩ := R.rs.getOw eg
    exact ⟨v, ev, h v ⟨m, ar, am, ao, b ++ ab, R.setB (rv.cons R.rb)⟩⟩
theorem q_int {i : Int} {j : Nat} : PE X (.Constant (.int i) j pos) (rdP X.K Γ (pC (.int i))) := by
  refine pe_imp pe_int fun σ H Q h => ?_
  obtain ⟨st, p, d, R, e, h⟩ := h
  cases e
  exact h _ (R.lkC fun _ _ => .int .nil)
theorem q_str {i : Str} {j : Nat} : PE X (.Constant (.str i) j pos) (rdP X.K Γ (pC (.str i))) := by
  refine pe_imp pe_str fun σ H Q h => ?_
  obtain ⟨st, p, d, R, e, h⟩ := h
  cases e
  exact h _ (R.lkC fun _ _ => .str .nil)
theorem imm_nil {v : V} {d : AV} {W m as : List Addr} (r : Rp K H W m [v] [d] as) (h : imm d = true) : as = [] := by
  cases r with
  | ded r => exact r.nil_inv.2
  | non r => exact r.nil_inv.2
  | bl r => exact r.nil_inv.2
  | int r => exact r.nil_inv.2
  | str r => exact r.nil_inv.2
  | tup _ _ r => exact r.nil_inv.2
  | lsI _ _ _ r => exact r.nil_inv.2
  | lsO _ _ r => cases h
  | dcI _ _ _ _ r => exact r.nil_inv.2
  | dcO _ _ _ r => cases h
  | scr _ _ r => exact r.nil_inv.2
  | nst _ _ r => cases h
  | ndc _ _ _ r => cases h
  | ins _ _ _ r => cases h
  | set _ _ _ => cases h
  | tud _ _ _ r => exact r.nil_inv.2
  | loc _ r => exact r.nil_inv.2
theorem s_ofP {m : Ss → Option AV} (h : PE X e (rdP X.K Γ m)) : PE X e (rdE X.K Γ W (eP m)) := by
  refine pe_imp h fun σ H Q h => ?_
  obtain ⟨st, p, R, h⟩ := h
  unfold eP at h
  cases em : m st with
  | none => simp only [em] at h
  | some d =>
    simp only [em] at h
    refine ⟨st, p, d, R, em, fun v R1 => ?_⟩
    cases ei : imm d with
    | false => simp only [ei, cond_false] at h
    | true =>
      simp only [ei, cond_true] at h
      obtain ⟨m, ar, am, ao, ab, R1⟩ := R1
      obtain ⟨a1, a2, _, r1, r2⟩ := R1.rb.head
      rw [imm_nil r1 ei] at r1
      exact h v H ⟨m, ar, am, ao, [], (R1.setB (p := p.lk v d) .nil).setI (r1.cons0 R1.ri)⟩
theorem q_nil : PA X [] (rdAP X.K Γ pNil) := by
  refine pa_imp pa_nil fun σ H Q h => ?_
  obtain ⟨st, p, ds, R, e, h⟩ := h
  cases e
  exact h [] rfl R
theorem q_cons {m : Ss → Option AV} {mr : Ss → Option (List AV)} (ha : PE X e (rdP X.K Γ m)) (hr : PA X es (rdAP X.K Γ mr)) (hs : starEach (e :: es) X.env = (false, eval e X.env) :: starEach es X.env := by rfl) : PA X (e :: es) (rdAP X.K Γ (pCons m mr)) := by
  refine pa_imp (pa_cons ha hr hs) fun σ H Q h => ?_
  obtain ⟨st, p, ds, R, e, h⟩ := h
  unfold pCons at e
  cases em : m st with
  | none => rw [em] at e; cases e
  | some d =>
    rw [em] at e
    obtain ⟨xs, er, rfl⟩ := Option.map_eq_some_iff.mp e
    refine ⟨st, p, d, R, em, fun v R1 => ⟨st, _, xs, R1, er, fun vs hl R2 => h (v :: vs) (by simp [hl]) ?_⟩⟩
    obtain ⟨m, ar, am, ao, ab, R2⟩ := R2
    obtain ⟨a1, a2, _, r1, r2⟩ := Rp.app_inv hl R2.rb
    obtain ⟨b1, b2, _, r3, r4⟩ := r2.head
    exact ⟨m, ar, am, ao, _, R2.setB (p := { p.lk v d with bv := vs ++ v :: p.bv, bx := xs ++ d :: p.bx }) (r3.cons (r1.app r4))⟩
/-- two that are looked at, an operator -/
theorem p2_in {r : R2} {f : AV → AV → Option AV} {a b : Ss → Option AV} {Q : VK} (ho : Op2 K r f) (h : rdE K Γ W (fun st => match p2 f a b st with | some d => .ok d st | none => .bad) σ H Q) : tOp r (rdP K Γ a) (rdP K Γ b) σ H Q := by
  obtain ⟨st, p, R, h⟩ := h
  unfold p2 at h
  cases ea : a st with
  | none => simp only [ea, Option.bind_none] at h
  | some x =>
    cases eb : b st with
    | none => simp only [ea, eb, Option.bind_some, Option.bind_none] at h
    | some y =>
      simp only [ea, eb, Option.bind_some] at h
      cases ef : f x y with
      | none => simp only [ef] at h
      | some d =>
        simp only [ef] at h
        refine ⟨st, p, x, R, ea, fun v1 R1 => ⟨st, _, y, R1, eb, fun v2 R2 => ?_⟩⟩
        obtain ⟨m, ar, am, ao, ab, R2⟩ := R2
        obtain ⟨c1, c2, _, r1, r2⟩ := R2.rb.head
        obtain ⟨c3, c4, _, r3, r4⟩ := r2.head
        exact ho Γ σ H st p m ar am ao _ v1 v2 x y d _ _ Q (R2.setB (p := (p.lk v1 x).lk v2 y) r4) r3 r1 ef h
def e2P (f : AV → AV → Option AV) (a b : Ss → Option AV) : M AV := fun st => match p2 f a b st with
  | some d => .ok d st
  | none => .bad
theorem s_cmpP {a b : Expr} {op : CmpOp} {r : R2} {f : AV → AV → Option AV} {ma mb : Ss → Option AV} (hr : OpR X (compareOp op) r) (ho : Op2 X.K r f) (ha : PE X a (rdP X.K Γ ma)) (hb : PE X b (rdP X.K Γ mb)) (hm : behindInMarks op b = false) : PE X (.Compare a [op] [b] pos) (rdE X.K Γ W (e2P f ma mb)) :=
  pe_imp (pe_cmpR hr ha hb hm) fun σ H Q h => p2_in ho h
theorem s_tcmpP {a b : Expr} {op : CmpOp} {r : R2} {f : AV → AV → Option AV} {ma mb : Ss → Option AV} (hr : OpR X (compareOp op) r) (ho : Op2 X.K r f) (ha : PE X a (rdP X.K Γ ma)) (hb : PE X b (rdP X.K Γ mb)) (hm : behindInMarks op b = false) : PT X (.Compare a [op] [b] pos) (rdT X.K Γ W (tOf (e2P f ma mb))) := by
  refine pt_imp (pt_cmpR hr ha hb hm) fun σ H Q h => ?_
  obtain ⟨st, p, R, h⟩ := tOf_in h
  exact p2_in ho ⟨st, p, R, h⟩
end
end Fk
/-! ## what the built-ins are worth -/
namespace Fk
open PySem PySem.Spec PyProof.Rows L2
theorem CallR.or {X : Cx} {f : Value} {r r' : List V → Hp → VK → Prop} (h : CallR X f r) (h' : CallR X f r') : CallR X f (fun xs H Q => r xs H Q ∨ r' xs H Q) := by
  intro pins s σ H xs us Q I rv q
  rcases q with q | q
  · exact h pins s σ H xs us Q I rv q
  · exact h' pins s σ H xs us Q I rv q
/-- an object looked up -/
def deref (S : List AV) : AV → Option AV
  | .loc l => S[l]?
  | x => some x
def lenA : AV → Option Nat
  | .lst _ xs => some xs.length
  | .tup xs => some xs.length
  | .scr xs => some xs.length
  | .nst xs => some xs.length
  | .str z => if z.length ≤ 16777216 then some z.length else none
  | .dct _ ks _ => some ks.length
  | .ndc ks _ => some ks.length
  | _ => none
def fLen (S : List AV) : List AV → Option AV
  | [x] => ((deref S x).bind lenA).map fun n => .int (n : Nat)
  | _ => none
def fMax2 (_ : List AV) : List AV → Option AV
  | [.int i, .int j] => some (.int (if j > i then j else i))
  | _ => none
def fMin2 (_ : List AV) : List AV → Option AV
  | [.int i, .int j] => some (.int (if j < i then j else i))
  | _ => none
def asBs : List AV → Option (List Bool)
  | [] => some []
  | .bl b :: xs => (asBs xs).map (b :: ·)
  | _ :: _ => none
def asIs : List AV → Option (List Int)
  | [] => some []
  | .int b :: xs => (asIs xs).map (b :: ·)
  | _ :: _ => none
def lsOf : AV → Option (List AV)
  | .lst _ xs => some xs
  | _ => none
def fAll (_ : List AV) : List AV → Option AV
  | [x] => ((lsOf x).bind asBs).map fun bs => .bl (bs.all id)
  | _ => none
def fTup (S : List AV) : List AV → Option AV
  | [.lst _ xs] => some (.tup xs)
  | [.tup xs] => some (.tup xs)
  | [.loc l] => (match S[l]? with
    | some (.lst _ xs) => some (.tup xs)
    | _ => none)
  | _ => none
def fList (_ : List AV) : List AV → Option (List AV)
  | [.lst _ xs] => some xs
  | [.tup xs] => some xs
  | [.scr xs] => some xs
  | _ => none
/-- ints in order -/
def insI (x : Int) : List Int → List Int
  | [] => [x]
  | y :: ys => if x ≤ y then x :: y :: ys else y :: insI x ys
def srtI : List Int → List Int
  | [] => []
  | x :: xs => insI x (srtI xs)
def keysI : List Key → Option (List Int)
  | [] => some []
  | .inl i :: ks => (keysI ks).map (i :: ·)
  | .inr _ :: _ => none
def fSrt (_ : List AV) : List AV → Option (List AV)
  | [.lst _ xs] => (asIs xs).map fun ns => (srtI ns).map .int
  | [.dct _ ks _] => (keysI ks).bind fun ns => if ns.length < 64 then some ((srtI ns).map .int) else none
  | _ => none
def isMt : AV → Bool
  | .dct _ ks xs => ks.isEmpty && xs.isEmpty
  | _ => false
/-- {k: v} of ints -/
def isD1 : AV → Option (Int × Int)
  | .dct _ [.inl k] [.int v] => some (k, v)
  | _ => none
def rpD1 (p : Int × Int) : PyData := .dict [(.int p.1, .int p.2)]
def fRepr (_ : List AV) : List AV → Option AV
  | [x] => if isMt x then some (.str "{}") else if pl x && (dat x).showable && decide ((dat x).depth ≤ 60) && !(dat x).hasDict && decide ((dat x).shown.length ≤ 16777216) then some (.str (dat x).shown) else (isD1 x).bind fun p => if (rpD1 p).showable && decide ((rpD1 p).shown.length ≤ 16777216) then some (.str (rpD1 p).shown) else none
  | _ => none
def isT (n : String) : AV → Bool
  | .bl _ => n == "bool" || n == "int"
  | .int _ => n == "int"
  | .str _ => n == "str"
  | .tup _ => n == "tuple"
  | .lst _ _ => n == "list"
  | .dct _ _ _ => n == "dict"
  | _ => false
def okT : AV → Bool
  | .non => true
  | .bl _ => true
  | .int _ => true
  | .str _ => true
  | .tup _ => true
  | .lst _ _ => true
  | .dct _ _ _ => true
  | _ => false
def eIsi (n : String) (m : M AV) : M AV := fun st => (m st).bind fun x s1 => bif okT x then .ok (.bl (isT n x)) s1 else .bad
section
variable {K : PySem.W.Frag} {H : Hp} {W m as : List Addr} {v : V} {vs : List V} {xs : List AV} {x : AV} {Γ : Gam} {σ : L2.St} {st : Ss} {p : Pd} {ar am ao ab : List Addr}
theorem Rp.one (r : Rp K H W m vs [x] as) : ∃ v, vs = [v] ∧ Rp K H W m [v] [x] as := by
  cases vs with
  | nil => cases r.nil_inv'.1
  | cons v vs =>
    obtain ⟨a1, a2, e, r1, r2⟩ := r.head
    obtain ⟨rfl, rfl⟩ := r2.nil_inv
    rw [List.append_nil] at e
    subst e
    exact ⟨v, rfl, r1⟩
theorem Rp.twoL {y : AV} (r : Rp K H W m vs [x, y] as) : ∃ v w' a1 a2, vs = [v, w'] ∧ Rp K H W m [v] [x] a1 ∧ Rp K H W m [w'] [y] a2 := by
  cases vs with
  | nil => cases r.nil_inv'.1
  | cons v vs =>
    obtain ⟨a1, a2, e, r1, r2⟩ := r.head
    obtain ⟨w', rfl, r3⟩ := r2.one
    exact ⟨v, w', a1, a2, rfl, r1, r3⟩
theorem Rl.deref (R : Rl K Γ σ H st p m ar am ao ab) {z : AV} (r : Rp K H (wOf Γ ar am ao) m [v] [x] as) (e : Fk.deref st.s x = some z) : ∃ as', Rp K H (wOf Γ ar am ao) m [v] [z] as' := by
  cases x with
  | loc l =>
    obtain ⟨a, rfl, hm⟩ := r.loc_i
    obtain ⟨v', a1, b, a2, e1, e2, _, r2, _⟩ := R.rm.at_ e
    rw [List.getElem?_map, hm] at e1
    cases e1
    exact ⟨b, r2⟩
  | _ =>
    cases e
    exact ⟨as, r⟩
/-- what stands behind a list's, a tuple's .. value -/
theorem Rp.sq {n : Nat} (r : Rp K H W m [v] [x] as) (e : lenA x = some n) : LenV K v H n ∨ ∃ a kvs, v = .ref a ∧ H a = some (.dK kvs) ∧ n = kvs.length := by
  cases r with
  | @str z _ _ _ _ =>
    have e2 : (if z.length ≤ 16777216 then some z.length else none) = some n := e
    by_cases c : z.length ≤ 16777216
    · rw [if_pos c] at e2
      cases e2
      exact .inl ⟨by rw [mx_eq]; exact c, rfl⟩
    · rw [if_neg c] at e2
      cases e2
  | tup h q _ => cases e; exact .inl (.inr ⟨_, h, q.len.symm⟩)
  | lsI h _ q _ => cases e; exact .inl (.inl ⟨_, SqL.of h, q.len.symm⟩)
  | lsO h q _ => cases e; exact .inl (.inl ⟨_, SqL.of h, q.len.symm⟩)
  | nst h q _ => cases e; exact .inl (.inl ⟨_, SqL.of h, q.len.symm⟩)
  | scr h q _ => cases e; exact .inl (.inl ⟨_, h.sq, q.len.symm⟩)
  | dcI h _ ek q _ => cases e; exact .inr ⟨_, _, rfl, h, by rw [← ek]; simp⟩
  | dcO h ek q _ => cases e; exact .inr ⟨_, _, rfl, h, by rw [← ek]; simp⟩
  | ndc h ek q _ => cases e; exact .inr ⟨_, _, rfl, h, by rw [← ek]; simp⟩
  | _ => cases e
def uLen (K : PySem.W.Frag) : List V → Hp → VK → Prop := fun xs H Q => (∃ x n, xs = [x] ∧ LenV K x H n ∧ Q (.int n) H) ∨ ∃ d kvs, xs = [.ref d] ∧ H d = some (.dK kvs) ∧ Q (.int kvs.length) H
theorem o_len : OpA K (uLen K) fLen := by
  intro Γ σ H st p m ar am ao ab vs xs as d Q R r e h
  unfold fLen at e
  split at e
  · obtain ⟨v, rfl, r1⟩ := r.one
    obtain ⟨n, en, rfl⟩ := Option.map_eq_some_iff.mp e
    obtain ⟨z, ez, el⟩ := Option.bind_eq_some_iff.mp en
    obtain ⟨as', r2⟩ := R.deref r1 ez
    rcases r2.sq el with q | ⟨a, kvs, rfl, q1, rfl⟩
    · exact .inl ⟨v, n, rfl, q, h _ _ (R.nob.rel.int _)⟩
    · exact .inr ⟨a, kvs, rfl, q1, h _ _ (R.nob.rel.int _)⟩
  · cases e
theorem o_max2 : OpA K uMax2 fMax2 := by
  intro Γ σ H st p m ar am ao ab vs xs as d Q R r e h
  unfold fMax2 at e
  split at e
  · cases e
    obtain ⟨v, w', a1, a2, rfl, r1, r2⟩ := r.twoL
    obtain rfl := r1.int_i
    obtain rfl := r2.int_i
    exact ⟨_, _, rfl, h _ _ (R.nob.rel.int _)⟩
  · cases e
theorem o_min2 : OpA K uMin2 fMin2 := by
  intro Γ σ H st p m ar am ao ab vs xs as d Q R r e h
  unfold fMin2 at e
  split at e
  · cases e
    obtain ⟨v, w', a1, a2, rfl, r1, r2⟩ := r.twoL
    obtain rfl := r1.int_i
    obtain rfl := r2.int_i
    exact ⟨_, _, rfl, h _ _ (R.nob.rel.int _)⟩
  · cases e
theorem asBs_v : ∀ {xs : List AV} {bs : List Bool} {us : List V} {as : List Addr}, Rp K H W m us xs as → asBs xs = some bs → us = bs.map V.bl
  | [], bs, us, as, r, e => by cases e; exact r.nil_inv.1
  | x :: xs, bs, us, as, r, e => by
    cases x with
    | bl b =>
      obtain ⟨cs, ec, rfl⟩ := Option.map_eq_some_iff.mp (show (asBs xs).map (b :: ·) = some bs from e)
      cases us with
      | nil => cases r.nil_inv'.1
      | cons u us =>
        obtain ⟨a1, a2, _, r1, r2⟩ := r.head
        rw [r1.bl_i, asBs_v r2 ec]
        rfl
    | _ => cases e
theorem asIs_v : ∀ {xs : List AV} {bs : List Int} {us : List V} {as : List Addr}, Rp K H W m us xs as → asIs xs = some bs → us = bs.map V.int
  | [], bs, us, as, r, e => by cases e; exact r.nil_inv.1
  | x :: xs, bs, us, as, r, e => by
    cases x with
    | int b =>
      obtain ⟨cs, ec, rfl⟩ := Option.map_eq_some_iff.mp (show (asIs xs).map (b :: ·) = some bs from e)
      cases us with
      | nil => cases r.nil_inv'.1
      | cons u us =>
        obtain ⟨a1, a2, _, r1, r2⟩ := r.head
        rw [r1.int_i, asIs_v r2 ec]
        rfl
    | _ => cases e
theorem lsOf_v {ys : List AV} (r : Rp K H W m [v] [x] as) (e : lsOf x = some ys) : ∃ a us, v = .ref a ∧ H a = some (.lst us) ∧ Rp K H W m us ys [] := by
  cases x with
  | lst o xs => cases e; exact r.lst_i
  | _ => cases e
theorem o_all : OpA K (rAll K) fAll := by
  intro Γ σ H st p m ar am ao ab vs xs as d Q R r e h
  unfold fAll at e
  split at e
  · obtain ⟨v, rfl, r1⟩ := r.one
    obtain ⟨bs, en, rfl⟩ := Option.map_eq_some_iff.mp e
    obtain ⟨z, ez, el⟩ := Option.bind_eq_some_iff.mp en
    obtain ⟨a, us, rfl, hs, q⟩ := lsOf_v r1 ez
    have eu := asBs_v q el
    subst eu
    exact ⟨a, bs, rfl, SqL.of hs, h _ _ (R.nob.rel.bl _)⟩
  · cases e
theorem o_tuple : OpA K (uTuple K) fTup := by
  intro Γ σ H st p m ar am ao ab vs xs as d Q R r e h
  unfold fTup at e
  split at e
  · cases e
    obtain ⟨v, rfl, r1⟩ := r.one
    obtain ⟨a, us, rfl, hs, q⟩ := r1.lst_i
    exact ⟨a, us, rfl, .inl ⟨SqL.of hs, fun l hl => h _ _ (R.nob.tup hl q).rel⟩⟩
  · cases e
    obtain ⟨v, rfl, r1⟩ := r.one
    obtain ⟨a, us, rfl, hs, q⟩ := r1.tup_i
    exact ⟨a, us, rfl, .inr ⟨hs, h _ _ (R.nob.sh (.tup hs q .nil))⟩⟩
  · rename_i l
    obtain ⟨v, rfl, r1⟩ := r.one
    split at e
    · rename_i o ys ez
      cases e
      obtain ⟨as', r2⟩ := R.deref r1 (z := .lst o ys) ez
      obtain ⟨a, us, rfl, hs, q⟩ := r2.lst_i
      exact ⟨a, us, rfl, .inl ⟨SqL.of hs, fun l hl => h _ _ (R.nob.tup hl q).rel⟩⟩
    · cases e
  · cases e
theorem o_list : OpL K (uList K) fList := by
  intro Γ σ H st p m ar am ao ab vs xs as ys Q R r e h
  unfold fList at e
  split at e
  · cases e
    obtain ⟨v, rfl, r1⟩ := r.one
    obtain ⟨a, us, rfl, hs, q⟩ := r1.lst_i
    exact ⟨a, us, rfl, .inl (SqL.of hs), fun l hl => h l us hl q⟩
  · cases e
    obtain ⟨v, rfl, r1⟩ := r.one
    obtain ⟨a, us, rfl, hs, q⟩ := r1.tup_i
    exact ⟨a, us, rfl, .inr hs, fun l hl => h l us hl q⟩
  · cases e
    obtain ⟨v, rfl, r1⟩ := r.one
    obtain ⟨a, us, rfl, hs, q⟩ := r1.scr_i
    exact ⟨a, us, rfl, .inl hs.sq, fun l hl => h l us hl q⟩
  · cases e
theorem insI_perm (x : Int) : ∀ ys : List Int, (insI x ys).Perm (x :: ys)
  | [] => List.Perm.refl _
  | y :: ys => by
    unfold insI
    split
    · exact List.Perm.refl _
    · exact (List.Perm.cons y (insI_perm x ys)).trans (List.Perm.swap x y ys)
theorem srtI_perm : ∀ xs : List Int, (srtI xs).Perm xs
  | [] => List.Perm.refl _
  | x :: xs => (insI_perm x (srtI xs)).trans (List.Perm.cons x (srtI_perm xs))
theorem insI_srt (x : Int) : ∀ {ys : List Int}, ys.Pairwise (· ≤ ·) → (insI x ys).Pairwise (· ≤ ·)
  | [], _ => by simp [insI]
  | y :: ys, h => by
    unfold insI
    obtain ⟨h1, h2⟩ := List.pairwise_cons.mp h
    split
    · rename_i c
      refine List.pairwise_cons.mpr ⟨fun z hz => ?_, h⟩
      rcases List.mem_cons.mp hz with e | hz
      · omega
      · have := h1 z hz
        omega
    · rename_i c
      refine List.pairwise_cons.mpr ⟨fun z hz => ?_, insI_srt x h2⟩
      rcases List.mem_cons.mp ((insI_perm x ys).mem_iff.mp hz) with e | hz
      · omega
      · exact h1 z hz
theorem srtI_srt : ∀ xs : List Int, (srtI xs).Pairwise (· ≤ ·)
  | [] => List.Pairwise.nil
  | x :: xs => insI_srt x (srtI_srt xs)
theorem srt_uniq : ∀ {xs ys : List Int}, xs.Perm ys → xs.Pairwise (· ≤ ·) → ys.Pairwise (· ≤ ·) → xs = ys := fun p h1 h2 =>
  List.Perm.eq_of_pairwise (le := (· ≤ ·)) (fun a b _ _ h h' => by omega) h1 h2 p
theorem rp_ints : ∀ ns : List Int, Rp K H W m (ns.map V.int) (ns.map AV.int) []
  | [] => .nil
  | n :: ns => .int (rp_ints ns)
theorem keysI_v : ∀ {ks : List Key} {ns : List Int}, keysI ks = some ns → ks = ns.map Sum.inl
  | [], ns, e => by cases e; rfl
  | .inl i :: ks, ns, e => by
    obtain ⟨cs, ec, rfl⟩ := Option.map_eq_some_iff.mp (show (keysI ks).map (i :: ·) = some ns from e)
    rw [keysI_v ec]
    rfl
  | .inr _ :: _, ns, e => by cases e
def uSrt (K : PySem.W.Frag) : List V → Hp → VK → Prop := fun vs H Q => rSortedI K vs H Q ∨ ∃ (a : Addr) (kvs : List (Key × V)) (ks : List Int), vs = [.ref a] ∧ Rd H a (.dK kvs) ∧ kvs.map (·.1) = ks.map Sum.inl ∧ ks.length < 64 ∧
    ∀ (ys : List Int) (p : Addr), ys.Perm ks → ys.Pairwise (· ≤ ·) → H p = none → Q (.ref p) (upd H p (.lst (ys.map V.int)))
theorem c_srt {X : Cx} (hc : X.calm = true) : CallR X (.builtin "sorted") (uSrt X.K) := CallR.or cr_sortedI (call_sortedDI hc)
theorem o_srt : OpL K (uSrt K) fSrt := by
  intro Γ σ H st p m ar am ao ab vs xs as ys Q R r e h
  unfold fSrt at e
  split at e
  · obtain ⟨v, rfl, r1⟩ := r.one
    obtain ⟨ns, en, rfl⟩ := Option.map_eq_some_iff.mp e
    obtain ⟨a, us, rfl, hs, q⟩ := r1.lst_i
    have eu := asIs_v q en
    subst eu
    refine .inl ⟨a, ns, rfl, SqL.of hs, fun ns' q p1 p2 hq => ?_⟩
    have e1 : ns' = srtI ns := srt_uniq (p1.trans (srtI_perm ns).symm) p2 (srtI_srt ns)
    subst e1
    exact h q _ hq (rp_ints _)
  · obtain ⟨v, rfl, r1⟩ := r.one
    obtain ⟨ns, en, e2⟩ := Option.bind_eq_some_iff.mp e
    split at e2
    · cases e2
      obtain ⟨a, kvs, rfl, hs, ek, q⟩ := r1.dct_i
      refine .inr ⟨a, kvs, ns, rfl, .inl hs, ek.trans (keysI_v en), by assumption, fun ns' q p1 p2 hq => ?_⟩
      have e1 : ns' = srtI ns := srt_uniq (p1.trans (srtI_perm ns).symm) p2 (srtI_srt ns)
      subst e1
      exact h q _ hq (rp_ints _)
    · cases e2
  · cases e
theorem o_repr : OpA K (uReprD K) fRepr := by
  intro Γ σ H st p m ar am ao ab vs xs as d Q R r e h
  unfold fRepr at e
  split at e
  · split at e
    · rename_i x c
      cases e
      obtain ⟨v, rfl, r1⟩ := r.one
      cases x with
      | dct o ks xs =>
        simp only [isMt, Bool.and_eq_true, List.isEmpty_iff] at c
        obtain ⟨rfl, rfl⟩ := c
        obtain ⟨a, kvs, rfl, hs, ek, q⟩ := r1.dct_i
        obtain rfl : kvs = [] := by simpa using ek
        exact ⟨_, .dict [], rfl, .inr (.dct (ns := []) hs), by rfl, by decide, fun z => (by cases z), by rw [mx_eq]; decide, h _ _ (R.nob.rel.str _)⟩
      | _ => cases c
    split at e
    · cases e
      rename_i c
      simp only [Bool.and_eq_true, decide_eq_true_eq, Bool.not_eq_true'] at c
      obtain ⟨v, rfl, r1⟩ := r.one
      exact ⟨v, _, rfl, .inl (r1.dp c.1.1.1.1), c.1.1.1.2, c.1.1.2, fun _ => c.1.2, by rw [mx_eq]; exact c.2, h _ _ (R.nob.rel.str _)⟩
    · obtain ⟨⟨k, v⟩, e1, e2⟩ := Option.bind_eq_some_iff.mp e
      split at e2
      · cases e2
        rename_i c
        simp only [Bool.and_eq_true, decide_eq_true_eq] at c
        obtain ⟨w, rfl, r1⟩ := r.one
        unfold isD1 at e1
        split at e1
        · cases e1
          obtain ⟨a, kvs, rfl, hs, ek, q⟩ := r1.dct_i
          match kvs, ek, q with
          | [(k', u)], ek, q =>
            have e3 : k' = Sum.inl k := by simpa using ek
            subst e3
            have e4 : u = V.int v := Rp.int_i q
            subst e4
            exact ⟨_, rpD1 (k, v), rfl, .inr (.dct (ns := [(k, v)]) hs), c.1, Nat.le_of_ble_eq_true rfl, fun z => (by cases z), by rw [mx_eq]; exact c.2, h _ _ (R.nob.rel.str _)⟩
        · cases e1
      · cases e2
  · cases e
end
/-! ### isinstance -/
section
variable {X : Cx} {Γ : Gam} {W : WX} {σ : L2.St} {H : Hp} {st : Ss} {p : Pd} {K : PySem.W.Frag} {pos q : Pos}
def tyA : AV → String
  | .non => "NoneType"
  | .bl _ => "bool"
  | .int _ => "int"
  | .str _ => "str"
  | .tup _ => "tuple"
  | .dct _ _ _ => "dict"
  | _ => "list"
theorem tyX_of {W m as : List Addr} {v : V} {x : AV} (r : Rp K H W m [v] [x] as) (h : okT x = true) : TyX K H v (.type (tyA x)) := by
  cases r with
  | non _ => exact .base .non
  | bl _ => exact .base (.bl _)
  | int _ => exact .base (.int _)
  | str _ => exact .base (.str _)
  | tup hs _ _ =>
    rcases hs with (hs | ⟨o, hs⟩) | ⟨o, _, _, hk, hc, _⟩
    · exact .base (.tup hs)
    · exact .fTuple hs
    · exact .kTuple hk hc
  | lsI hs _ _ _ => exact .base (.lst hs)
  | lsO hs _ _ => exact .base (.lst hs)
  | dcI hs _ _ _ _ => exact .base (.dK hs)
  | dcO hs _ _ _ => exact .base (.dK hs)
  | _ => cases h
theorem kit_A {n : String} (hn : n = "int" ∨ n = "bool" ∨ n = "str" ∨ n = "tuple" ∨ n = "list" ∨ n = "dict") {x : AV} (h : okT x = true) : kitB (tyA x) n = some (isT n x) := by
  cases x with
  | non => rcases hn with rfl | rfl | rfl | rfl | rfl | rfl <;> (simp only [tyA, isT]; decide +kernel)
  | bl _ => rcases hn with rfl | rfl | rfl | rfl | rfl | rfl <;> (simp only [tyA, isT]; decide +kernel)
  | int _ => rcases hn with rfl | rfl | rfl | rfl | rfl | rfl <;> (simp only [tyA, isT]; decide +kernel)
  | str _ => rcases hn with rfl | rfl | rfl | rfl | rfl | rfl <;> (simp only [tyA, isT]; decide +kernel)
  | tup _ => rcases hn with rfl | rfl | rfl | rfl | rfl | rfl <;> (simp only [tyA, isT]; decide +kernel)
  | lst _ _ => rcases hn with rfl | rfl | rfl | rfl | rfl | rfl <;> (simp only [tyA, isT]; decide +kernel)
  | dct _ _ _ => rcases hn with rfl | rfl | rfl | rfl | rfl | rfl <;> (simp only [tyA, isT]; decide +kernel)
  | _ => cases h
/-- isinstance(e, T), T a built-in type -/
theorem s_isi {e : Expr} {n : String} {y : Str} {m : M AV} {q2 : Pos} (hn : n = "int" ∨ n = "bool" ∨ n = "str" ∨ n = "tuple" ∨ n = "list" ∨ n = "dict") (hg : Gl X "isinstance") (hm : X.mg "isinstance" = none) (hgt : Gl X y) (hmt : X.mg y = none) (hvt : bootBuiltins y = some (.type n)) (he : PE X e (rdE X.K Γ W m))
    (hny : y ≠ "__name__" := by decide) (hdy : (y == ("__debug__" : Str)) = false := by decide)
    (hs : starEach [e, .Name y q2] X.env = (false, eval e X.env) :: starEach [.Name y q2] X.env := by rfl) (hs2 : starEach [.Name y q2] X.env = (false, eval (.Name y q2) X.env) :: starEach [] X.env := by rfl) (hpl : (backTo pos (starEach [.Name y q2] X.env)).any (·.1) = false := by rfl) :
    PE X (.Call (.Name "isinstance" q) [e, .Name y q2] [] pos) (rdE X.K Γ W (eIsi n m)) := by
  refine pe_imp (pe_callB call_isi hg hm (by decide +kernel) (pa_cons he (pa_cons (pe_bltn (v := .ty n) hgt hmt hvt rfl hny hdy) pa_nil hs2) hs) (by decide) (by decide) hs hpl) fun σ H Q h => ?_
  obtain ⟨st, p, R, h⟩ := h
  refine ⟨st, p, R, ?_⟩
  unfold eIsi at h
  cases ea : m st with
  | bad => rw [ea] at h; exact h
  | err c s1 => rw [ea] at h; exact h
  | ok x s1 =>
    rw [ea] at h
    simp only [Res.bind_ok] at h
    intro v H1 R1
    cases eo : okT x with
    | false => simp only [eo, cond_false] at h
    | true =>
      simp only [eo, cond_true] at h
      obtain ⟨mm, ar, am, ao, ab, R2, r⟩ := R1.one
      exact ⟨v, .ty n, .type (tyA x), .type n, isT n x, rfl, .ty n, tyX_of r eo, kit_ty (kit_A hn eo), h _ _ (R2.rel.bl _)⟩
end
end Fk
/-! ## subscripts, slices, globals, zip and enumerate -/
namespace Fk
open PySem PySem.Spec PyProof.Rows L2
def getK : List Key → List AV → Key → Option AV
  | k' :: ks, x :: xs, k => if k' = k then some x else getK ks xs k
  | _, _, _ => none
def keyA : AV → Option Key
  | .int i => some (.inl i)
  | .str x => some (.inr x)
  | _ => none
def seqA : AV → Option (List AV)
  | .lst _ xs => some xs
  | .tup xs => some xs
  | .scr xs => some xs
  | .nst xs => some xs
  | _ => none
def dicA : AV → Option (List Key × List AV)
  | .dct _ ks xs => some (ks, xs)
  | .ndc ks xs => some (ks, xs)
  | _ => none
/-- an item -/
def itA (x y : AV) : Option AV := match seqA x with
  | some xs => (match y with
    | .int i => atI xs i
    | _ => none)
  | none => match dicA x with
    | some (ks, xs) => (keyA y).bind fun k => getK ks xs k
    | none => match x, y with
      | .str z, .int i => if z.length ≤ 16777216 then (atI z.cps.toList i).map fun c => .str ⟨#[c]⟩ else none
      | _, _ => none
def ixA (S : List AV) (x y : AV) : Option AV := (deref S x).bind fun z => itA z y
def eIx (a b : M AV) : M AV := fun st => (a st).bind fun x s1 => (b s1).bind fun y s2 => match ixA s2.s x y with
  | some d => bif imm d then .ok d s2 else .bad
  | none => .bad
def pIx (a b : Ss → Option AV) : Ss → Option AV := fun st => (a st).bind fun x => (b st).bind fun y => ixA st.s x y
def rDG : R2 := fun x y H Q => ∃ a v, x = .ref a ∧ DGet H a y (some v) ∧ Q v H
section
variable {K : PySem.W.Frag} {H : Hp} {W m as a1 a2 : List Addr} {v v1 v2 : V} {x y d : AV} {Γ : Gam} {σ : L2.St} {st : Ss} {p : Pd} {ar am ao ab : List Addr}
theorem getK_v : ∀ {kvs : List (Key × V)} {ys : List AV} {as : List Addr} {k : Key}, Rp K H W m (kvs.map (·.2)) ys as → getK (kvs.map (·.1)) ys k = some d → ∃ v b, valV kvs k = some v ∧ Rp K H W m [v] [d] b
  | [], ys, as, k, r, e => by cases ys <;> cases e
  | (k', v) :: kvs, [], as, k, r, e => by cases e
  | (k', v) :: kvs, z :: ys, as, k, r, e => by
    obtain ⟨b1, b2, _, r1, r2⟩ := Rp.head (show Rp K H W m (v :: kvs.map (·.2)) (z :: ys) as from r)
    have e2 : (if k' = k then some z else getK (kvs.map (·.1)) ys k) = some d := e
    by_cases c : k' = k
    · rw [if_pos c] at e2
      cases e2
      exact ⟨v, b1, valV_pos (p := (k', v)) c, r1⟩
    · rw [if_neg c] at e2
      obtain ⟨v2, b, h1, h2⟩ := getK_v r2 e2
      exact ⟨v2, b, (valV_neg (p := (k', v)) c).trans h1, h2⟩
theorem keyA_v {k : Key} (r : Rp K H W m [v] [y] as) (e : keyA y = some k) : v = kV k := by
  cases y with
  | int i => cases e; exact r.int_i
  | str i => cases e; exact r.str_i
  | _ => cases e
theorem seqA_v {zs : List AV} (r : Rp K H W m [v] [x] as) (e : seqA x = some zs) : ∃ a us b, v = .ref a ∧ (SqL K H a us ∨ SqT K H a us) ∧ Rp K H W m us zs b := by
  cases r with
  | tup h q _ => cases e; exact ⟨_, _, _, rfl, .inr h, q⟩
  | lsI h _ q _ => cases e; exact ⟨_, _, _, rfl, .inl (SqL.of h), q⟩
  | lsO h q _ => cases e; exact ⟨_, _, _, rfl, .inl (SqL.of h), q⟩
  | nst h q _ => cases e; exact ⟨_, _, _, rfl, .inl (SqL.of h), q⟩
  | scr h q _ => cases e; exact ⟨_, _, _, rfl, .inl h.sq, q⟩
  | _ => cases e
theorem dicA_v {ks : List Key} {zs : List AV} (r : Rp K H W m [v] [x] as) (e : dicA x = some (ks, zs)) : ∃ a kvs b, v = .ref a ∧ H a = some (.dK kvs) ∧ kvs.map (·.1) = ks ∧ Rp K H W m (kvs.map (·.2)) zs b := by
  cases r with
  | dcI h _ ek q _ => cases e; exact ⟨_, _, _, rfl, h, ek, q⟩
  | dcO h ek q _ => cases e; exact ⟨_, _, _, rfl, h, ek, q⟩
  | ndc h ek q _ => cases e; exact ⟨_, _, _, rfl, h, ek, q⟩
  | _ => cases e
theorem atI_len {α β : Type} {xs : List α} {ys : List β} {i : Int} {x : α} (hl : xs.length = ys.length) (e : atI xs i = some x) : ∃ j y, ixN ys.length i = some j ∧ xs[j]? = some x ∧ ys[j]? = some y := by
  unfold atI at e
  obtain ⟨j, ej, ex⟩ := Option.bind_eq_some_iff.mp e
  have hj : j < xs.length := (List.getElem?_eq_some_iff.mp ex).1
  rw [hl] at ej
  exact ⟨j, ys[j]'(by omega), ej, ex, by simp⟩
/-- an item, by values -/
theorem it_sem (r1 : Rp K H W m [v1] [x] a1) (r2 : Rp K H W m [v2] [y] a2) (e : itA x y = some d) : ∃ v b, Rp K H W m [v] [d] b ∧ (dicA x = none → ∀ Q : VK, Q v H → rIx K v1 v2 H Q) ∧ (dicA x ≠ none → ∀ Q : VK, Q v H → rDG v1 v2 H Q) := by
  unfold itA at e
  cases es : seqA x with
  | some zs =>
    rw [es] at e
    obtain ⟨a, us, b, rfl, hs, q⟩ := seqA_v r1 es
    cases y with
    | int i =>
      obtain rfl := r2.int_i
      obtain ⟨j, u, ej, ez, eu⟩ := atI_len q.len.symm e
      obtain ⟨v', c1, c, c2, ev, _, _, rv, _⟩ := q.at_ ez
      rw [eu] at ev
      cases ev
      have hat : atI us i = some u := by
        unfold atI
        rw [ej]
        exact eu
      refine ⟨u, c, rv, fun _ Q hQ => ?_, fun z => absurd (by cases x <;> first | rfl | cases es) z⟩
      rcases hs with hs | hs
      · exact .inl ⟨a, us, i, u, rfl, rfl, hs, hat, hQ⟩
      · exact .inr (.inl ⟨a, us, i, u, rfl, rfl, hs, hat, hQ⟩)
    | _ => cases e
  | none =>
    rw [es] at e
    cases ed : dicA x with
    | some kz =>
      obtain ⟨ks, zs⟩ := kz
      rw [ed] at e
      obtain ⟨k, ek, eg⟩ := Option.bind_eq_some_iff.mp (show (keyA y).bind (fun k => getK ks zs k) = some d from e)
      obtain ⟨a, kvs, b, rfl, hs, hk, q⟩ := dicA_v r1 ed
      subst hk
      obtain ⟨v, c, h1, h2⟩ := getK_v q eg
      refine ⟨v, c, h2, (fun z => by cases z), fun _ Q hQ => ⟨a, v, rfl, ?_, hQ⟩⟩
      rw [keyA_v r2 ek, ← h1]
      exact DGet.k hs
    | none =>
      rw [ed] at e
      cases x with
      | str z =>
        cases y with
        | int i =>
          obtain rfl := r1.str_i
          obtain rfl := r2.int_i
          have e2 : (if z.length ≤ 16777216 then (atI z.cps.toList i).map fun c => AV.str ⟨#[c]⟩ else none) = some d := e
          by_cases c : z.length ≤ 16777216
          · rw [if_pos c] at e2
            obtain ⟨ch, ec, rfl⟩ := Option.map_eq_some_iff.mp e2
            exact ⟨.str ⟨#[ch]⟩, [], .str .nil, fun _ Q hQ => .inr (.inr ⟨z, i, ch, rfl, rfl, by rw [mx_eq]; exact c, ec, hQ⟩), fun z => absurd rfl z⟩
          · rw [if_neg c] at e2
            cases e2
        | _ => cases e
      | _ => cases e
end
section
variable {X : Cx} {Γ : Gam} {W : WX} {σ : L2.St} {H : Hp} {st : Ss} {p : Pd} {K : PySem.W.Frag} {pos q : Pos} {a b : Expr}
theorem s_ix {ma mb : M AV} (hu : X.A.units + 1 < cLine) (ha : PE X a (rdE X.K Γ W ma)) (hb : PE X b (rdE X.K Γ W mb)) (hs : PlainIx b := by exact fun _ _ => rfl) : PE X (.Subscript a b pos) (rdE X.K Γ W (eIx ma mb)) := by
  have hd : PE X (.Subscript a b pos) (tOp rDG (rdE X.K Γ W ma) (rdE X.K Γ W mb)) := pe_dget hu ha hb hs
  refine pe_imp (Fk.pe_or (pe_ix ix_seq ha hb hs) hd) fun σ H Q h => ?_
  obtain ⟨st, p, R, h⟩ := h
  unfold eIx at h
  -- the values that come decide which rule is taken
  have main : ∀ r : R2, (∀ x s1 y s2, ma st = .ok x s1 → mb s1 = .ok y s2 → ∀ v1 v2 H2, Rel X.K Γ σ H2 s2 ((p.nob.sh v1 x).sh v2 y) → r v1 v2 H2 Q) → tOp r (rdE X.K Γ W ma) (rdE X.K Γ W mb) σ H Q := by
    intro r hr
    refine ⟨st, p, R, ?_⟩
    cases ea : ma st with
    | bad => rw [ea] at h; exact h
    | err c s1 => rw [ea] at h; exact h
    | ok x s1 =>
      rw [ea] at h
      simp only [Res.bind_ok] at h
      intro v1 H1 R1
      refine ⟨s1, _, R1, ?_⟩
      cases eb : mb s1 with
      | bad => rw [eb] at h; exact h
      | err c s2 => rw [eb] at h; exact fun H2 R2 => h H2 R2.drop
      | ok y s2 => exact fun v2 H2 R2 => hr x s1 y s2 ea eb v1 v2 H2 R2
  cases ea : ma st with
  | bad => rw [ea] at h; exact h.elim
  | err c s1 =>
    left
    refine main _ fun x s1 y s2 e1 => ?_
    rw [ea] at e1; cases e1
  | ok x s1 =>
    rw [ea] at h
    simp only [Res.bind_ok] at h
    cases eb : mb s1 with
    | bad => rw [eb] at h; exact h.elim
    | err c s2 =>
      left
      refine main _ fun x' s1' y s2 e1 e2 => ?_
      rw [ea] at e1; cases e1
      rw [eb] at e2; cases e2
    | ok y s2 =>
      rw [eb] at h
      simp only [Res.bind_ok] at h
      cases ei : ixA s2.s x y with
      | none => simp only [ei] at h
      | some d =>
        simp only [ei] at h
        cases em : imm d with
        | false => simp only [em, cond_false] at h
        | true =>
          simp only [em, cond_true] at h
          obtain ⟨z, ez, e2⟩ := Option.bind_eq_some_iff.mp ei
          have fin : ∀ v1 v2 H2, Rel X.K Γ σ H2 s2 ((p.nob.sh v1 x).sh v2 y) → (dicA z = none → rIx X.K v1 v2 H2 Q) ∧ (dicA z ≠ none → rDG v1 v2 H2 Q) := fun v1 v2 H2 R2 => by
            obtain ⟨m, ar, am, ao, ab, R3, r1, r2⟩ := R2.two
            obtain ⟨as', r3⟩ := R3.deref r1 ez
            obtain ⟨v, b, rv, h1, h2⟩ := it_sem r3 r2 e2
            rw [imm_nil rv em] at rv
            exact ⟨fun z => h1 z Q (h v H2 (R3.nob.sh rv)), fun z => h2 z Q (h v H2 (R3.nob.sh rv))⟩
          by_cases c : dicA z = none
          · left
            refine main _ fun x' s1' y' s2' e1 e3 v1 v2 H2 R2 => ?_
            rw [ea] at e1; cases e1
            rw [eb] at e3; cases e3
            exact (fin v1 v2 H2 R2).1 c
          · right
            refine main _ fun x' s1' y' s2' e1 e3 v1 v2 H2 R2 => ?_
            rw [ea] at e1; cases e1
            rw [eb] at e3; cases e3
            exact (fin v1 v2 H2 R2).2 c
theorem q_ix {ma mb : Ss → Option AV} (hu : X.A.units + 1 < cLine) (ha : PE X a (rdP X.K Γ ma)) (hb : PE X b (rdP X.K Γ mb)) (hs : PlainIx b := by exact fun _ _ => rfl) : PE X (.Subscript a b pos) (rdP X.K Γ (pIx ma mb)) := by
  have hd : PE X (.Subscript a b pos) (tOp rDG (rdP X.K Γ ma) (rdP X.K Γ mb)) := pe_dget hu ha hb hs
  refine pe_imp (Fk.pe_or (pe_ix ix_seq ha hb hs) hd) fun σ H Q h => ?_
  obtain ⟨st, p, d, R, e, h⟩ := h
  obtain ⟨x, ea, e⟩ := Option.bind_eq_some_iff.mp e
  obtain ⟨y, eb, e⟩ := Option.bind_eq_some_iff.mp e
  obtain ⟨z, ez, e⟩ := Option.bind_eq_some_iff.mp e
  have fin : ∀ v1 v2, Rel X.K Γ σ H st ((p.lk v1 x).lk v2 y) → (dicA z = none → rIx X.K v1 v2 H Q) ∧ (dicA z ≠ none → rDG v1 v2 H Q) := fun v1 v2 R2 => by
    obtain ⟨m, ar, am, ao, ab, R2⟩ := R2
    obtain ⟨c1, c2, _, r2, r0⟩ := R2.rb.head
    obtain ⟨c3, c4, _, r1, r4⟩ := r0.head
    have R3 := R2.setB (p := (p.lk v1 x).lk v2 y) r4
    obtain ⟨as', r3⟩ := Rl.deref (p := p) R3 r1 ez
    obtain ⟨v, b, rv, h1, h2⟩ := it_sem r3 r2 e
    have R5 : Rel X.K Γ σ H st (p.lk v d) := ⟨m, ar, am, ao, _, R2.setB (p := (p.lk v1 x).lk v2 y) (rv.cons r4)⟩
    exact ⟨fun z => h1 z Q (h v R5), fun z => h2 z Q (h v R5)⟩
  by_cases c : dicA z = none
  · exact .inl ⟨st, p, x, R, ea, fun v1 R1 => ⟨st, _, y, R1, eb, fun v2 R2 => (fin v1 v2 R2).1 c⟩⟩
  · exact .inr ⟨st, p, x, R, ea, fun v1 R1 => ⟨st, _, y, R1, eb, fun v2 R2 => (fin v1 v2 R2).2 c⟩⟩
/-! ### slices -/
def cutA (xs : List AV) (lo hi : Option Int) : List AV := (xs.drop (HT.sIx xs.length 0 lo)).take (HT.sIx xs.length xs.length hi - HT.sIx xs.length 0 lo)
theorem cut_rp {W m : List Addr} {us : List V} {xs : List AV} {lo hi : Option Int} (r : Rp K H W m us xs []) : Rp K H W m (cutV us lo hi) (cutA xs lo hi) [] := by
  have dr : ∀ (n : Nat) {us : List V} {xs : List AV}, Rp K H W m us xs [] → Rp K H W m (us.drop n) (xs.drop n) [] := fun n => by
    induction n with
    | zero => intro us xs r; exact r
    | succ n ih =>
      intro us xs r
      cases us with
      | nil => obtain ⟨rfl, _⟩ := r.nil_inv'; exact .nil
      | cons u us => cases xs with
        | nil => cases r.nil_inv.1
        | cons x xs => exact ih r.head0.2
  have tk : ∀ (n : Nat) {us : List V} {xs : List AV}, Rp K H W m us xs [] → Rp K H W m (us.take n) (xs.take n) [] := fun n => by
    induction n with
    | zero => intro us xs r; exact .nil
    | succ n ih =>
      intro us xs r
      cases us with
      | nil => obtain ⟨rfl, _⟩ := r.nil_inv'; exact .nil
      | cons u us => cases xs with
        | nil => cases r.nil_inv.1
        | cons x xs => exact r.head0.1.cons0 (ih r.head0.2)
  have l := r.len
  unfold cutV cutA
  rw [l]
  exact tk _ (dr _ r)
def slA (x : AV) (lo hi : Option Int) : Option AV := match x with
  | .lst _ xs => some (.lst false (cutA xs lo hi))
  | .tup xs => some (.tup (cutA xs lo hi))
  | .str z => if z.length ≤ 16777216 then some (.str (cutS z lo hi)) else none
  | _ => none
theorem sl_sem {m ar am ao ab as : List Addr} {v : V} {x d : AV} {lo hi : Option Int} {Q : VK} (R : Rl K Γ σ H st p m ar am ao ab) (r : Rp K H (wOf Γ ar am ao) m [v] [x] as) (e : slA x lo hi = some d) (h : ∀ v H', Rel K Γ σ H' st (p.nob.sh v d) → Q v H') : uSl K v lo hi H Q := by
  unfold slA at e
  split at e
  · cases e
    obtain ⟨a, us, rfl, hs, q⟩ := r.lst_i
    exact .inl ⟨a, us, rfl, SqL.of hs, fun l hl => h _ _ (R.nob.lst hl (cut_rp q)).rel⟩
  · cases e
    obtain ⟨a, us, rfl, hs, q⟩ := r.tup_i
    refine .inr (.inl ⟨a, us, rfl, hs, fun c => ?_, fun _ l hl => h _ _ (R.nob.tup hl (cut_rp q)).rel⟩)
    have e1 : ∀ {xs : List AV}, us.length = xs.length → cutA xs lo hi = xs := fun {xs} l => by
      unfold cutA
      rw [← l, c.1, c.2]
      simp [l]
    rw [e1 q.len] at h
    exact h _ _ (R.nob.sh (.tup hs q .nil))
  · split at e
    · cases e
      obtain rfl := r.str_i
      exact .inr (.inr ⟨_, rfl, by rw [mx_eq]; assumption, h _ _ (R.nob.rel.str _)⟩)
    · cases e
  · cases e
/-- a slice's part -/
def oPart (o : Option (M AV)) : M (Option Int) := match o with
  | none => fun st => .ok none st
  | some m => fun st => (m st).bind fun x s1 => match x with
    | .int i => .ok (some i) s1
    | _ => .bad
def rdPO (K : PySem.W.Frag) (Γ : Gam) (W : WX) (m : M (Option Int)) : TO := fun σ H Q => ∃ st p, Rel K Γ σ H st p ∧ match m st with
  | .ok o st' => ∀ H', Rel K Γ σ H' st' p.nob → Q o H'
  | .err c st' => ∀ H', Rel K Γ σ H' st' p.nob → W (.ref (He.ga K c)) none σ H'
  | .bad => False
theorem po_imp {e : Option Expr} {t t' : TO} (h : PO X e t) (i : ∀ σ H Q, t' σ H Q → t σ H Q) : PO X e t' := ⟨fun pins s σ H Q I q => h.run pins s σ H Q I (i σ H Q q)⟩
theorem s_po0 : PO X none (rdPO X.K Γ W (oPart none)) := by
  refine po_imp po_none fun σ H Q h => ?_
  obtain ⟨st, p, R, h⟩ := h
  exact h H R.nob
theorem s_po1 {e : Expr} {m : M AV} (he : PE X e (rdE X.K Γ W m)) : PO X (some e) (rdPO X.K Γ W (oPart (some m))) := by
  refine po_imp (po_some he) fun σ H Q h => ?_
  obtain ⟨st, p, R, h⟩ := h
  refine ⟨st, p, R, ?_⟩
  simp only [oPart] at h
  cases ea : m st with
  | bad => rw [ea] at h; exact h
  | err c s1 => rw [ea] at h; exact h
  | ok x s1 =>
    rw [ea] at h
    simp only [Res.bind_ok] at h
    intro v H1 R1
    cases x with
    | int i =>
      obtain ⟨mm, ar, am, ao, ab, R2, r⟩ := R1.one
      exact ⟨i, r.int_i, h H1 R2.rel⟩
    | _ => exact h.elim
def eSl (a : M AV) (lo hi : Option (M AV)) : M AV := fun st => (a st).bind fun x s1 => (oPart lo s1).bind fun l s2 => (oPart hi s2).bind fun u s3 => ofO (slA x l u) s3
theorem s_sl {e : Expr} {lo hi : Option Expr} {me : M AV} {ml mh : Option (M AV)} {q2 : Pos} (he : PE X e (rdE X.K Γ W me)) (hl : PO X lo (rdPO X.K Γ W (oPart ml))) (hh : PO X hi (rdPO X.K Γ W (oPart mh))) : PE X (.Subscript e (.Slice lo hi none q2) pos) (rdE X.K Γ W (eSl me ml mh)) := by
  refine pe_imp (pe_slice sl_any he hl hh) fun σ H Q h => ?_
  obtain ⟨st, p, R, h⟩ := h
  refine ⟨st, p, R, ?_⟩
  unfold eSl at h
  cases ea : me st with
  | bad => rw [ea] at h; exact h
  | err c s1 => rw [ea] at h; exact h
  | ok x s1 =>
    rw [ea] at h
    simp only [Res.bind_ok] at h
    intro v H1 R1
    refine ⟨s1, _, R1, ?_⟩
    cases el : oPart ml s1 with
    | bad => rw [el] at h; exact h
    | err c s2 => rw [el] at h; exact fun H2 R2 => h H2 R2.drop
    | ok l s2 =>
      rw [el] at h
      simp only [Res.bind_ok] at h
      intro H2 R2
      refine ⟨s2, _, R2, ?_⟩
      cases eh : oPart mh s2 with
      | bad => rw [eh] at h; exact h
      | err c s3 => rw [eh] at h; exact fun H3 R3 => h H3 R3.drop
      | ok u s3 =>
        rw [eh] at h
        simp only [Res.bind_ok] at h
        intro H3 R3
        cases es : slA x l u with
        | none => simp only [es, ofO_none] at h
        | some d =>
          simp only [es, ofO_some] at h
          obtain ⟨m, ar, am, ao, ab, R4, r⟩ := Rel.one (p := p.nob) R3
          exact sl_sem R4 r es h
/-! ### a module's constants -/
theorem s_gl {x : Str} {v : V} {u : Value} {d : AV} (hg : Gl X x) (hm : X.mg x = some u) (r : RelV v u) (hr : ∀ H W m, Rp X.K H W m [v] [d] []) (hd : (x == ("__debug__" : Str)) = false := by decide) : PE X (.Name x pos) (rdE X.K Γ W (eC d)) := by
  refine pe_imp (pe_glob hg hm r hd) fun σ H Q h => ?_
  obtain ⟨st, p, R, h⟩ := h
  exact h _ _ (R.nob.shC (hr H))
theorem q_gl {x : Str} {v : V} {u : Value} {d : AV} (hg : Gl X x) (hm : X.mg x = some u) (r : RelV v u) (hr : ∀ H W m, Rp X.K H W m [v] [d] []) (hd : (x == ("__debug__" : Str)) = false := by decide) : PE X (.Name x pos) (rdP X.K Γ (pC d)) := by
  refine pe_imp (pe_glob hg hm r hd) fun σ H Q h => ?_
  obtain ⟨st, p, d, R, e, h⟩ := h
  cases e
  exact h _ (R.lkC (hr H))
end
end Fk
/-! ## stores -/
namespace Fk
open PySem PySem.Spec PyProof.Rows L2
section
variable {K : PySem.W.Frag} {H : Hp} {Γ : Gam} {σ : L2.St} {st : Ss} {p : Pd} {m ar am ao ab : List Addr}
theorem set_same {σ : L2.St} {i : Nat} {v : V} (e : σ[i]? = some (some v)) : σ.set i (some v) = σ := by
  apply List.ext_getElem?
  intro j
  by_cases c : i = j
  · subst c
    rw [List.getElem?_set_self (List.getElem?_eq_some_iff.mp e).1, e]
  · rw [List.getElem?_set_ne c]
/-- an owned thing in a slot is written -/
theorem Rl.wrSlot (R : Rl K Γ σ H st p m ar am ao ab) {i : Nat} {d : AV} (e : getSl st.r i = .ow d) : ∃ v b, σ[i]? = some (some v) ∧ Rp K H (wOf Γ ar am ao) m [v] [d] b ∧ (∀ c ∈ b, c ∈ wOf Γ ar am ao) ∧
    ∀ {q : Addr} {o u : HO} {d' : AV}, q ∈ b → H q = some u → mutO u = true → NoTbl o → (∀ {H' : Hp}, Tr H H' (wOf Γ ar am ao) (wOf Γ ar am ao) m m [q] → H' q = some o → (∀ c, c ≠ q → H' c = H c) → Rp K H' (wOf Γ ar am ao) m [v] [d'] b) → Rel K Γ σ (upd H q o) ⟨setSl st.r i (.ow d'), st.s⟩ p.nob := by
  obtain ⟨v, a1, b, a2, ev, ea, rv, rn⟩ := R.rs.getOw e
  have nd := R.nd
  refine ⟨v, b, ev, rv, fun c hc => by simp only [wOf, ea, List.mem_append]; grind, ?_⟩
  intro q o u d' hq hu hm no hr
  have hi : i < st.r.length := getSl_lt (by rw [e]; exact fun z => nomatch z)
  have hqw : q ∈ wOf Γ ar am ao := by simp only [wOf, ea, List.mem_append]; grind
  have t : Tr H (upd H q o) (wOf Γ ar am ao) (wOf Γ ar am ao) m m [q] := Tr.put hu hm hqw fun _ z => z
  have n1 : ∀ c ∈ a1 ++ a2, c ∉ [q] := fun c hc z => by
    simp only [wOf, ea, List.nodup_append, List.mem_append, List.mem_singleton] at nd z hc
    grind
  have n2 : ∀ c ∈ am, c ∉ [q] := fun c hc z => by
    simp only [wOf, ea, List.nodup_append, List.mem_append, List.mem_singleton] at nd z
    grind
  have n3 : ∀ c ∈ ao, c ∉ [q] := fun c hc z => by
    simp only [wOf, ea, List.nodup_append, List.mem_append, List.mem_singleton] at nd z
    grind
  obtain ⟨c1, c2, ec, rs⟩ := (t.rs rn n1).setOw hi (hr t upd_same fun c hc => upd_ne hc)
  rw [set_same ev] at rs
  have hmem : ∀ x, x ∈ c1 ++ (b ++ c2) ↔ x ∈ ar := fun x => by
    have h1 : x ∈ a1 ++ a2 ↔ x ∈ c1 ++ c2 := by rw [ec]
    simp only [ea, List.mem_append] at h1 ⊢
    grind
  have hw : ∀ x, x ∈ wOf Γ (c1 ++ (b ++ c2)) am ao ↔ x ∈ wOf Γ ar am ao := fun x => by
    have h1 := hmem x
    simp only [wOf, List.mem_append] at h1 ⊢
    grind
  have t2 : Tr (upd H q o) (upd H q o) (wOf Γ ar am ao) (wOf Γ (c1 ++ (b ++ c2)) am ao) m m [] := Tr.same fun c z => (hw c).mp z
  refine ⟨m, c1 ++ (b ++ c2), am, ao, [], t2.rs rs (fun _ _ z => nomatch z), t2.rp (t.rp R.rm n2) (fun _ _ z => nomatch z), t2.rp0 (t.rp0 R.ri), t2.rp (t.rp R.ro n3) (fun _ _ z => nomatch z), .nil, ?_, ?_, ?_, R.pm, R.gu, tabs_put R.tb hu hm no⟩
  · have pn : (c1 ++ (b ++ c2)).Perm ar := by
      rw [ea]
      have e1 : (c1 ++ (b ++ c2)).Perm (b ++ (c1 ++ c2)) := by
        rw [← List.append_assoc, ← List.append_assoc]
        exact List.Perm.append_right _ List.perm_append_comm
      have e2 : (a1 ++ (b ++ a2)).Perm (b ++ (a1 ++ a2)) := by
        rw [← List.append_assoc, ← List.append_assoc]
        exact List.Perm.append_right _ List.perm_append_comm
      rw [ec] at e2
      exact e1.trans e2.symm
    have pw : (wOf Γ (c1 ++ (b ++ c2)) am ao).Perm (wOf Γ ar am ao) := List.Perm.append_left _ (List.Perm.append_right _ pn)
    exact pw.nodup_iff.mpr nd
  · intro x hx
    have h1 := hmem x
    have h2 := R.fr x
    simp only [List.mem_append] at h1 h2 hx
    grind
  · intro a' o' e' n'
    obtain ⟨o2, e2, f2⟩ := R.kp a' o' e' n'
    have ne : a' ≠ q := by
      rintro rfl
      rcases R.fr a' (by simp only [ea, List.mem_append]; grind) with z | z
      · exact n' z
      · rw [e'] at z; cases z
    exact ⟨o2, by rw [upd_ne ne]; exact e2, f2⟩
end
/-! ### lists and dicts in slots -/
def ownL : Sl → Option (List AV)
  | .ow (.lst true xs) => some xs
  | _ => none
def ownD : Sl → Option (List Key × List AV)
  | .ow (.dct true ks xs) => some (ks, xs)
  | _ => none
@[simp] theorem ownL_ow (xs : List AV) : ownL (.ow (.lst true xs)) = some xs := rfl
@[simp] theorem ownD_ow (ks : List Key) (xs : List AV) : ownD (.ow (.dct true ks xs)) = some (ks, xs) := rfl
theorem ownL_eq {s : Sl} {xs : List AV} (h : ownL s = some xs) : s = .ow (.lst true xs) := by
  unfold ownL at h
  split at h
  · cases h; rfl
  · cases h
theorem ownD_eq {s : Sl} {ks : List Key} {xs : List AV} (h : ownD s = some (ks, xs)) : s = .ow (.dct true ks xs) := by
  unfold ownD at h
  split at h
  · cases h; rfl
  · cases h
def putL (i : Nat) (xs : List AV) (st : Ss) : Ss := ⟨setSl st.r i (.ow (.lst true xs)), st.s⟩
def putD (i : Nat) (ks : List Key) (xs : List AV) (st : Ss) : Ss := ⟨setSl st.r i (.ow (.dct true ks xs)), st.s⟩
def eApp (i : Nat) (m : M AV) : M AV := fun st => match ownL (getSl st.r i) with
  | none => .bad
  | some _ => (m st).bind fun d s1 => match ownL (getSl s1.r i) with
    | none => .bad
    | some xs => if xs.length < 16777216 then .ok .non (putL i (xs ++ [d]) s1) else .bad
def asI : AV → Option Int
  | .int i => some i
  | _ => none
def popA (xs : List AV) (d : AV) : Option (AV × List AV) := (asI d).bind fun k => if 0 ≤ k ∧ k < xs.length ∧ xs.length ≤ 16777216 then (xs[k.toNat]?).map fun y => (y, xs.eraseIdx k.toNat) else none
def ePop (i : Nat) (m : M AV) : M AV := fun st => match ownL (getSl st.r i) with
  | none => .bad
  | some _ => (m st).bind fun d s1 => match ownL (getSl s1.r i) with
    | none => .bad
    | some xs => match popA xs d with
      | some (y, ys) => .ok y (putL i ys s1)
      | none => .bad
section
variable {X : Cx} {Γ : Gam} {W : WX} {σ : L2.St} {H : Hp} {st : Ss} {p : Pd} {K : PySem.W.Frag} {pos apos cpos : Pos} {e : Expr} {x : Str} {i : Nat}
theorem Rl.slotL {m ar am ao ab : List Addr} {xs : List AV} (R : Rl K Γ σ H st p m ar am ao ab) (e : ownL (getSl st.r i) = some xs) : ∃ l us, σ[i]? = some (some (.ref l)) ∧ H l = some (.lst us) ∧ Rp K H (wOf Γ ar am ao) m us xs [] ∧
    ∀ {us' : List V} {ys : List AV}, Rp K H (wOf Γ ar am ao) m us' ys [] → Rel K Γ σ (upd H l (.lst us')) (putL i ys st) p.nob ∧ ∀ {v : V} {d : AV}, Rp K H (wOf Γ ar am ao) m [v] [d] [] → Rel K Γ σ (upd H l (.lst us')) (putL i ys st) (p.nob.sh v d) := by
  have main : ∀ {p : Pd}, Rl K Γ σ H st p m ar am ao ab → ∃ l us, σ[i]? = some (some (.ref l)) ∧ H l = some (.lst us) ∧ Rp K H (wOf Γ ar am ao) m us xs [] ∧ ∀ {us' : List V} {ys : List AV}, Rp K H (wOf Γ ar am ao) m us' ys [] → Rel K Γ σ (upd H l (.lst us')) (putL i ys st) p.nob := fun {p} R => by
    obtain ⟨v, b, ev, rv, _, f⟩ := R.wrSlot (ownL_eq e)
    obtain ⟨l, us, rfl, rfl, hs, q⟩ := rv.lsO_i
    exact ⟨l, us, ev, hs, q, fun {us' ys} r => f (o := .lst us') (d' := .lst true ys) (by simp) hs rfl (fun _ z => by cases z) fun t h1 _ => .lsO h1 (t.rp0 r) .nil⟩
  obtain ⟨l, us, ev, hs, q, f⟩ := main R
  refine ⟨l, us, ev, hs, q, fun {us' ys} r => ⟨f r, fun {v d} rd => ?_⟩⟩
  obtain ⟨l', us2, ev', hs', _, f'⟩ := main (R.setI (rd.cons0 R.ri))
  rw [ev] at ev'
  cases ev'
  exact f' r
/-! stores into slots' lists and dicts -/
def updA (k : Key) (d : AV) : List Key → List AV → List AV
  | k' :: ks, x :: xs => (if k' = k then d else x) :: updA k d ks xs
  | _, xs => xs
def hasK (ks : List Key) (k : Key) : Bool := ks.any fun k' => decide (k' = k)
def putKA (ks : List Key) (xs : List AV) (k : Key) (d : AV) : List Key × List AV := bif hasK ks k then (ks, updA k d ks xs) else (ks ++ [k], xs ++ [d])
theorem updA_v {W m : List Addr} {k : Key} {v : V} {d : AV} : ∀ {kvs : List (Key × V)} {ys : List AV}, Rp K H W m (kvs.map (·.2)) ys [] → Rp K H W m [v] [d] [] → Rp K H W m ((kvs.map fun kv => if kv.1 = k then (kv.1, v) else kv).map (·.2)) (updA k d (kvs.map (·.1)) ys) []
  | [], ys, r, rd => by
    obtain ⟨rfl, _⟩ := r.nil_inv'
    exact .nil
  | (k', v') :: kvs, [], r, rd => by cases r.nil_inv.1
  | (k', v') :: kvs, y :: ys, r, rd => by
    have r0 := Rp.head0 (show Rp K H W m (v' :: kvs.map (·.2)) (y :: ys) [] from r)
    have ih := updA_v (k := k) r0.2 rd
    by_cases c : k' = k
    · have h1 := rd.cons0 ih
      show Rp K H W m ((if k' = k then (k', v) else (k', v')).2 :: _) ((if k' = k then d else y) :: _) []
      rw [if_pos c, if_pos c]
      exact h1
    · have h1 := r0.1.cons0 ih
      show Rp K H W m ((if k' = k then (k', v) else (k', v')).2 :: _) ((if k' = k then d else y) :: _) []
      rw [if_neg c, if_neg c]
      exact h1
theorem putK_v {W m : List Addr} {k : Key} {v : V} {d : AV} {kvs : List (Key × V)} {ys : List AV} (r : Rp K H W m (kvs.map (·.2)) ys []) (rd : Rp K H W m [v] [d] []) : ((putK kvs k v).map (·.1)) = (putKA (kvs.map (·.1)) ys k d).1 ∧ Rp K H W m ((putK kvs k v).map (·.2)) (putKA (kvs.map (·.1)) ys k d).2 [] := by
  have ea : hasK (kvs.map (·.1)) k = (kvs.any fun kv => decide (kv.1 = k)) := by
    unfold hasK
    rw [List.any_map]
    rfl
  unfold putK putKA
  rw [ea]
  cases c : kvs.any fun kv => decide (kv.1 = k) with
  | true =>
    refine ⟨?_, updA_v r rd⟩
    show ((kvs.map fun kv => if kv.1 = k then (kv.1, v) else kv).map (·.1)) = kvs.map (·.1)
    rw [List.map_map]
    refine List.map_congr_left fun kv _ => ?_
    show (if kv.1 = k then (kv.1, v) else kv).1 = kv.1
    split <;> rfl
  | false =>
    rw [if_neg Bool.false_ne_true]
    refine ⟨by simp, ?_⟩
    show Rp K H W m ((kvs ++ [(k, v)]).map (·.2)) (ys ++ [d]) []
    rw [List.map_append]
    exact r.app rd
theorem Rl.slotD {m ar am ao ab : List Addr} {ks : List Key} {xs : List AV} (R : Rl K Γ σ H st p m ar am ao ab) (e : ownD (getSl st.r i) = some (ks, xs)) : ∃ l kvs, σ[i]? = some (some (.ref l)) ∧ H l = some (.dK kvs) ∧ kvs.map (·.1) = ks ∧ Rp K H (wOf Γ ar am ao) m (kvs.map (·.2)) xs [] ∧
    ∀ {kvs' : List (Key × V)} {ys : List AV}, Rp K H (wOf Γ ar am ao) m (kvs'.map (·.2)) ys [] → Rel K Γ σ (upd H l (.dK kvs')) (putD i (kvs'.map (·.1)) ys st) p.nob := by
  obtain ⟨v, b, ev, rv, _, f⟩ := R.wrSlot (ownD_eq e)
  cases rv with
  | @dcO l kvs _ _ _ _ _ hs ek q r0 =>
    obtain ⟨_, rfl⟩ := r0.nil_inv
    exact ⟨l, kvs, ev, hs, ek, q, fun {kvs' ys} r => f (q := l) (o := .dK kvs') (u := .dK kvs) (d' := AV.dct true (List.map (fun (z : Key × V) => z.1) kvs') ys) (by simp) hs rfl (fun _ z => by cases z) fun t h1 _ => Rp.dcO h1 rfl (t.rp0 r) .nil⟩
def setIx (xs : List AV) (y d : AV) : Option (List AV) := (asI y).bind fun k => (ixN xs.length k).map fun j => xs.set j d
def isOw : Sl → Bool
  | .ow _ => true
  | _ => false
/-- the list or dict in a slot gets a value at a place -/
def storeB (i : Nat) (y d : AV) (st : Ss) : Res Fl Ss := match ownL (getSl st.r i) with
  | some xs => (match setIx xs y d with
    | some ys => .ok .nx (putL i ys st)
    | none => .bad)
  | none => match ownD (getSl st.r i) with
    | some (ks, xs) => (match keyA y with
      | some k => if ks.length < 16777216 then .ok .nx (putD i (putKA ks xs k d).1 (putKA ks xs k d).2 st) else .bad
      | none => .bad)
    | none => .bad
/-- name[y] = value -/
def sSetB (i : Nat) (mk mv : M AV) : M Fl := fun st => (mv st).bind fun d s1 => bif isOw (getSl s1.r i) then (mk s1).bind fun y s2 => storeB i y d s2 else .bad
theorem ps_or {s : Stmt} {a b : TS} (h1 : PS X s a) (h2 : PS X s b) : PS X s (fun D σ H => a D σ H ∨ b D σ H) :=
  ⟨fun pins s σ H D I h => h.elim (fun q => h1.run pins s σ H D I q) (fun q => h2.run pins s σ H D I q)⟩
theorem isOw_v {m ar am ao ab : List Addr} (R : Rl K Γ σ H st p m ar am ao ab) (e : isOw (getSl st.r i) = true) : ∃ v, σ[i]? = some (some v) := by
  cases eg : getSl st.r i with
  | ow d =>
    obtain ⟨v, _, _, _, ev, _⟩ := R.rs.getOw eg
    exact ⟨v, ev⟩
  | _ => rw [eg] at e; cases e
theorem s_setB {ek ev : Expr} {mk mv : M AV} {q pos' : Pos} (hN : X.N[i]? = some x) (hv : Vis X.env.scope x) (hu : X.A.units + 1 < cLine) (he : PE X ev (rdE X.K Γ W mv)) (hk : PE X ek (rdE X.K Γ W mk))
    (hd : (x == ("__debug__" : Str)) = false := by decide) (hcd : (x == ("__classdict__" : Str)) = false := by decide)
    (hsw : swapsWith ev (some (.Subscript (.Name x q) ek pos')) pos.line X.env = pure false := by rfl)
    (hs1 : swapsWithSole [.Subscript (.Name x q) ek pos'] ev pos.line X.env = pure false := by rfl) (hw1 : swappedStores [.Subscript (.Name x q) ek pos'] ev X.env = pure none := by rfl)
    (ha : ∀ v, assign (.Subscript (.Name x q) ek pos') X.env v = (do
      let ov ← holding [v] (eval (.Name x q) X.env)
      let iv ← holding [v, ov] (eval ek X.env)
      standAt pos'
      holding [v, ov, iv] (setItem ov iv v)
      release [v, ov, iv] []) := by intro _; rfl) : PS X (.Assign [.Subscript (.Name x q) ek pos'] ev pos) (rdS X.K Γ W (sSetB i mk mv)) := by
  have h1 : PS X (.Assign [.Subscript (.Name x q) ek pos'] ev pos) (tAsg (rdE X.K Γ W mv) (gSub (tVar i) (rdE X.K Γ W mk) rSetL)) := ps_asg he (pg_sub (pe_var hN hv hd hcd) hk set_list ha) hs1 hw1
  have h2 : PS X (.Assign [.Subscript (.Name x q) ek pos'] ev pos) (sDPut (tVar i) (rdE X.K Γ W mk) (rdE X.K Γ W mv)) := ps_dput hu (pe_var hN hv hd hcd) hk he hsw
  refine ps_imp (ps_or h1 h2) fun D σ H h => ?_
  obtain ⟨st, p, R, hp, h⟩ := h
  unfold sSetB at h
  -- value, place, then what is done with them
  have main : ∀ k : V → V → V → Hp → Prop, (∀ d s1 y s2, mv st = .ok d s1 → mk s1 = .ok y s2 → ∀ v o w' H2, σ[i]? = some (some o) → Rel X.K Γ σ H2 s2 ((p.nob.sh v d).sh w' y) → k v o w' H2) →
      rdE X.K Γ W mv σ H fun v H1 => tVar i σ H1 fun o H2 => rdE X.K Γ W mk σ H2 fun y H3 => k v o y H3 := by
    intro k hk'
    refine ⟨st, p, R, ?_⟩
    cases ea : mv st with
    | bad => rw [ea] at h; exact h
    | err c s1 => rw [ea] at h; exact fun H' R' => h σ H' (hp ▸ R')
    | ok d s1 =>
      rw [ea] at h
      simp only [Res.bind_ok] at h
      cases eo : isOw (getSl s1.r i) with
      | false => simp only [eo, cond_false] at h
      | true =>
        simp only [eo, cond_true] at h
        intro v H1 R1
        have Rc := R1
        obtain ⟨mm, ar, am, ao, ab, R2⟩ := Rc
        obtain ⟨o, ev⟩ := isOw_v R2 eo
        refine ⟨o, ev, s1, _, R1, ?_⟩
        cases ek' : mk s1 with
        | bad => rw [ek'] at h; exact h
        | err c s2 => rw [ek'] at h; exact fun H2 R3 => h σ H2 (hp ▸ R3.drop)
        | ok y s2 => exact fun w' H2 R3 => hk' d s1 y s2 ea ek' v o w' H2 ev R3
  cases ea : mv st with
  | bad => rw [ea] at h; exact h.elim
  | err c s1 =>
    refine .inl (main _ fun d s1 y s2 e1 => ?_)
    rw [ea] at e1; cases e1
  | ok d s1 =>
    rw [ea] at h
    simp only [Res.bind_ok] at h
    cases eo : isOw (getSl s1.r i) with
    | false => simp only [eo, cond_false] at h
    | true =>
      simp only [eo, cond_true] at h
      cases ek' : mk s1 with
      | bad => rw [ek'] at h; exact h.elim
      | err c s2 =>
        refine .inl (main _ fun d s1 y s2 e1 e2 => ?_)
        rw [ea] at e1; cases e1
        rw [ek'] at e2; cases e2
      | ok y s2 =>
        rw [ek'] at h
        simp only [Res.bind_ok, storeB] at h
        cases e1 : ownL (getSl s2.r i) with
        | some xs =>
          simp only [e1] at h
          cases e2 : setIx xs y d with
          | none => simp only [e2] at h
          | some ys =>
            simp only [e2] at h
            refine .inl (main _ fun d' s1' y' s2' c1 c2 v o w' H2 ev R3 => ?_)
            rw [ea] at c1; cases c1
            rw [ek'] at c2; cases c2
            obtain ⟨mm, ar, am, ao, ab, R4, rd, ry⟩ := R3.two
            obtain ⟨l, us, ev', hs', q', f⟩ := R4.slotL e1
            rw [ev] at ev'
            cases ev'
            obtain ⟨k, ek2, e3⟩ := Option.bind_eq_some_iff.mp e2
            obtain ⟨j, ej, e4⟩ := Option.map_eq_some_iff.mp e3
            subst e4
            cases y with
            | int k' =>
              cases ek2
              obtain rfl := ry.int_i
              have hj := (ixN_seq ej).2.1
              refine ⟨l, us, k, j, rfl, rfl, hs', by rw [q'.len]; exact ej, h σ _ (hp ▸ (f ?_).1)⟩
              obtain ⟨xj, exj⟩ : ∃ xj, xs[j]? = some xj := ⟨xs[j], by simp [hj]⟩
              obtain ⟨u, a1, b, a2, eu, ea', r1, r2, r3⟩ := q'.at_ exj
              obtain ⟨z1, z2⟩ := List.append_eq_nil_iff.mp ea'.symm
              obtain ⟨z3, z4⟩ := List.append_eq_nil_iff.mp z2
              subst z1 z3 z4
              exact Rp.put hj r1 rd r3 q'.len
            | _ => cases ek2
        | none =>
          simp only [e1] at h
          cases e2 : ownD (getSl s2.r i) with
          | none => simp only [e2] at h
          | some kx =>
            obtain ⟨ks, xs⟩ := kx
            simp only [e2] at h
            cases e3 : keyA y with
            | none => simp only [e3] at h
            | some k =>
              simp only [e3] at h
              by_cases cz : ks.length < 16777216
              · simp only [cz, if_true] at h
                refine .inr (main (fun v o y H3 => ∃ a H4, o = .ref a ∧ DPut H3 a y v H4 ∧ D.nx σ H4) fun d' s1' y' s2' c1 c2 v o w' H2 ev R3 => ?_)
                rw [ea] at c1; cases c1
                rw [ek'] at c2; cases c2
                obtain ⟨mm, ar, am, ao, ab, R4, rd, ry⟩ := R3.two
                obtain ⟨l, kvs, ev', hs', ek3, q', f⟩ := R4.slotD e2
                rw [ev] at ev'
                cases ev'
                subst ek3
                obtain ⟨p1, p2⟩ := putK_v (k := k) q' rd
                have R5 := f p2
                rw [p1] at R5
                refine ⟨l, _, rfl, ?_, h σ _ (hp ▸ R5)⟩
                rw [keyA_v ry e3]
                exact DPut.k hs' (by rw [mx_eq]; simpa using cz)
              · simp only [cz, if_false] at h
end
end Fk
/-! ## objects: fields, methods, making -/
namespace Fk
open PySem PySem.Spec PyProof.Rows L2
def getF : List Str → List AV → Str → Option AV
  | k :: ks, x :: xs, f => if k = f then some x else getF ks xs f
  | _, _, _ => none
def insOf : AV → Option (Str × List Str × List AV)
  | .ins C ks xs => some (C, ks, xs)
  | _ => none
/-- a field of the object behind a value -/
def fldA (S : List AV) (C f : Str) (x : AV) : Option AV := ((deref S x).bind insOf).bind fun t => if t.1 = C then getF t.2.1 t.2.2 f else none
def pFld (C f : Str) (m : Ss → Option AV) : Ss → Option AV := fun st => (m st).bind fun x => fldA st.s C f x
section
variable {K : PySem.W.Frag} {H : Hp} {W m as : List Addr} {v : V} {x d : AV} {Γ : Gam} {σ : L2.St} {st : Ss} {p : Pd} {ar am ao ab : List Addr}
end
section
variable {X : Cx} {Γ : Gam} {W : WX} {σ : L2.St} {H : Hp} {st : Ss} {p : Pd} {K : PySem.W.Frag} {pos apos cpos : Pos} {e : Expr} {x : Str} {i : Nat} {C f : Str} {fs : List Str}
/-! ### stores -/
def putFA : List Str → List AV → Str → AV → List Str × List AV
  | k :: ks, x :: xs, f, d => if k = f then (k :: ks, d :: xs) else (k :: (putFA ks xs f d).1, x :: (putFA ks xs f d).2)
  | _, _, f, d => ([f], [d])
def locOf : AV → Option Nat
  | .loc l => some l
  | _ => none
/-- a field given a value, the state behind it -/
def putFld (C f : Str) (x d : AV) (st : Ss) : Option Ss := (locOf x).bind fun l => ((st.s[l]?).bind insOf).bind fun t => if t.1 = C ∧ t.2.1.length < 1000 then some ⟨st.r, st.s.set l (.ins C (putFA t.2.1 t.2.2 f d).1 (putFA t.2.1 t.2.2 f d).2)⟩ else none
/-- e.f = value, the object looked at -/
def sFld (C f : Str) (mo : Ss → Option AV) (mv : M AV) : M Fl := fun st => (mv st).bind fun d s1 => match (mo s1).bind fun x => putFld C f x d s1 with
  | some s2 => .ok .nx s2
  | none => .bad
end
end Fk
/-! ## objects are made, their parts are written -/
namespace Fk
open PySem PySem.Spec PyProof.Rows L2
/-- one of two ways -/
def mAlt {α : Type} (a b : M α) : M α := fun st => match a st with
  | .bad => b st
  | r => r
section
variable {X : Cx} {Γ : Gam} {W : WX} {e : Expr} {s : Stmt}
end
/-- owned kinds -/
def ownA : AV → Bool
  | .lst o _ => o
  | .dct o _ _ => o
  | .nst _ => true
  | .ndc _ _ => true
  | .ins _ _ _ => true
  | _ => false
section
variable {K : PySem.W.Frag} {H : Hp} {W m as : List Addr} {v : V} {x d z : AV} {Γ : Gam} {σ : L2.St} {st : Ss} {p : Pd} {ar am ao ab : List Addr}
theorem own_ref (r : Rp K H W m [v] [x] as) (h : ownA x = true) : ∃ a, v = .ref a ∧ a ∈ as := by
  cases r with
  | lsI _ _ _ _ => cases h
  | dcI _ _ _ _ _ => cases h
  | lsO _ _ _ => exact ⟨_, rfl, by simp⟩
  | dcO _ _ _ _ => exact ⟨_, rfl, by simp⟩
  | nst _ _ _ => exact ⟨_, rfl, by simp⟩
  | ndc _ _ _ _ => exact ⟨_, rfl, by simp⟩
  | ins _ _ _ _ => exact ⟨_, rfl, by simp⟩
  | _ => cases h
/-- a pending owned thing becomes an object by itself -/
theorem Rel.prom (R : Rel K Γ σ H st (p.own v d)) (h : ownA d = true) : Rel K Γ σ H ⟨st.r, st.s ++ [d]⟩ (p.sh v (.loc st.s.length)) := by
  obtain ⟨m, ar, am, ao, ab, R⟩ := R
  obtain ⟨cs, ao', eo, rd, ro'⟩ := R.ro.head
  obtain ⟨a, rfl, ha⟩ := own_ref rd h
  subst eo
  have nd := R.nd
  have fr := R.fr
  have hl := R.rm.len
  rw [List.length_map] at hl
  have hm : ∀ (l : Nat) b, m[l]? = some b → (m ++ [a])[l]? = some b := fun l b e => by
    rw [List.getElem?_append_left (List.getElem?_eq_some_iff.mp e).1]; exact e
  have t : Tr H H (wOf Γ ar am (cs ++ ao')) (wOf Γ ar (am ++ cs) ao') m (m ++ [a]) [] := ⟨Kp.refl, (fun _ z => nomatch z), fun b _ n z => n (by
    simp only [wOf, List.mem_append] at z ⊢
    grind), hm⟩
  refine ⟨m ++ [a], ar, am ++ cs, ao', ab, t.rs R.rs (fun _ _ z => nomatch z), ?_, ?_, t.rp ro' (fun _ _ z => nomatch z), t.rp R.rb (fun _ _ z => nomatch z), ?_, ?_, R.kp, fun l b e => hm l b (R.pm l b e), R.gu, R.tb⟩
  · rw [List.map_append]
    exact (t.rp R.rm (fun _ _ z => nomatch z)).app (t.rp rd (fun _ _ z => nomatch z))
  · refine Rp.cons0 (.loc ?_ .nil) (t.rp0 R.ri)
    rw [← hl, List.getElem?_append_right (Nat.le_refl _)]
    simp
  · have e : wOf Γ ar (am ++ cs) ao' = wOf Γ ar am (cs ++ ao') := by simp [wOf, List.append_assoc]
    rw [e]
    exact nd
  · intro c hc
    have := fr c
    simp only [List.mem_append] at this hc
    grind
/-- an object's own thing is written: it may take over what is pending -/
theorem Rl.wrG {cs ao' : List Addr} {ov' : List V} {ox' : List AV} {l : Nat} (R : Rl K Γ σ H st p m ar am ao ab) (e : st.s[l]? = some z) (ro' : Rp K H (wOf Γ ar am ao) m ov' ox' ao') (eo : ao = cs ++ ao') : ∃ a b, m[l]? = some a ∧ Rp K H (wOf Γ ar am ao) m [.ref a] [z] b ∧ (b ++ cs).Nodup ∧
    ∀ {q : Addr} {o u : HO} {z' : AV} {b' : List Addr}, q ∈ b → H q = some u → mutO u = true → NoTbl o → (∀ c ∈ b', c ∈ b ∨ c ∈ cs) → b'.Nodup → (∀ {H' : Hp} {W' : List Addr}, Tr H H' (wOf Γ ar am ao) W' m m [q] → H' q = some o → Rp K H' W' m [.ref a] [z'] b') →
      Rel K Γ σ (upd H q o) ⟨st.r, st.s.set l z'⟩ { p.nob with ov := ov', ox := ox' } := by
  obtain ⟨v, a1, b, a2, ev, ea, r1, rv, r3⟩ := R.rm.at_ e
  rw [List.getElem?_map] at ev
  obtain ⟨a, em, rfl⟩ := Option.map_eq_some_iff.mp ev
  have nd := R.nd
  have fr := R.fr
  refine ⟨a, b, em, rv, ?_, ?_⟩
  · simp only [wOf, ea, eo, List.nodup_append, List.mem_append] at nd ⊢
    grind
  intro q o u z' b' hq hu hm no pm pnd hr
  have hqw : q ∈ wOf Γ ar am ao := by simp only [wOf, ea, List.mem_append]; grind
  have t : Tr H (upd H q o) (wOf Γ ar am ao) (wOf Γ ar (a1 ++ (b' ++ a2)) ao') m m [q] := Tr.put hu hm hqw fun c z => by
    have := pm c
    simp only [wOf, ea, eo, List.mem_append] at z ⊢
    grind
  have n0 : ∀ c ∈ ar, c ∉ [q] := fun c hc z => by
    simp only [wOf, ea, List.nodup_append, List.mem_append, List.mem_singleton] at nd z
    grind
  have n1 : ∀ c ∈ a1, c ∉ [q] := fun c hc z => by
    simp only [wOf, ea, List.nodup_append, List.mem_append, List.mem_singleton] at nd z
    grind
  have n2 : ∀ c ∈ a2, c ∉ [q] := fun c hc z => by
    simp only [wOf, ea, List.nodup_append, List.mem_append, List.mem_singleton] at nd z
    grind
  have n3 : ∀ c ∈ ao', c ∉ [q] := fun c hc z => by
    simp only [wOf, ea, eo, List.nodup_append, List.mem_append, List.mem_singleton] at nd z
    grind
  have hl : l < st.s.length := (List.getElem?_eq_some_iff.mp e).1
  have rm' : Rp K (upd H q o) (wOf Γ ar (a1 ++ (b' ++ a2)) ao') m (m.map V.ref) (st.s.set l z') (a1 ++ (b' ++ a2)) := by
    have h1 := Rp.put (v := .ref a) (x := z') hl (t.rp r1 n1) (hr t upd_same) (t.rp r3 n2) R.rm.len
    have e2 : (m.map V.ref).set l (.ref a) = m.map V.ref := by
      apply List.ext_getElem?
      intro j
      by_cases c : l = j
      · subst c
        rw [List.getElem?_set_self (by rw [R.rm.len]; exact hl), List.getElem?_map, em]
        rfl
      · rw [List.getElem?_set_ne c]
    rw [e2] at h1
    exact h1
  refine ⟨m, ar, a1 ++ (b' ++ a2), ao', [], t.rs R.rs n0, rm', t.rp0 R.ri, t.rp ro' n3, .nil, ?_, ?_, ?_, R.pm, R.gu, tabs_put R.tb hu hm no⟩
  · simp only [wOf, ea, eo, List.nodup_append, List.mem_append] at nd ⊢
    grind
  · intro c hc
    have h1 := fr c
    have h2 := pm c
    simp only [ea, eo, List.mem_append] at hc h1
    grind
  · intro a' o' e' n'
    obtain ⟨o2, e2, f2⟩ := R.kp a' o' e' n'
    have ne : a' ≠ q := by
      rintro rfl
      rcases fr a' (by simp only [ea, List.mem_append]; grind) with z | z
      · exact n' z
      · rw [e'] at z; cases z
    exact ⟨o2, by rw [upd_ne ne]; exact e2, f2⟩
/-! ### places: an object, or a field of it -/
def setFA : List Str → List AV → Str → AV → List AV
  | k :: ks, x :: xs, f, d => if k = f then d :: xs else x :: setFA ks xs f d
  | _, xs, _, _ => xs
theorem lensF {f : Str} : ∀ {fs : List (Str × V)} {ys : List AV} {bs : List Addr}, Rp K H W m (fs.map (·.2)) ys bs → getF (fs.map (·.1)) ys f = some x → ∃ u b1 b2 b3, fs.lookup f = some u ∧ bs = b1 ++ (b2 ++ b3) ∧ Rp K H W m [u] [x] b2 ∧
    ∀ {H' : Hp} {W' m' b2' : List Addr} {x' : AV}, (∀ {vs : List V} {xs : List AV} {as : List Addr}, Rp K H W m vs xs as → (∀ c ∈ as, c ∈ b1 ∨ c ∈ b3) → Rp K H' W' m' vs xs as) → Rp K H' W' m' [u] [x'] b2' → Rp K H' W' m' (fs.map (·.2)) (setFA (fs.map (·.1)) ys f x') (b1 ++ (b2' ++ b3))
  | [], ys, bs, r, e => by cases ys <;> cases e
  | (k', v) :: fs, [], bs, r, e => by cases e
  | (k', v) :: fs, z :: ys, bs, r, e => by
    obtain ⟨c1, c2, ea, r1, r2⟩ := Rp.head (show Rp K H W m (v :: fs.map (·.2)) (z :: ys) bs from r)
    have e2 : (if k' = f then some z else getF (fs.map (·.1)) ys f) = some x := e
    by_cases c : k' = f
    · rw [if_pos c] at e2
      cases e2
      refine ⟨v, [], c1, c2, ?_, by simpa using ea, r1, fun {H' W' m' b2' x'} tr rx => ?_⟩
      · rw [List.lookup_cons, c, beq_self_eq_true]
      · show Rp K H' W' m' (v :: fs.map (·.2)) (if k' = f then x' :: ys else _) ([] ++ (b2' ++ c2))
        rw [if_pos c]
        exact rx.cons (tr r2 fun c hc => .inr hc)
    · rw [if_neg c] at e2
      obtain ⟨u, b1, b2, b3, hl, eb, ru, g⟩ := lensF r2 e2
      refine ⟨u, c1 ++ b1, b2, b3, ?_, by rw [ea, eb, List.append_assoc], ru, fun {H' W' m' b2' x'} tr rx => ?_⟩
      · rw [List.lookup_cons, beq_eq_false_iff_ne.mpr (fun z => c z.symm)]
        exact hl
      · show Rp K H' W' m' (v :: fs.map (·.2)) (if k' = f then x' :: ys else z :: setFA (fs.map (·.1)) ys f x') ((c1 ++ b1) ++ (b2' ++ b3))
        rw [if_neg c, List.append_assoc]
        exact (tr r1 fun c hc => .inl (by simp [hc])).cons (g (fun q hq => tr q fun c hc => by
          have := hq c hc
          simp only [List.mem_append]
          grind) rx)
/-- a place -/
def getPl (S : List AV) (l : Nat) : Option (Str × Str) → Option AV
  | none => S[l]?
  | some (C, f) => ((S[l]?).bind insOf).bind fun t => if t.1 = C then getF t.2.1 t.2.2 f else none
def setPl (S : List AV) (l : Nat) (fo : Option (Str × Str)) (d : AV) : List AV := match fo with
  | none => S.set l d
  | some (_, f) => match (S[l]?).bind insOf with
    | some (C, ks, ys) => S.set l (.ins C ks (setFA ks ys f d))
    | none => S
/-- where a place stands -/
def AtPl (K : PySem.W.Frag) (H : Hp) (m : List Addr) (l : Nat) (a : Addr) : Option (Str × Str) → Prop
  | none => m[l]? = some a
  | some (C, f) => ∃ a0 dx fs, m[l]? = some a0 ∧ H a0 = some (.ins (He.ga K C) dx fs) ∧ fs.lookup f = some (.ref a)
theorem Rl.place {cs ao' : List Addr} {ov' : List V} {ox' : List AV} {l : Nat} {fo : Option (Str × Str)} (R : Rl K Γ σ H st p m ar am ao ab) (e : getPl st.s l fo = some z) (hz : ownA z = true) (ro' : Rp K H (wOf Γ ar am ao) m ov' ox' ao') (eo : ao = cs ++ ao') : ∃ a b, AtPl K H m l a fo ∧ Rp K H (wOf Γ ar am ao) m [.ref a] [z] b ∧ a ∈ b ∧ (b ++ cs).Nodup ∧
    ∀ {o u : HO} {z' : AV} {b' : List Addr}, H a = some u → mutO u = true → NoTbl o → (∀ c ∈ b', c ∈ b ∨ c ∈ cs) → b'.Nodup → (∀ {H' : Hp} {W' : List Addr}, Tr H H' (wOf Γ ar am ao) W' m m [a] → H' a = some o → Rp K H' W' m [.ref a] [z'] b') →
      Rel K Γ σ (upd H a o) ⟨st.r, setPl st.s l fo z'⟩ { p.nob with ov := ov', ox := ox' } := by
  cases fo with
  | none =>
    obtain ⟨a, b, em, rv, nd, f⟩ := R.wrG (cs := cs) (ao' := ao') e ro' eo
    obtain ⟨a', e', hin⟩ := own_ref rv hz
    cases e'
    exact ⟨a, b, em, rv, hin, nd, fun {o u z' b'} hu hm no pm pnd hr => f hin hu hm no pm pnd hr⟩
  | some cf =>
    obtain ⟨C, f⟩ := cf
    obtain ⟨⟨C', ks, ys⟩, e1, e2⟩ := Option.bind_eq_some_iff.mp e
    obtain ⟨t, et, ei⟩ := Option.bind_eq_some_iff.mp e1
    have e3 : (if C' = C then getF ks ys f else none) = some z := e2
    by_cases c : C' = C
    · subst c
      rw [if_pos rfl] at e3
      cases t with
      | ins C2 k2 y2 =>
        cases ei
        obtain ⟨a0, b0, em, rv, nd, g⟩ := R.wrG (cs := cs) (ao' := ao') et ro' eo
        cases rv with
        | @ins _ _ dx fs _ _ bs _ _ as0 hs ek q r0 =>
          obtain ⟨_, rfl⟩ := r0.nil_inv
          subst ek
          obtain ⟨u, b1, b2, b3, hl, eb, ru, gl⟩ := lensF q e3
          obtain ⟨a, rfl, hin⟩ := own_ref ru hz
          subst eb
          have ndb : (b1 ++ (b2 ++ b3)).Nodup ∧ a0 ∉ b1 ++ (b2 ++ b3) := by
            simp only [List.nodup_append, List.nodup_cons, List.mem_append, List.append_nil, List.cons_append] at nd ⊢
            grind
          refine ⟨a, b2, ⟨a0, dx, fs, em, hs, hl⟩, ru, hin, ?_, fun {o u z' b'} hu hm no pm pnd hr => ?_⟩
          · simp only [List.nodup_append, List.nodup_cons, List.mem_append, List.append_nil, List.cons_append] at nd ⊢
            grind
          · have es : setPl st.s l (some (C', f)) z' = st.s.set l (.ins C' (fs.map (·.1)) (setFA (fs.map (·.1)) ys f z')) := by
              unfold setPl
              rw [et]
              rfl
            rw [es]
            have na : a ≠ a0 := fun z => ndb.2 (by subst z; simp [hin])
            refine g (q := a) (b' := a0 :: (b1 ++ (b' ++ b3))) (by simp [hin]) hu hm no (fun c hc => ?_) ?_ (fun {H' W'} t hq => ?_)
            · have := pm c
              simp only [List.mem_cons, List.mem_append, List.append_nil] at hc ⊢
              grind
            · simp only [List.nodup_append, List.nodup_cons, List.mem_append, List.mem_cons, List.append_nil, List.cons_append] at nd pm pnd ⊢
              grind
            · have hs' : H' a0 = some (.ins (He.ga K C') dx fs) := t.k.keep a0 _ hs (by simp [Ne.symm na]) (fun ps z => by cases z)
              have q' := gl (H' := H') (W' := W') (m' := m) (x' := z') (fun rr hrr => t.rp rr fun c hc z => by
                have z1 : c = a := by simpa using z
                subst z1
                have z2 := hrr c hc
                have z3 := ndb.1
                simp only [List.nodup_append, List.mem_append] at z3
                grind) (hr t hq)
              have h1 := Rp.ins (K := K) (m := m) (W := W') (vs := []) (xs := []) (as := []) hs' rfl q' .nil
              simpa using h1
      | _ => cases ei
    · rw [if_neg c] at e3
      cases e3
end
end Fk
/-! ## stores at places -/
namespace Fk
open PySem PySem.Spec PyProof.Rows L2
/-- a thing with a value put at a place of it; w: the value is an owned one -/
def setZ : Bool → AV → AV → AV → Option AV
  | false, .lst true xs, y, d => (setIx xs y d).map (AV.lst true)
  | false, .dct true ks xs, y, d => (keyA y).bind fun k => if ks.length < 16777216 then some (.dct true (putKA ks xs k d).1 (putKA ks xs k d).2) else none
  | true, .nst xs, y, d => (setIx xs y d).map AV.nst
  | _, _, _, _ => none
def isD : AV → Bool
  | .dct _ _ _ => true
  | _ => false
theorem setZ_own {w : Bool} {z y d z' : AV} (h : setZ w z y d = some z') : ownA z = true := by
  unfold setZ at h
  split at h
  · rfl
  · rfl
  · rfl
  · cases h
section
variable {K : PySem.W.Frag} {H : Hp} {W m as : List Addr} {v vy : V} {x y d z z' : AV} {Γ : Gam} {σ : L2.St} {st : Ss} {p : Pd} {ar am ao ab : List Addr}
theorem setIx_inv {xs ys : List AV} (r : Rp K H W m [vy] [y] as) (h : setIx xs y d = some ys) : ∃ k j, vy = .int k ∧ ixN xs.length k = some j ∧ j < xs.length ∧ ys = xs.set j d := by
  obtain ⟨k, ek, h⟩ := Option.bind_eq_some_iff.mp h
  obtain ⟨j, ej, rfl⟩ := Option.map_eq_some_iff.mp h
  cases y with
  | int k' =>
    cases ek
    exact ⟨k, j, r.int_i, ej, (ixN_seq ej).2.1, rfl⟩
  | _ => cases ek
theorem Rl.store {cs ao' c1 : List Addr} {ov' : List V} {ox' : List AV} {l : Nat} {fo : Option (Str × Str)} {w : Bool} (R : Rl K Γ σ H st p m ar am ao ab) (e : getPl st.s l fo = some z) (rd : Rp K H (wOf Γ ar am ao) m [v] [d] cs) (hw : w = false → cs = []) (ro' : Rp K H (wOf Γ ar am ao) m ov' ox' ao') (eo : ao = cs ++ ao')
    (ry : Rp K H (wOf Γ ar am ao) m [vy] [y] c1) (es : setZ w z y d = some z') : ∃ a o, AtPl K H m l a fo ∧ Rel K Γ σ (upd H a o) ⟨st.r, setPl st.s l fo z'⟩ { p.nob with ov := ov', ox := ox' } ∧
      ((isD z = false ∧ ∃ us k j, vy = .int k ∧ H a = some (.lst us) ∧ ixN us.length k = some j ∧ o = .lst (us.set j v)) ∨ (isD z = true ∧ DPut H a vy v (upd H a o))) := by
  obtain ⟨a, b, hat, rz, hin, nd, f⟩ := R.place (cs := cs) (ao' := ao') e (setZ_own es) ro' eo
  unfold setZ at es
  split at es
  · obtain ⟨ys, e1, rfl⟩ := Option.map_eq_some_iff.mp es
    obtain ⟨k, j, rfl, ej, hj, rfl⟩ := setIx_inv ry e1
    obtain rfl := hw rfl
    cases rz with
    | @lsO _ us _ _ _ as0 hs q r0 =>
      obtain ⟨_, rfl⟩ := r0.nil_inv
      refine ⟨a, .lst (us.set j v), hat, f (b' := [a]) hs rfl (fun _ z => by cases z) (fun c hc => .inl hc) (by simp) (fun {H' W'} t h1 => ?_), .inl ⟨rfl, us, k, j, rfl, hs, by rw [q.len]; exact ej, rfl⟩⟩
      obtain ⟨xj, exj⟩ : ∃ xj, ‹List AV›[j]? = some xj := ⟨_, List.getElem?_eq_getElem hj⟩
      obtain ⟨u, b1, b2, b3, eu, ea', r1, r2, r3⟩ := q.at_ exj
      obtain ⟨z1, z2⟩ := List.append_eq_nil_iff.mp ea'.symm
      obtain ⟨z3, z4⟩ := List.append_eq_nil_iff.mp z2
      subst z1 z3 z4
      exact .lsO h1 (t.rp0 (Rp.put hj r1 rd r3 q.len)) .nil
  · rename_i ks xs
    obtain ⟨k, ek, e1⟩ := Option.bind_eq_some_iff.mp es
    split at e1
    · cases e1
      rename_i cz
      obtain rfl := hw rfl
      cases rz with
      | @dcO _ kvs _ _ _ _ as0 hs ek3 q r0 =>
        obtain ⟨_, rfl⟩ := r0.nil_inv
        subst ek3
        obtain ⟨p1, p2⟩ := putK_v (k := k) q rd
        refine ⟨a, .dK (putK kvs k v), hat, f (b' := [a]) hs rfl (fun _ z => by cases z) (fun c hc => .inl hc) (by simp) (fun {H' W'} t h1 => ?_), .inr ⟨rfl, ?_⟩⟩
        · exact .dcO h1 p1 (t.rp0 p2) .nil
        · rw [keyA_v ry ek]
          exact DPut.k hs (by rw [mx_eq]; simpa using cz)
    · cases e1
  · obtain ⟨ys, e1, rfl⟩ := Option.map_eq_some_iff.mp es
    obtain ⟨k, j, rfl, ej, hj, rfl⟩ := setIx_inv ry e1
    cases rz with
    | @nst _ us _ bs _ _ as0 hs q r0 =>
      obtain ⟨_, rfl⟩ := r0.nil_inv
      rw [List.append_nil] at nd hin f
      obtain ⟨xj, exj⟩ : ∃ xj, ‹List AV›[j]? = some xj := ⟨_, List.getElem?_eq_getElem hj⟩
      obtain ⟨u, b1, b2, b3, eu, ea', r1, r2, r3⟩ := q.at_ exj
      subst ea'
      refine ⟨a, .lst (us.set j v), hat, f (b' := a :: (b1 ++ (cs ++ b3))) hs rfl (fun _ z => by cases z) (fun c hc => ?_) ?_ (fun {H' W'} t h1 => ?_), .inl ⟨rfl, us, k, j, rfl, hs, by rw [q.len]; exact ej, rfl⟩⟩
      · simp only [List.mem_cons, List.mem_append] at hc ⊢
        grind
      · simp only [List.nodup_append, List.nodup_cons, List.mem_append, List.mem_cons, List.cons_append] at nd ⊢
        grind
      · have n1 : ∀ c ∈ b1, c ∉ [a] := fun c hc z => by
          simp only [List.nodup_append, List.nodup_cons, List.mem_append, List.mem_cons, List.cons_append, List.mem_singleton] at nd z
          grind
        have n2 : ∀ c ∈ b3, c ∉ [a] := fun c hc z => by
          simp only [List.nodup_append, List.nodup_cons, List.mem_append, List.mem_cons, List.cons_append, List.mem_singleton] at nd z
          grind
        have n3 : ∀ c ∈ cs, c ∉ [a] := fun c hc z => by
          simp only [List.nodup_append, List.nodup_cons, List.mem_append, List.mem_cons, List.cons_append, List.mem_singleton] at nd z
          grind
        have h2 := Rp.nst (K := K) (m := m) (W := W') (vs := []) (xs := []) (as := []) h1 (Rp.put hj (t.rp r1 n1) (t.rp rd n3) (t.rp r3 n2) q.len) .nil
        simpa using h2
  · cases es
end
/-- the place that an expression names: an object (fo none) or a field of one -/
def AtH (K : PySem.W.Frag) (H : Hp) (a0 a : Addr) : Option (Str × Str) → Prop
  | none => a = a0
  | some (C, f) => ∃ dx fs, H a0 = some (.ins (He.ga K C) dx fs) ∧ fs.lookup f = some (.ref a)
def rdB (K : PySem.W.Frag) (Γ : Gam) (mo : Ss → Option AV) (fo : Option (Str × Str)) : TE := fun σ H Q => ∃ st p l z, Rel K Γ σ H st p ∧ mo st = some (.loc l) ∧ getPl st.s l fo = some z ∧ ownA z = true ∧ ∀ a a0, Rel K Γ σ H st (p.lk (.ref a0) (.loc l)) → AtH K H a0 a fo → Q (.ref a) H
section
variable {X : Cx} {Γ : Gam} {W : WX} {σ : L2.St} {H : Hp} {st : Ss} {p : Pd} {K : PySem.W.Frag} {pos apos cpos : Pos} {o o' : Expr} {x : Str} {i : Nat} {C f : Str} {fs : List Str} {mo mk : Ss → Option AV}
theorem at_of {m : List Addr} {l : Nat} {a a' a0 : Addr} {fo : Option (Str × Str)} (h : AtH K H a0 a fo) (h2 : AtPl K H m l a' fo) (e : m[l]? = some a0) : a' = a := by
  cases fo with
  | none =>
    have e2 : m[l]? = some a' := h2
    rw [e] at e2
    cases e2
    exact h.symm
  | some cf =>
    obtain ⟨C, f⟩ := cf
    obtain ⟨dx, gs, h1, hl⟩ := h
    obtain ⟨b0, dx', gs', e2, h1', hl'⟩ := h2
    rw [e] at e2
    cases e2
    rw [h1] at h1'
    cases h1'
    rw [hl] at hl'
    cases hl'
    rfl
theorem s_b0 (h : PE X o (rdP X.K Γ mo)) : PE X o (rdB X.K Γ mo none) := by
  refine pe_imp h fun σ H Q h => ?_
  obtain ⟨st, p, l, z, R, e, _, _, h⟩ := h
  refine ⟨st, p, .loc l, R, e, fun v R1 => ?_⟩
  obtain ⟨m, ar, am, ao, ab, R2⟩ := id R1
  obtain ⟨c1, c2, _, rx, r2⟩ := R2.rb.head
  obtain ⟨a, rfl, em⟩ := rx.loc_i
  exact h a a R1 rfl
/-- place[y] = value -/
def sSetP (w : Bool) (fo : Option (Str × Str)) (mo mk : Ss → Option AV) (mv : M AV) : M Fl := fun st => (mv st).bind fun d s1 => match (mo s1).bind locOf with
  | some l => (match mk s1 with
    | some y => (match (getPl s1.s l fo).bind fun z => setZ w z y d with
      | some z' => .ok .nx ⟨s1.r, setPl s1.s l fo z'⟩
      | none => .bad)
    | none => .bad)
  | none => .bad
def rdW (w : Bool) (K : PySem.W.Frag) (Γ : Gam) (W : WX) (m : M AV) : TE := match w with
  | false => rdE K Γ W m
  | true => rdO K Γ W m
theorem s_setP {w : Bool} {fo : Option (Str × Str)} {ek ev : Expr} {mv : M AV} {pos' : Pos} (hu : X.A.units + 1 < cLine) (ho : PE X o (rdB X.K Γ mo fo)) (hk : PE X ek (rdP X.K Γ mk)) (hv : PE X ev (rdW w X.K Γ W mv))
    (hsw : swapsWith ev (some (.Subscript o ek pos')) pos.line X.env = pure false := by rfl)
    (hs1 : swapsWithSole [.Subscript o ek pos'] ev pos.line X.env = pure false := by rfl) (hw1 : swappedStores [.Subscript o ek pos'] ev X.env = pure none := by rfl)
    (ha : ∀ v, assign (.Subscript o ek pos') X.env v = (do
      let ov ← holding [v] (eval o X.env)
      let iv ← holding [v, ov] (eval ek X.env)
      standAt pos'
      holding [v, ov, iv] (setItem ov iv v)
      release [v, ov, iv] []) := by intro _; rfl) : PS X (.Assign [.Subscript o ek pos'] ev pos) (rdS X.K Γ W (sSetP w fo mo mk mv)) := by
  have h1 : PS X (.Assign [.Subscript o ek pos'] ev pos) (tAsg (rdW w X.K Γ W mv) (gSub (rdB X.K Γ mo fo) (rdP X.K Γ mk) rSetL)) := ps_asg hv (pg_sub ho hk set_list ha) hs1 hw1
  have h2 : PS X (.Assign [.Subscript o ek pos'] ev pos) (sDPut (rdB X.K Γ mo fo) (rdP X.K Γ mk) (rdW w X.K Γ W mv)) := ps_dput hu ho hk hv hsw
  refine ps_imp (ps_or h1 h2) fun D σ H h => ?_
  obtain ⟨st, p, R, hp, h⟩ := h
  unfold sSetP at h
  have main : ∀ (k : V → V → V → Hp → Prop), (∀ d s1 l y z z', mv st = .ok d s1 → mo s1 = some (.loc l) → mk s1 = some y → getPl s1.s l fo = some z → setZ w z y d = some z' → ∀ v a vy H1 o, Rel X.K Γ σ (upd H1 a o) ⟨s1.r, setPl s1.s l fo z'⟩ p →
        ((isD z = false ∧ ∃ us k j, vy = .int k ∧ H1 a = some (.lst us) ∧ ixN us.length k = some j ∧ o = .lst (us.set j v)) ∨ (isD z = true ∧ DPut H1 a vy v (upd H1 a o))) → k v (.ref a) vy H1) →
      rdW w X.K Γ W mv σ H fun v H1 => rdB X.K Γ mo fo σ H1 fun o H2 => rdP X.K Γ mk σ H2 fun y H3 => k v o y H3 := by
    intro k hk'
    have fin : ∀ d s1, mv st = .ok d s1 → ∀ v H1 (p1 : Pd), Rel X.K Γ σ H1 s1 p1 → (∀ {m ar am ao ab}, Rl X.K Γ σ H1 s1 p1 m ar am ao ab → ∃ cs ao' ov' ox', Rp X.K H1 (wOf Γ ar am ao) m [v] [d] cs ∧ (w = false → cs = []) ∧ Rp X.K H1 (wOf Γ ar am ao) m ov' ox' ao' ∧ ao = cs ++ ao' ∧ ∃ p2, Rl X.K Γ σ H1 s1 p2 m ar am ao [] ∧ { p2.nob with ov := ov', ox := ox' } = p) →
        rdB X.K Γ mo fo σ H1 fun o H2 => rdP X.K Γ mk σ H2 fun y H3 => k v o y H3 := by
      intro d s1 ea v H1 p1 R1 hR
      rw [ea] at h
      simp only [Res.bind_ok] at h
      cases el : (mo s1).bind locOf with
      | none => simp only [el] at h
      | some l =>
        simp only [el] at h
        cases ek' : mk s1 with
        | none => simp only [ek'] at h
        | some y =>
          simp only [ek'] at h
          cases ez : (getPl s1.s l fo).bind fun z => setZ w z y d with
          | none => simp only [ez] at h
          | some z' =>
            obtain ⟨z, e1, e2⟩ := Option.bind_eq_some_iff.mp ez
            obtain ⟨x, ex, exl⟩ := Option.bind_eq_some_iff.mp el
            have exl' : x = .loc l := by
              cases x with
              | loc l' => cases exl; rfl
              | _ => cases exl
            subst exl'
            refine ⟨s1, p1, l, z, R1, ex, e1, setZ_own e2, fun a a0 R2 hat => ⟨s1, _, y, R2, ek', fun vy R3 => ?_⟩⟩
            obtain ⟨m, ar, am, ao, ab, R4⟩ := R3
            obtain ⟨c1, c2, _, ry, r2⟩ := R4.rb.head
            obtain ⟨c3, c4, _, r0, r3⟩ := r2.head
            obtain ⟨a0', ea0, em⟩ := r0.loc_i
            cases ea0
            obtain ⟨cs, ao', ov', ox', rd, hcs, ro', eo, p2, R5, hp2⟩ := hR (ab := c4) (R4.setB r3)
            obtain ⟨a', o, hat', R6, hh⟩ := R5.store e1 rd hcs ro' eo ry e2
            obtain rfl := at_of hat hat' em
            rw [hp2] at R6
            exact hk' d s1 l y z z' ea ex ek' e1 e2 v a' vy H1 o R6 hh
    cases w with
    | false =>
      refine ⟨st, p, R, ?_⟩
      cases ea : mv st with
      | bad => rw [ea] at h; exact h
      | err c s1 => rw [ea] at h; exact fun H' R' => h σ H' (hp ▸ R')
      | ok d s1 =>
        intro v H1 R1
        refine fin d s1 ea v H1 _ R1 fun {m ar am ao ab} R2 => ⟨[], ao, p.ov, p.ox, R2.ri.head0.1, fun _ => rfl, R2.ro, rfl, p, ?_, ?_⟩
        · exact hp ▸ (R2.nob.setI (p := (p.nob.sh v d).nob) R2.ri.head0.2)
        · rw [hp]
    | true =>
      refine ⟨st, p, R, ?_⟩
      cases ea : mv st with
      | bad => rw [ea] at h; exact h
      | err c s1 => rw [ea] at h; exact fun H' R' => h σ H' (hp ▸ R')
      | ok d s1 =>
        intro v H1 R1
        refine fin d s1 ea v H1 _ R1 fun {m ar am ao ab} R2 => ?_
        obtain ⟨cs, ao', eo, rd, ro'⟩ := R2.ro.head
        exact ⟨cs, ao', p.ov, p.ox, rd, fun z => (nomatch z), ro', eo, _, R2.nob, hp⟩
  cases ea : mv st with
  | bad => rw [ea] at h; exact h.elim
  | err c s1 =>
    refine .inl (main _ fun d s1 l y z z' e1 => ?_)
    rw [ea] at e1; cases e1
  | ok d s1 =>
    rw [ea] at h
    simp only [Res.bind_ok] at h
    cases el : (mo s1).bind locOf with
    | none => simp only [el] at h
    | some l =>
      simp only [el] at h
      cases ek' : mk s1 with
      | none => simp only [ek'] at h
      | some y =>
        simp only [ek'] at h
        cases ez : (getPl s1.s l fo).bind fun z => setZ w z y d with
        | none => simp only [ez] at h
        | some z' =>
          simp only [ez] at h
          obtain ⟨z, e1, e2⟩ := Option.bind_eq_some_iff.mp ez
          obtain ⟨x, ex, exl⟩ := Option.bind_eq_some_iff.mp el
          have exl' : x = .loc l := by
            cases x with
            | loc l' => cases exl; rfl
            | _ => cases exl
          subst exl'
          cases hD : isD z with
          | false =>
            refine .inl (main _ fun d' s1' l' y' z2 z2' c1 c2 c3 c4 c5 v a vy H1 o R6 hh => ?_)
            rw [ea] at c1; cases c1
            rw [ex] at c2; cases c2
            rw [ek'] at c3; cases c3
            rw [e1] at c4; cases c4
            rw [e2] at c5; cases c5
            rcases hh with ⟨_, us, k, j, rfl, hs, hj, rfl⟩ | ⟨hq, _⟩
            · exact ⟨a, us, k, j, rfl, rfl, hs, hj, h σ _ R6⟩
            · rw [hD] at hq; cases hq
          | true =>
            refine .inr (main (fun v o y H3 => ∃ a H4, o = .ref a ∧ DPut H3 a y v H4 ∧ D.nx σ H4) fun d' s1' l' y' z2 z2' c1 c2 c3 c4 c5 v a vy H1 o R6 hh => ?_)
            rw [ea] at c1; cases c1
            rw [ex] at c2; cases c2
            rw [ek'] at c3; cases c3
            rw [e1] at c4; cases c4
            rw [e2] at c5; cases c5
            rcases hh with ⟨hq, _⟩ | ⟨_, hq⟩
            · rw [hD] at hq; cases hq
            · exact ⟨a, _, rfl, hq, h σ _ R6⟩
end
end Fk
/-! ## augmented stores, methods, making, several names at once -/
namespace Fk
open PySem PySem.Spec PyProof.Rows L2
section
variable {X : Cx} {Γ : Gam} {W : WX} {σ : L2.St} {H : Hp} {st : Ss} {p : Pd} {K : PySem.W.Frag} {pos apos cpos : Pos} {o o' e : Expr} {es : List Expr} {x : Str} {i : Nat} {C f : Str} {fs : List Str} {mo mk : Ss → Option AV}
/-! ### name += e -/
def sAug (i : Nat) (m : M AV) : M Fl := fun st => match getSl st.r i with
  | .im (.int a) => (m st).bind fun d s1 => match d with
    | .int b => .ok .nx ⟨setSl s1.r i (.im (.int (a + b))), s1.s⟩
    | _ => .bad
  | _ => .bad
/-! ### e.f += v -/
def sFAug (C f : Str) (mo mv : M AV) : M Fl := fun st => (mo st).bind fun x s1 => match fldA s1.s C f x with
  | some (.int a) => (mv s1).bind fun d s2 => match d with
    | .int b => (match putFld C f x (.int (a + b)) s2 with
      | some s3 => .ok .nx s3
      | none => .bad)
    | _ => .bad
  | _ => .bad
def augZ (z y d : AV) : Option AV := match z, y, d with
  | .lst true xs, .int k, .int b => (match atI xs k with
    | some (.int a) => setZ false (.lst true xs) (.int k) (.int (a + b))
    | _ => none)
  | _, _, _ => none
def sAugP (fo : Option (Str × Str)) (mo mk me : Ss → Option AV) : M Fl := fun s1 => match (mo s1).bind locOf with
  | some l => (match mk s1, me s1 with
    | some y, some d => (match (getPl s1.s l fo).bind fun z => augZ z y d with
      | some z' => .ok .nx ⟨s1.r, setPl s1.s l fo z'⟩
      | none => .bad)
    | _, _ => .bad)
  | none => .bad
/-! .. of a builder -/
def sAugB (i : Nat) (mk me : Ss → Option AV) : M Fl := fun s1 => match ownL (getSl s1.r i) with
  | some xs => (match mk s1, me s1 with
    | some y, some d => (match augZ (.lst true xs) y d with
      | some (.lst _ ys) => .ok .nx (putL i ys s1)
      | _ => .bad)
    | _, _ => .bad)
  | none => .bad
end
end Fk
/-! ## methods, making, several names at once -/
namespace Fk
open PySem PySem.Spec PyProof.Rows L2
/-! ### an owned value becomes an object -/
def eProm (m : M AV) : M AV := fun st => (m st).bind fun d s1 => bif ownA d then .ok (.loc s1.s.length) ⟨s1.r, s1.s ++ [d]⟩ else .bad
def clsOk (S : List AV) (C nm : Str) (x : AV) : Bool := match (deref S x).bind insOf with
  | some (C', ks, _) => decide (C' = C) && !(ks.any fun k => decide (k = nm))
  | none => false
def eMeth (C nm : Str) (n : Nat) (f : Fn) (ds : List AV) (mo : M AV) (ma : M (List AV)) : M AV := fun st => (mo st).bind fun x s1 => bif clsOk s1.s C nm x then (ma s1).bind fun xs s2 => if 1 + (xs.length + ds.length) = n then back s2.r (f (x :: (xs ++ ds)) s2.s) else .bad else .bad
def mkBack (r : List Sl) (l : Nat) : Res AV (List AV) → Res AV Ss
  | .ok .non S => .ok (.loc l) ⟨r, S⟩
  | .err c S => .err c ⟨r, S⟩
  | _ => .bad
def eMake (C : Str) (n : Nat) (f : Fn) (ds : List AV) (ma : M (List AV)) : M AV := fun st => (ma st).bind fun xs s1 => if 1 + (xs.length + ds.length) = n then mkBack s1.r s1.s.length (f (.loc s1.s.length :: (xs ++ ds)) (s1.s ++ [.ins C [] []])) else .bad
section
variable {X : Cx} {Γ : Gam} {W : WX} {σ : L2.St} {H : Hp} {st : Ss} {p : Pd} {K : PySem.W.Frag} {pos apos cpos q : Pos} {o e : Expr} {es : List Expr} {x : Str} {i k j : Nat} {C nm : Str} {fs : List Str} {ps : List Str} {ds : List AV} {f : Fn} {mo : M AV} {ma : M (List AV)}
theorem s_prom {m : M AV} (h : PE X e (rdO X.K Γ W m)) : PE X e (rdE X.K Γ W (eProm m)) := by
  refine pe_imp h fun σ H Q h => ?_
  obtain ⟨st, p, R, h⟩ := h
  refine ⟨st, p, R, ?_⟩
  unfold eProm at h
  cases ea : m st with
  | bad => rw [ea] at h; exact h
  | err c s1 => rw [ea] at h; exact h
  | ok d s1 =>
    rw [ea] at h
    simp only [Res.bind_ok] at h
    intro v H1 R1
    cases eo : ownA d with
    | false => simp only [eo, cond_false] at h
    | true =>
      simp only [eo, cond_true] at h
      exact h v H1 (R1.prom eo)
end
end Fk
/-! ## lists of owned lists, several names at once, more calls -/
namespace Fk
open PySem PySem.Spec PyProof.Rows L2
def eLn (m : M (List AV)) : M AV := fun st => (m st).bind fun xs s1 => .ok (.nst xs) s1
section
variable {X : Cx} {Γ : Gam} {W : WX} {σ : L2.St} {H : Hp} {st : Ss} {p : Pd} {K : PySem.W.Frag} {pos : Pos}
/-! ### several names at once -/
abbrev Pd.psh (p : Pd) (s : Sl) (v : V) : Pd := match s with
  | .im d => p.sh v d
  | .ow d => p.own v d
  | .no => p
def rdX (K : PySem.W.Frag) (Γ : Gam) (W : WX) (m : M Sl) : TE := fun σ H Q => ∃ st p, Rel K Γ σ H st p ∧ match m st with
  | .ok (.im d) st' => ∀ v H', Rel K Γ σ H' st' (p.nob.sh v d) → Q v H'
  | .ok (.ow d) st' => ∀ v H', Rel K Γ σ H' st' (p.nob.own v d) → Q v H'
  | .ok .no _ => False
  | .err c st' => ∀ H', Rel K Γ σ H' st' p.nob → W (.ref (He.ga K c)) none σ H'
  | .bad => False
def xI (m : M AV) : M Sl := fun st => (m st).bind fun d s1 => .ok (.im d) s1
def xO (m : M AV) : M Sl := fun st => (m st).bind fun d s1 => .ok (.ow d) s1
theorem s_xI {e : Expr} {m : M AV} (h : PE X e (rdE X.K Γ W m)) : PE X e (rdX X.K Γ W (xI m)) := by
  refine pe_imp h fun σ H Q h => ?_
  obtain ⟨st, p, R, h⟩ := h
  refine ⟨st, p, R, ?_⟩
  unfold xI at h
  cases ea : m st with
  | bad => rw [ea] at h; exact h
  | err c s1 => rw [ea] at h; exact h
  | ok d s1 => rw [ea] at h; exact h
theorem Rel.dropO {v : V} {d : AV} (R : Rel K Γ σ H st (p.own v d)) : Rel K Γ σ H st p := by
  obtain ⟨m, ar, am, ao, ab, R⟩ := R
  obtain ⟨b, ao', eo, r1, r2⟩ := R.ro.head
  subst eo
  have nd := R.nd
  have fr := R.fr
  have hw : ∀ c, c ∈ wOf Γ ar am ao' → c ∈ wOf Γ ar am (b ++ ao') := fun c z => by
    simp only [wOf, List.mem_append] at z ⊢
    grind
  have t : Tr H H (wOf Γ ar am (b ++ ao')) (wOf Γ ar am ao') m m [] := Tr.same hw
  refine ⟨m, ar, am, ao', ab, t.rs R.rs (fun _ _ z => nomatch z), t.rp R.rm (fun _ _ z => nomatch z), t.rp0 R.ri, t.rp r2 (fun _ _ z => nomatch z), t.rp R.rb (fun _ _ z => nomatch z), ?_, ?_, R.kp, R.pm, R.gu, R.tb⟩
  · simp only [wOf, List.nodup_append, List.mem_append] at nd ⊢
    grind
  · intro a ha
    have z := fr a
    simp only [List.mem_append] at z ha
    grind
theorem Rel.dropX {v : V} {s : Sl} (R : Rel K Γ σ H st (p.psh s v)) : Rel K Γ σ H st p := by
  cases s with
  | no => exact R
  | im d => exact R.drop
  | ow d => exact R.dropO
def isNo : Sl → Bool
  | .no => true
  | _ => false
theorem Rel.putX {v : V} {s : Sl} {i : Nat} (R : Rel K Γ σ H st (p.psh s v)) (hs : isNo s = false) (hi : i < st.r.length) : Rel K Γ (σ.set i (some v)) H ⟨setSl st.r i s, st.s⟩ p := by
  cases s with
  | no => cases hs
  | im d => exact R.put i
  | ow d => exact R.putO i hi
theorem rdX_in {ma : M Sl} {Q : VK} {R : Rel K Γ σ H st p} (h : match ma st with
  | .ok s st' => isNo s = false ∧ ∀ v H', Rel K Γ σ H' st' (p.nob.psh s v) → Q v H'
  | .err c st' => ∀ H', Rel K Γ σ H' st' p.nob → W (.ref (He.ga K c)) none σ H'
  | .bad => False) : rdX K Γ W ma σ H Q := by
  refine ⟨st, p, R, ?_⟩
  cases ea : ma st with
  | bad => rw [ea] at h; exact h
  | err c s1 => rw [ea] at h; exact h
  | ok s s1 =>
    rw [ea] at h
    cases s with
    | no => cases h.1
    | im d => exact h.2
    | ow d => exact h.2
/-- a, b = x, y -/
def sPar (i j : Nat) (ma mb : M Sl) : M Fl := fun st => (ma st).bind fun x s1 => bif isNo x then .bad else (mb s1).bind fun y s2 => bif isNo y then .bad else if i < s2.r.length ∧ j < s2.r.length then .ok .nx ⟨setSl (setSl s2.r j y) i x, s2.s⟩ else .bad
theorem s_par {i j : Nat} {x y : Str} {a b : Expr} {ma mb : M Sl} {px py pt : Pos} {kt k2 pt2} (hc : X.calm = true) (hN : X.N.Nodup) (hi : X.N[i]? = some x) (hj : X.N[j]? = some y) (hij : i ≠ j)
    (hx : X.env.scope.names.lookup x = some .local) (hy : X.env.scope.names.lookup y = some .local) (ha : PE X a (rdX X.K Γ W ma)) (hb : PE X b (rdX X.K Γ W mb))
    (hw : swappedStores [.Tuple [.Name x px, .Name y py] kt pt] (.Tuple [a, b] k2 pt2) X.env = pure (some [x, y]))
    (hs : swapsWithSole [.Tuple [.Name x px, .Name y py] kt pt] (.Tuple [a, b] k2 pt2) pos.line X.env = pure false := by rfl)
    (hs1 : starEach [a, b] X.env = (false, eval a X.env) :: starEach [b] X.env := by rfl) (hs2 : starEach [b] X.env = (false, eval b X.env) :: starEach [] X.env := by rfl) :
    PS X (.Assign [.Tuple [.Name x px, .Name y py] kt pt] (.Tuple [a, b] k2 pt2) pos) (rdS X.K Γ W (sPar i j ma mb)) := by
  refine ps_imp (ps_par hc hN hi hj hij hx hy (pa_cons ha (pa_cons hb pa_nil hs2) hs1) hw hs) fun D σ H h => ?_
  obtain ⟨st, p, R, hp, h⟩ := h
  unfold sPar at h
  refine rdX_in (R := R) ?_
  cases ea : ma st with
  | bad => rw [ea] at h; exact h
  | err c s1 => rw [ea] at h; exact fun H' R' => h σ H' (hp ▸ R')
  | ok s s1 =>
    rw [ea] at h
    simp only [Res.bind_ok] at h
    cases n1 : isNo s with
    | true => simp only [n1, cond_true] at h
    | false =>
      simp only [n1, cond_false] at h
      refine ⟨n1, fun v H1 R1 => rdX_in (R := R1) ?_⟩
      have en : (p.nob.psh s v).nob = p.psh s v := by cases s <;> rw [hp] <;> exact congrArg (fun z : Pd => z) (by first | (show Pd.nob (Pd.sh p v _) = Pd.sh p v _; rw [← hp]) | (show Pd.nob (Pd.own p v _) = Pd.own p v _; rw [← hp]) | exact hp)
      cases eb : mb s1 with
      | bad => rw [eb] at h; exact h
      | err c s2 => rw [eb] at h; exact fun H' R' => h σ H' (Rel.dropX (s := s) (v := v) (en ▸ R'))
      | ok t s2 =>
        rw [eb] at h
        simp only [Res.bind_ok] at h
        cases n2 : isNo t with
        | true => simp only [n2, cond_true] at h
        | false =>
          simp only [n2, cond_false] at h
          refine ⟨n2, fun w' H2 R2 => ⟨v, w', rfl, ?_⟩⟩
          by_cases c : i < s2.r.length ∧ j < s2.r.length
          · rw [if_pos c] at h
            rw [en] at R2
            have R3 := R2.putX n2 c.2
            have R4 := R3.putX (i := i) n1 (by rw [setSl_len]; exact c.1)
            rw [List.set_comm _ _ (Ne.symm hij)] at R4
            exact h _ H2 R4
          · rw [if_neg c] at h
            exact h.elim
/-- a, b, c = x, y, z -/
def sPar3 (i j l : Nat) (ma mb mc : M Sl) : M Fl := fun st => (ma st).bind fun x s1 => bif isNo x then .bad else (mb s1).bind fun y s2 => bif isNo y then .bad else (mc s2).bind fun z s3 => bif isNo z then .bad else if i < s3.r.length ∧ j < s3.r.length ∧ l < s3.r.length then .ok .nx ⟨setSl (setSl (setSl s3.r l z) j y) i x, s3.s⟩ else .bad
/-! ### target = value, by unpacking -/
def sAsgG (t : Tg) (m : M AV) : M Fl := fun st => (m st).bind fun d s1 => match t d s1 with
  | some s2 => .ok .nx s2
  | none => .bad
end
end Fk
/-! ## zip, enumerate, dicts, isinstance of own classes -/
namespace Fk
open PySem PySem.Spec PyProof.Rows L2
def zipL : List AV → List AV → List AV
  | x :: xs, y :: ys => .tup [x, y] :: zipL xs ys
  | _, _ => []
def zipA : List AV → Option (List AV)
  | [.lst _ xs, .lst _ ys] => some (zipL xs ys)
  | [.tup xs, .tup ys] => some (zipL xs ys)
  | _ => none
theorem zipL_get {d : AV} : ∀ {xs ys : List AV} {i : Nat}, (zipL xs ys)[i]? = some d → ∃ x y, xs[i]? = some x ∧ ys[i]? = some y ∧ d = .tup [x, y]
  | [], ys, i, h => by cases i <;> cases h
  | x :: xs, [], i, h => by cases i <;> cases h
  | x :: xs, y :: ys, 0, h => by cases h; exact ⟨x, y, rfl, rfl, rfl⟩
  | x :: xs, y :: ys, i + 1, h => zipL_get (xs := xs) (ys := ys) (i := i) h
theorem zipL_len : ∀ xs ys : List AV, xs.length ≤ (zipL xs ys).length ∨ ys.length ≤ (zipL xs ys).length
  | [], ys => .inl (Nat.zero_le _)
  | x :: xs, [] => .inr (Nat.zero_le _)
  | x :: xs, y :: ys => by
    rcases zipL_len xs ys with h | h
    · exact .inl (Nat.succ_le_succ h)
    · exact .inr (Nat.succ_le_succ h)
section
variable {X : Cx} {Γ : Gam} {W : WX} {σ : L2.St} {H : Hp} {st : Ss} {p : Pd} {K : PySem.W.Frag} {pos q : Pos} {e e2 : Expr} {ma : M (List AV)} {kk : Nat} {elts : List Expr} {tpos : Pos}
theorem s_zip (hg : Gl X "zip") (hm : X.mg "zip" = none) (ha : PA X [e, e2] (rdA X.K Γ W ma)) (hs : starEach [e, e2] X.env = (false, eval e X.env) :: starEach [e2] X.env := by rfl) (hpl : (backTo pos (starEach [e2] X.env)).any (·.1) = false := by rfl) :
    PI X (.Tuple elts kk tpos) (.Call (.Name "zip" q) [e, e2] [] pos) (rdI X.K Γ W (iArg zipA ma)) := by
  refine pi_imp (RZ.pi_zipA hg hm ha hs hpl) fun σ H R h => ?_
  obtain ⟨st, p, R0, h⟩ := h
  refine ⟨st, p, R0, ?_⟩
  unfold iArg at h
  cases ea : ma st with
  | bad => rw [ea] at h; exact h
  | err c s1 => rw [ea] at h; exact h
  | ok xs s1 =>
    rw [ea] at h
    simp only [Res.bind_ok] at h
    intro vs H1 hl R1
    obtain ⟨m, ar, am, ao, ab, R2, r⟩ := Rel.args (p := p.nob) hl R1
    cases e : zipA xs with
    | none => rw [e] at h; exact h.elim
    | some ds =>
      rw [e] at h
      unfold zipA at e
      split at e
      · rename_i o1 xs o2 ys
        cases e
        obtain ⟨v, w', a1, a2, rfl, r1, r2⟩ := r.twoL
        obtain ⟨a, us, rfl, hs1, q1⟩ := r1.lst_i
        obtain ⟨b, us', rfl, hs2, q2⟩ := r2.lst_i
        refine ⟨a, b, us, us', rfl, .inl ⟨SqL.of hs1, SqL.of hs2, h (Itz X.K a b) H1 [.ref a, .ref b] [(.lst o1 xs), (.lst o2 ys)] rfl R1 ⟨fun i d σ H st ov ox e R3 => ?_, fun σ H st ov ox R3 => ?_⟩⟩⟩
        · obtain ⟨m3, ar3, am3, ao3, ab3, R4⟩ := id R3
          have q3 : Rp X.K H (wOf Γ ar3 am3 ao3) m3 (.ref a :: .ref b :: p.iv) (.lst o1 xs :: .lst o2 ys :: p.ix) [] := R4.ri
          obtain ⟨a', us3, e3, hs3, p3⟩ := q3.head0.1.lst_i
          obtain ⟨b', us4, e4, hs4, p4⟩ := q3.head0.2.head0.1.lst_i
          cases e3; cases e4
          obtain ⟨x, y, ex, ey, rfl⟩ := zipL_get e
          obtain ⟨u, eu, ru⟩ := p3.get0 ex
          obtain ⟨u', eu', ru'⟩ := p4.get0 ey
          refine ⟨⟨us3, us4, u, u', SqL.of hs3, SqL.of hs4, eu, eu'⟩, fun z H' yl => ?_⟩
          obtain ⟨T, x2, y2, rfl, hT, rfl, f1, f2⟩ := yl
          have z1 := f1 us3 (SqL.of hs3)
          have z2 := f2 us4 (SqL.of hs4)
          rw [eu] at z1
          rw [eu'] at z2
          cases z1; cases z2
          exact (R4.tup hT (ru.cons0 ru')).rel
        · obtain ⟨m3, ar3, am3, ao3, ab3, R4⟩ := id R3
          have q3 : Rp X.K H (wOf Γ ar3 am3 ao3) m3 (.ref a :: .ref b :: p.iv) (.lst o1 xs :: .lst o2 ys :: p.ix) [] := R4.ri
          obtain ⟨a', us3, e3, hs3, p3⟩ := q3.head0.1.lst_i
          obtain ⟨b', us4, e4, hs4, p4⟩ := q3.head0.2.head0.1.lst_i
          cases e3; cases e4
          exact ⟨us3, us4, SqL.of hs3, SqL.of hs4, by rw [p3.len, p4.len]; exact zipL_len xs ys⟩
      · rename_i xs ys
        cases e
        obtain ⟨v, w', a1, a2, rfl, r1, r2⟩ := r.twoL
        obtain ⟨a, us, rfl, hs1, q1⟩ := r1.tup_i
        obtain ⟨b, us', rfl, hs2, q2⟩ := r2.tup_i
        refine ⟨a, b, us, us', rfl, .inr ⟨hs1, hs2, h (RZ.ItzT X.K a b) H1 [.ref a, .ref b] [(.tup xs), (.tup ys)] rfl R1 ⟨fun i d σ H st ov ox e R3 => ?_, fun σ H st ov ox R3 => ?_⟩⟩⟩
        · obtain ⟨m3, ar3, am3, ao3, ab3, R4⟩ := id R3
          have q3 : Rp X.K H (wOf Γ ar3 am3 ao3) m3 (.ref a :: .ref b :: p.iv) (.tup xs :: .tup ys :: p.ix) [] := R4.ri
          obtain ⟨a', us3, e3, hs3, p3⟩ := q3.head0.1.tup_i
          obtain ⟨b', us4, e4, hs4, p4⟩ := q3.head0.2.head0.1.tup_i
          cases e3; cases e4
          obtain ⟨x, y, ex, ey, rfl⟩ := zipL_get e
          obtain ⟨u, eu, ru⟩ := p3.get0 ex
          obtain ⟨u', eu', ru'⟩ := p4.get0 ey
          refine ⟨⟨us3, us4, u, u', hs3, hs4, eu, eu'⟩, fun z H' yl => ?_⟩
          obtain ⟨T, x2, y2, rfl, hT, rfl, f1, f2⟩ := yl
          have z1 := f1 us3 hs3
          have z2 := f2 us4 hs4
          rw [eu] at z1
          rw [eu'] at z2
          cases z1; cases z2
          exact (R4.tup hT (ru.cons0 ru')).rel
        · obtain ⟨m3, ar3, am3, ao3, ab3, R4⟩ := id R3
          have q3 : Rp X.K H (wOf Γ ar3 am3 ao3) m3 (.ref a :: .ref b :: p.iv) (.tup xs :: .tup ys :: p.ix) [] := R4.ri
          obtain ⟨a', us3, e3, hs3, p3⟩ := q3.head0.1.tup_i
          obtain ⟨b', us4, e4, hs4, p4⟩ := q3.head0.2.head0.1.tup_i
          cases e3; cases e4
          exact ⟨us3, us4, hs3, hs4, by rw [p3.len, p4.len]; exact zipL_len xs ys⟩
      · cases e
/-! ### dicts -/
def eDnew : M AV := fun st => .ok (.dct true [] []) st
theorem s_dnew : PE X (.Dict [] [] pos) (rdO X.K Γ W eDnew) := by
  refine pe_imp pe_dnewK fun σ H Q h => ?_
  obtain ⟨st, p, R, h⟩ := h
  intro a ha
  obtain ⟨m, ar, am, ao, ab, R⟩ := R
  exact h _ _ (R.nob.newO ha fun t h1 => .dcO (kvs := []) h1 rfl .nil .nil).rel
/-- d.get(k, x), looked at -/
def getD' (S : List AV) (x k d : AV) : Option AV := ((deref S x).bind dicA).bind fun t => (keyA k).bind fun k => some ((getK t.1 t.2 k).getD d)
def pGet (a b c : Ss → Option AV) : Ss → Option AV := fun st => (a st).bind fun x => (b st).bind fun k => (c st).bind fun d => getD' st.s x k d
end
end Fk
/-! ## isinstance of own classes -/
namespace Fk
open PySem PySem.Spec PyProof.Rows L2
def clsA (S : List AV) (x : AV) : Option Str := ((deref S x).bind insOf).map (·.1)
def eIsC (C : Str) (Ds : List Str) (m : M AV) : M AV := fun st => (m st).bind fun x s1 => bif okT x then .ok (.bl false) s1 else match clsA s1.s x with
  | some D => if D = C then .ok (.bl true) s1 else if D ∈ Ds then .ok (.bl false) s1 else .bad
  | none => .bad
section
variable {X : Cx} {Γ : Gam} {W : WX} {σ : L2.St} {H : Hp} {st : Ss} {p : Pd} {K : PySem.W.Frag} {pos q : Pos} {C : Str} {Ds : List Str}
end
end Fk
/-! ## the law's call, its end -/
namespace Fk
open PySem PySem.Spec PyProof.Rows L2
theorem law_N {P : Program} {w : World} {K : PySem.W.Frag} {mg mb : Str → Option Value} {k : Nat} {fa a : Addr} {fd : FuncData} {x : Str} {sp : Sp} {s1 : Shared} {vs : List Value} {ns : List Int}
    (KX : K.In s1.heap) (hns : s1.heap.Ns mainGlobals mg) (hb : s1.heap.Ns builtinsNs mb) (hbb : ∀ x : Str, x ≠ "__name__" → mb x = bootBuiltins x) (hlim : s1.heap.NoLimit) (hg : s1.gens = #[])
    (ha : s1.heap.get? a = some { cls := .type "list", data := .seq vs.toArray }) (hi : IntsAre vs ns) (hl : ns.length ≤ sizeLine) (hr : Room k callerA)
    (Fn : ∀ base : Heap, K.In base → base.Ns mainGlobals mg → FnN P w K mg base k fa fd [x] sp) (hbind : ∀ (s : Shared) (u : Value), BindsTo s fd ⟨[u], []⟩ [(x, u)])
    (hsp : ∀ H : Hp, (∀ b ps, H b ≠ some (.tbl ps)) → Scr K H a (ns.map V.int) → sp [.ref a] H (fun v _ => v = .bl true) fun _ _ _ => False) :
    codeAny (model P w) callerA (.call (.ref fa) ⟨[.ref a], []⟩) (fun r s' => r = .ok (.ret (.bool true)) ∧ OldK s1.heap s'.heap ∧ s'.os = s1.os ∧ AllBare s'.gens) s1 := by
  have rv := vals_ints hi
  have lenV := hi.length
  let ob : Obj := { cls := .type "list", data := .seq vs.toArray }
  let Hs : Hp := fun b => if b = a ∧ K.lookup a = none then some (.frz ob (.lst (ns.map V.int))) else none
  have at_ : ∀ b u, Hs b = some u → b = a ∧ K.lookup a = none ∧ u = .frz ob (.lst (ns.map V.int)) := fun b u q => by
    by_cases c : b = a ∧ K.lookup a = none
    · have q2 : some (HO.frz ob (.lst (ns.map V.int))) = some u := (if_pos c).symm.trans q
      exact ⟨c.1, c.2, (Option.some.inj q2).symm⟩
    · have q2 : (none : Option HO) = some u := (if_neg c).symm.trans q
      cases q2
  have hS : Scr K Hs a (ns.map V.int) := by
    cases hk : K.lookup a with
    | none => exact .inl ⟨ob, if_pos ⟨rfl, hk⟩⟩
    | some o =>
      have e := KX a o hk
      rw [ha] at e
      cases e
      exact .inr ⟨_, vs.toArray, _, hk, rfl, rfl, rfl, by rw [List.size_toArray, lenV]; exact hl, by simpa using rv⟩
  have hok : HOk P w Hs s1.heap := fun b u q => by
    obtain ⟨rfl, _, rfl⟩ := at_ b u q
    exact ⟨ha, by rw [List.length_map]; exact hl, vs, _, rv, ha⟩
  have hid : ∀ {b : Addr} {o : Obj}, s1.heap.get? b = some o → (b = a → K.lookup a ≠ none) → (hidT s1.heap Hs).get? b = some o := fun {b o} e n => by
    refine hidT_get e ?_
    cases q : Hs b with
    | none => rfl
    | some u =>
      obtain ⟨e1, e2, _⟩ := at_ b u q
      exact absurd e2 (n e1)
  have nsK : ∀ {b : Addr} {m : Str → Option Value}, s1.heap.Ns b m → (hidT s1.heap Hs).Ns b m := fun {b m} ⟨o, es, ep, e, d, rr⟩ => by
    refine ⟨o, es, ep, hid e ?_, d, rr⟩
    rintro rfl
    rw [ha] at e
    cases e
    cases d
  have hKb : K.In (hidT s1.heap Hs) := fun b o e => hid (KX b o e) (fun z => by rw [← z, e]; exact fun q => nomatch q)
  have hM : Mod K mg (hidT s1.heap Hs) := by
    refine ⟨hKb, nsK hns, ⟨mb, nsK hb, hbb⟩, ?_⟩
    obtain ⟨mc, h1, h2⟩ := hlim
    exact ⟨mc, nsK h1, h2⟩
  have e0 : Env0 P w K mg (hidT s1.heap Hs) callerA [] s1 Hs := ⟨rfl, hM, fun b o e => of_hidT e, Nat.le_of_eq (hidT_size _ _), trivial, fun b z => absurd (show b ∈ ([] : List Addr) from z) (by simp), hok, .of_eq hg⟩
  refine codeAny_mono ((Fn _ hKb (nsK hns)).run callerA [] s1 Hs ⟨[.ref a], []⟩ [.ref a] [.ref a] _ _ rfl hr e0 (hbind s1 (.ref a)) (.cons rfl .nil) (hsp Hs (fun b ps e => by
    obtain ⟨_, _, z⟩ := at_ b _ e
    cases z) hS)) ?_
  intro r s' h
  cases r with
  | error e =>
    obtain ⟨_, _, _, _, _, _, _, _, _, _, _, _, z⟩ := h
    exact z.elim
  | ok fl =>
    cases fl with
    | next => exact h.elim
    | brk => exact h.elim
    | cont => exact h.elim
    | ret u =>
      obtain ⟨v, H', os, bare, un, hok', r', q⟩ := h
      have q' : v = .bl true := q
      subst q'
      obtain rfl : u = Value.bool true := r'
      refine ⟨rfl, OldK.of_keep fun b o e => ?_, os, bare⟩
      cases q : Hs b with
      | none => exact un.keep b o e q (fun z => absurd (show b ∈ ([] : List Addr) from z) (by simp)) (by simp)
      | some u =>
        obtain ⟨e1, e2, e3⟩ := at_ b u q
        subst e3
        have z2 := un.frzs b ob _ q
        obtain ⟨g1, _⟩ := hok b _ q
        obtain ⟨g2, _⟩ := hok' b _ z2
        rw [e] at g1
        cases g1
        exact g2
theorem walk_endN {l : PySem.W.OpenLaw} {n k : Nat} {q : Program} {loose : List Str} {XP : (Str → Option Value) → Heap → Prop} {YP : World → Heap → Prop} {d : DefRec} {x : Str}
    (hn : l.most = some n) (hn2 : n ≤ sizeLine) (hdf : d.params.defaults = []) (hr : Room k callerA)
    (Fx : ∀ (w : World) (mg : Str → Option Value) (fa : Addr) (h : Heap), YP w h → h.Ns mainGlobals mg → mg d.name = some (.ref fa) →
      ∃ (K : PySem.W.Frag) (fd : FuncData) (sp : Sp), K.In h ∧ (∀ (s : Shared) (u : Value), BindsTo s fd ⟨[u], []⟩ [(x, u)]) ∧
        (∀ (H : Hp) (a : Addr) (ns : List Int), ns.length ≤ n → (∀ z ∈ ns, Builtin.Int.intBits z ≤ 1048576) → (∀ b ps, H b ≠ some (.tbl ps)) → Scr K H a (ns.map V.int) → sp [.ref a] H (fun v _ => v = .bl true) fun _ _ _ => False) ∧
        ∀ base : Heap, K.In base → base.Ns mainGlobals mg → FnN l.prog w K mg base k fa fd [x] sp) :
    PySem.W.WalkO q loose XP YP l.row.toRowW d [] (fun f vs => PySem.call f vs) := by
  refine Att.attach_callB hn hdf ?_
  intro w s0 s1 mg mb fa o pm cd doc a vs ns G Y ho hd hcd hmg hobj hints hlen hbits hg
  obtain ⟨K, fd, sp, KX, hb, hsp, hF⟩ := Fx w mg fa _ Y G.T.g hmg
  exact law_N KX G.T.g G.T.b G.T.builtins G.T.nolimit hg hobj hints (Nat.le_trans hlen hn2) hr hF hb (fun H hT hS => hsp H a ns hlen hbits hT hS)
theorem rp_intsA {K : PySem.W.Frag} {H : Hp} {W m : List Addr} : ∀ ns : List Int, Rp K H W m (ns.map V.int) (ns.map AV.int) []
  | [] => .nil
  | _ :: ns => .int (rp_intsA ns)
theorem law_sp {K : PySem.W.Frag} {f : Fn} {H : Hp} {a : Addr} {ns : List Int} (h : ∃ S, f [.scr (ns.map AV.int)] [] = .ok (.bl true) S) (hT : ∀ b ps, H b ≠ some (.tbl ps)) (hS : Scr K H a (ns.map V.int)) : spM K [] 1 f [.ref a] H (fun v _ => v = .bl true) fun _ _ _ => False := by
  obtain ⟨S, e⟩ := h
  refine ⟨rfl, [], [], [], [.scr (ns.map AV.int)], [], .scr hS (rp_intsA ns) .nil, .nil, .nil, (fun _ z => nomatch z), ⟨fun _ z => (nomatch z)⟩, ?_⟩
  rw [e]
  intro v H' hp
  obtain ⟨m', am', r, _⟩ := hp
  exact r.bl_i
theorem own_N {P : Program} {w : World} {K : PySem.W.Frag} {mg : Str → Option Value} {base : Heap} {N : List Str} {qual : Str} {scope : Scope} {f : Addr} {cd : Value} {A : Around} {outer : List Env} {s : Shared} {H : Hp} {E : XK} :
    PassesOwn (model P w) (cxN P w K mg base N qual scope f cd A outer s H E).A (cxN P w K mg base N qual scope f cd A outer s H E).env (cxN P w K mg base N qual scope f cd A outer s H E).xe := passes_of rfl
end Fk
/-! ## short words for what is printed -/
namespace Fk
open PySem PySem.Spec PyProof.Rows L2
def eFrz (m : M AV) : M AV := fun st => (m st).bind fun d s1 => ofO (frz d) s1
def pAlt (a b : Ss → Option AV) : Ss → Option AV := fun st => match a st with
  | some d => some d
  | none => b st
section
variable {X : Cx} {Γ : Gam} {W : WX} {σ : L2.St} {H : Hp} {st : Ss} {p : Pd} {K : PySem.W.Frag} {pos : Pos} {e : Expr}
theorem sv (i : Nat) {x : Str} (hN : X.N[i]? = some x := by rfl) (hv : Vis X.env.scope x := by first | exact Or.inl rfl | exact Or.inr (Or.inl rfl) | exact Or.inr (Or.inr rfl)) (hd : (x == ("__debug__" : Str)) = false := by decide) (hcd : (x == ("__classdict__" : Str)) = false := by decide) : PE X (.Name x pos) (rdE X.K Γ W (eVar i)) := s_var hN hv hd hcd
theorem qv (i : Nat) {x : Str} (hN : X.N[i]? = some x := by rfl) (hv : Vis X.env.scope x := by first | exact Or.inl rfl | exact Or.inr (Or.inl rfl) | exact Or.inr (Or.inr rfl)) (hd : (x == ("__debug__" : Str)) = false := by decide) (hcd : (x == ("__classdict__" : Str)) = false := by decide) : PE X (.Name x pos) (rdP X.K Γ (pVar i)) := q_var hN hv hd hcd
theorem s_frz {m : M AV} (h : PE X e (rdO X.K Γ W m)) : PE X e (rdE X.K Γ W (eFrz m)) := by
  refine pe_imp h fun σ H Q h => ?_
  obtain ⟨st, p, R, h⟩ := h
  refine ⟨st, p, R, ?_⟩
  unfold eFrz at h
  cases ea : m st with
  | bad => rw [ea] at h; exact h
  | err c s1 => rw [ea] at h; exact h
  | ok d s1 =>
    rw [ea] at h
    simp only [Res.bind_ok] at h
    intro v H1 R1
    cases ef : frz d with
    | none => simp only [ef, ofO_none] at h
    | some d' =>
      simp only [ef, ofO_some] at h
      exact h v H1 (R1.frzO ef)
theorem c_len : CallR X (.builtin "len") (uLen X.K) := CallR.or call_len call_lenD
end
section
variable {X : Cx} {Γ : Gam} {W : WX} {pos apos q : Pos} {o e : Expr} {es : List Expr} {x : Str} {k j n : Nat} {C nm : Str} {ps : List Str} {ds : List AV} {f : Fn} {mo : M AV} {ma : M (List AV)}
theorem sCl (F : CalN X.prog X.w X.K X.mg X.base Γ.T k x ps ds f) (hG : X.A.guards = some []) (hr : Room j X.A) (hk : k ≤ j) (hg : Gl X x) (tk : L2N.Takes X W) (ha : PA X (e :: es) (rdA X.K Γ W ma)) (hn : ps.length = n := by rfl)
    (hdb : (x == ("__debug__" : Str)) = false := by decide) (he : starEach (e :: es) X.env = (false, eval e X.env) :: starEach es X.env := by rfl) (hpl : (backTo pos (starEach es X.env)).any (·.1) = false := by rfl) :
    PE X (.Call (.Name x q) (e :: es) [] pos) (rdE X.K Γ W (eCall n f ds ma)) := by
  subst hn
  exact s_call F hG hr hk hg tk ha hdb he hpl
end
section
variable {X : Cx} {Γ : Gam} {W : WX} {pos : Pos} {o : Expr}
theorem sStI {fo : Option (Str × Str)} {ek ev : Expr} {mv : M AV} {mo mk : Ss → Option AV} {pos' : Pos} (hu : X.A.units + 1 < cLine) (ho : PE X o (rdB X.K Γ mo fo)) (hk : PE X ek (rdP X.K Γ mk)) (hv : PE X ev (rdE X.K Γ W mv))
    (hsw : swapsWith ev (some (.Subscript o ek pos')) pos.line X.env = pure false := by rfl)
    (hs1 : swapsWithSole [.Subscript o ek pos'] ev pos.line X.env = pure false := by rfl) (hw1 : swappedStores [.Subscript o ek pos'] ev X.env = pure none := by rfl)
    (ha : ∀ v, assign (.Subscript o ek pos') X.env v = (do
      let ov ← holding [v] (eval o X.env)
      let iv ← holding [v, ov] (eval ek X.env)
      standAt pos'
      holding [v, ov, iv] (setItem ov iv v)
      release [v, ov, iv] []) := by intro _; rfl) : PS X (.Assign [.Subscript o ek pos'] ev pos) (rdS X.K Γ W (sSetP false fo mo mk mv)) := s_setP (w := false) hu ho hk hv hsw hs1 hw1 ha
end
theorem rp_tupC {K : PySem.W.Frag} {a : Addr} {us : List V} {xs : List AV} (h : ∀ H, SqT K H a us) (r : ∀ H W m, Rp K H W m us xs []) : ∀ H W m, Rp K H W m [.ref a] [.tup xs] [] := fun H W m => .tup (h H) (r H W m) .nil
end Fk
/-! ## try, except -/
namespace Fk
open PySem PySem.Spec PyProof.Rows L2
def pickH (c : Str) : List (List Str × M Fl) → Option (M Fl)
  | [] => none
  | (cs, h) :: r => if c ∈ cs then some h else pickH c r
/-- nothing is raised there -/
def capX {α β : Type} : Res α β → Res α β
  | .err _ _ => .bad
  | r => r
def sTry (U : List Str) (mb : M Fl) (hs : List (List Str × M Fl)) : M Fl := fun st => match mb st with
  | .err c s1 => if c ∈ U then (match pickH c hs with
    | some h => capX (h s1)
    | none => .err c s1) else .bad
  | r => r
section
variable {X : Cx} {Γ : Gam} {W : WX}
end
end Fk
/-! ## a row of an object's lists, lent to a name -/
namespace Fk
open PySem PySem.Spec PyProof.Rows L2
section
variable {K : PySem.W.Frag} {H : Hp} {W m as : List Addr} {v : V} {x d z : AV} {Γ : Gam} {σ : L2.St} {st : Ss} {p : Pd} {ar am ao ab : List Addr}
theorem set_at {α : Type} {xs : List α} {j : Nat} {a : α} (h : xs[j]? = some a) : xs.set j a = xs := by
  apply List.ext_getElem?
  intro i
  by_cases c : j = i
  · subst c
    rw [List.getElem?_set_self (List.getElem?_eq_some_iff.mp h).1, h]
  · rw [List.getElem?_set_ne c]
/-- one of a row of things, put otherwise -/
theorem Rp.spot0 {vs : List V} {xs : List AV} {j : Nat} (r : Rp K H W m vs xs as) (h : xs[j]? = some d) : ∃ u a1 b a2, vs[j]? = some u ∧ as = a1 ++ (b ++ a2) ∧ Rp K H W m [u] [d] b ∧
    ∀ {W' m' b' : List Addr} {d' : AV}, (∀ {vs : List V} {xs : List AV} {as : List Addr}, Rp K H W m vs xs as → Rp K H W' m' vs xs as) → Rp K H W' m' [u] [d'] b' → Rp K H W' m' vs (xs.set j d') (a1 ++ (b' ++ a2)) := by
  obtain ⟨u, a1, b, a2, e, ea, r1, r2, r3⟩ := r.at_ h
  refine ⟨u, a1, b, a2, e, ea, r2, fun {W' m' b' d'} t q => ?_⟩
  have h1 := Rp.put (v := u) (x := d') (List.getElem?_eq_some_iff.mp h).1 (t r1) q (t r3) r.len
  rw [set_at e] at h1
  exact h1
/-- .. in an object's list of lists -/
theorem Rp.spot {a0 : Addr} {z0 : AV} {fo : Option (Str × Str)} {rows : List AV} {j l : Nat} {S : List AV} {vs : List V} (r : Rp K H W m vs S as) (e : getPl S l fo = some (.nst rows)) (hj : rows[j]? = some d) : ∃ a0 a us u a1 b a2, vs[l]? = some (.ref a0) ∧ AtH K H a0 a fo ∧ H a = some (.lst us) ∧ us.length = rows.length ∧ us[j]? = some u ∧ as = a1 ++ (b ++ a2) ∧ Rp K H W m [u] [d] b ∧
    ∀ {W' m' b' : List Addr} {d' : AV}, (∀ {vs : List V} {xs : List AV} {as : List Addr}, Rp K H W m vs xs as → Rp K H W' m' vs xs as) → Rp K H W' m' [u] [d'] b' → Rp K H W' m' vs (setPl S l fo (.nst (rows.set j d'))) (a1 ++ (b' ++ a2)) := by
  cases fo with
  | none =>
    obtain ⟨u0, a1, b, a2, ev, ea, r2, put⟩ := r.spot0 (show S[l]? = some (.nst rows) from e)
    cases r2 with
    | @nst a us _ bs _ _ as0 h q r0 =>
      obtain ⟨_, rfl⟩ := r0.nil_inv
      obtain ⟨u, c1, c, c2, eu, ec, rd, put2⟩ := q.spot0 hj
      refine ⟨a, a, us, u, a1 ++ (a :: c1), c, c2 ++ a2, ev, rfl, h, q.len, eu, by rw [ea, ec]; simp, rd, fun {W' m' b' d'} t q2 => ?_⟩
      have h1 := put (b' := a :: ((c1 ++ (b' ++ c2)) ++ [])) t (.nst h (put2 t q2) .nil)
      have e2 : a1 ++ (a :: ((c1 ++ (b' ++ c2)) ++ []) ++ a2) = (a1 ++ (a :: c1)) ++ (b' ++ (c2 ++ a2)) := by simp
      rw [e2] at h1
      exact h1
  | some cf =>
    obtain ⟨C, f⟩ := cf
    obtain ⟨⟨C', ks, ys⟩, e1, e2⟩ := Option.bind_eq_some_iff.mp e
    obtain ⟨t0, et, ei⟩ := Option.bind_eq_some_iff.mp e1
    have e3 : (if C' = C then getF ks ys f else none) = some (.nst rows) := e2
    by_cases c : C' = C
    · subst c
      rw [if_pos rfl] at e3
      cases t0 with
      | ins C2 k2 y2 =>
        cases ei
        obtain ⟨u0, a1, b, a2, ev, ea, r2, put⟩ := r.spot0 et
        cases r2 with
        | @ins a0 _ dx fs _ _ bs _ _ as0 hs ek q r0 =>
          obtain ⟨_, rfl⟩ := r0.nil_inv
          subst ek
          obtain ⟨u1, b1, b2, b3, hl, eb, ru, gl⟩ := lensF q e3
          cases ru with
          | @nst a us _ bs2 _ _ as0 h q2 r0 =>
            obtain ⟨_, rfl⟩ := r0.nil_inv
            obtain ⟨u, c1, c, c2, eu, ec, rd, put2⟩ := q2.spot0 hj
            refine ⟨a0, a, us, u, a1 ++ (a0 :: (b1 ++ (a :: c1))), c, c2 ++ (b3 ++ a2), ev, ⟨dx, fs, hs, hl⟩, h, q2.len, eu, by rw [ea, eb, ec]; simp, rd, fun {W' m' b' d'} t q3 => ?_⟩
            have g1 := gl (H' := H) (W' := W') (m' := m') (x' := .nst (rows.set j d')) (b2' := a :: ((c1 ++ (b' ++ c2)) ++ [])) (fun rr _ => t rr) (.nst h (put2 t q3) .nil)
            have g2 := put (b' := a0 :: ((b1 ++ ((a :: ((c1 ++ (b' ++ c2)) ++ [])) ++ b3)) ++ [])) t (.ins hs rfl g1 .nil)
            have es : setPl S l (some (C', f)) (.nst (rows.set j d')) = S.set l (.ins C' (fs.map (·.1)) (setFA (fs.map (·.1)) ys f (.nst (rows.set j d')))) := by
              unfold setPl
              rw [et]
              rfl
            rw [es]
            have e4 : a1 ++ (a0 :: ((b1 ++ ((a :: ((c1 ++ (b' ++ c2)) ++ [])) ++ b3)) ++ []) ++ a2) = (a1 ++ (a0 :: (b1 ++ (a :: c1)))) ++ (b' ++ (c2 ++ (b3 ++ a2))) := by simp
            rw [e4] at g2
            exact g2
      | _ => cases ei
    · rw [if_neg c] at e3
      cases e3
/-- .. and back -/
theorem Rl.unl {fo : Option (Str × Str)} {rows : List AV} {j l n : Nat} (R : Rl K Γ σ H st p m ar am ao ab) (e : getPl st.s l fo = some (.nst rows)) (hj : rows[j]? = some (.loc n)) (en : st.s[n]? = some d) (hd : ownA d = true) (ne : n ≠ l) :
    Rel K Γ σ H ⟨st.r, setPl (st.s.set n .ded) l fo (.nst (rows.set j d))⟩ p := by
  obtain ⟨u0, a1, b, a2, eu, ea, rd, put⟩ := R.rm.spot0 en
  have r1 : Rp K H (wOf Γ ar am ao) m (m.map V.ref) (st.s.set n .ded) (a1 ++ ([] ++ a2)) := put (fun r => r) (by
    rw [List.getElem?_map] at eu
    obtain ⟨u, _, rfl⟩ := Option.map_eq_some_iff.mp eu
    exact .ded .nil)
  have e2 : getPl (st.s.set n .ded) l fo = some (.nst rows) := by
    rw [← e]
    unfold getPl
    rw [List.getElem?_set_ne ne]
  obtain ⟨a0, a, us, u1, c1, c, c2, _, _, _, _, _, ec, rl, put2⟩ := r1.spot (a0 := 0) (z0 := .non) e2 hj
  have q : u1 = u0 ∧ c = [] := by
    cases rl with
    | loc h r0 =>
      obtain ⟨_, rfl⟩ := r0.nil_inv
      rw [List.getElem?_map, h] at eu
      cases eu
      exact ⟨rfl, rfl⟩
  obtain ⟨rfl, rfl⟩ := q
  have nd := R.nd
  have fr := R.fr
  have mm : ∀ x, x ∈ c1 ++ (b ++ c2) ↔ x ∈ am := fun x => by
    have h1 : x ∈ a1 ++ ([] ++ a2) ↔ x ∈ c1 ++ ([] ++ c2) := by rw [ec]
    simp only [ea, List.mem_append] at h1 ⊢
    grind
  have wm : ∀ x, x ∈ wOf Γ ar (c1 ++ (b ++ c2)) ao ↔ x ∈ wOf Γ ar am ao := fun x => by
    have := mm x
    simp only [wOf, List.mem_append] at this ⊢
    grind
  have t : ∀ {vs : List V} {xs : List AV} {as : List Addr}, Rp K H (wOf Γ ar am ao) m vs xs as → Rp K H (wOf Γ ar (c1 ++ (b ++ c2)) ao) m vs xs as := fun r =>
    r.keep Kp.refl (fun _ z => nomatch z) (fun c _ n z => n ((wm c).mp z)) (fun _ _ e => e) (fun _ _ z => nomatch z)
  refine ⟨m, ar, c1 ++ (b ++ c2), ao, ab, ?_, put2 t (t rd), t R.ri, t R.ro, t R.rb, ?_, ?_, R.kp, R.pm, R.gu, R.tb⟩
  · exact R.rs.keep Kp.refl (fun _ z => nomatch z) (fun c _ n z => n ((wm c).mp z)) (fun _ _ e => e) (fun _ _ z => nomatch z)
  · have pm : (c1 ++ (b ++ c2)).Perm am := by
      have e1 : (c1 ++ (b ++ c2)).Perm (b ++ (c1 ++ c2)) := by
        rw [← List.append_assoc, ← List.append_assoc]
        exact List.Perm.append_right _ List.perm_append_comm
      have e2 : am.Perm (b ++ (a1 ++ a2)) := by
        rw [ea, ← List.append_assoc, ← List.append_assoc]
        exact List.Perm.append_right _ List.perm_append_comm
      have e3 : a1 ++ a2 = c1 ++ c2 := by simpa using ec
      rw [e3] at e2
      exact e1.trans e2.symm
    have pw : (wOf Γ ar (c1 ++ (b ++ c2)) ao).Perm (wOf Γ ar am ao) := List.Perm.append_left _ (List.Perm.append_left _ (List.Perm.append_right _ pm))
    exact pw.nodup_iff.mpr nd
  · intro x hx
    have h1 := mm x
    have := fr x
    simp only [List.mem_append] at this hx h1
    grind
end
end Fk
namespace Fk
open PySem PySem.Spec PyProof.Rows L2
/-- place[y], lent -/
def eLend (fo : Option (Str × Str)) (mo mk : Ss → Option AV) : M AV := fun st => match (mo st).bind locOf with
  | some l => (match mk st with
    | some (.int k) => (match getPl st.s l fo with
      | some (.nst rows) => (match ixN rows.length k with
        | some j => (match rows[j]? with
          | some d => bif ownA d then .ok (.loc st.s.length) ⟨st.r, setPl st.s l fo (.nst (rows.set j (.loc st.s.length))) ++ [d]⟩ else .bad
          | none => .bad)
        | none => .bad)
      | _ => .bad)
    | _ => .bad)
  | none => .bad
/-- what was lent goes back: the object's number, the row's, the lent one's in three slots -/
def unlS (fo : Option (Str × Str)) (io ik ir : Nat) (st : Ss) : Ss := match getSl st.r io, getSl st.r ik, getSl st.r ir with
  | .im (.loc l), .im (.int k), .im (.loc n) => (match getPl st.s l fo with
    | some (.nst rows) => (match ixN rows.length k with
      | some j => (match rows[j]?, st.s[n]? with
        | some (.loc n'), some d => if n' = n ∧ n ≠ l ∧ ownA d = true then ⟨st.r, setPl (st.s.set n .ded) l fo (.nst (rows.set j d))⟩ else st
        | _, _ => st)
      | none => st)
    | _ => st)
  | _, _, _ => st
def sUnl (fo : Option (Str × Str)) (io ik ir : Nat) (mb : M Fl) : M Fl := fun st => match mb st with
  | .ok f s => .ok f (unlS fo io ik ir s)
  | .err c s => .err c (unlS fo io ik ir s)
  | .bad => .bad
section
variable {X : Cx} {Γ : Gam} {W : WX} {σ : L2.St} {H : Hp} {st : Ss} {p : Pd} {K : PySem.W.Frag} {pos : Pos} {o ek : Expr} {fo : Option (Str × Str)} {mo mk : Ss → Option AV}
theorem Rel.unlS (R : Rel K Γ σ H st p) (io ik ir : Nat) : Rel K Γ σ H (unlS fo io ik ir st) p := by
  obtain ⟨m, ar, am, ao, ab, R1⟩ := id R
  unfold Fk.unlS
  split
  · split
    · rename_i rows eg
      split
      · rename_i j ej
        split
        · rename_i n' d er en
          split
          · rename_i hc
            obtain ⟨rfl, ne, hd⟩ := hc
            exact R1.unl eg er en hd ne
          · exact R
        · exact R
      · exact R
    · exact R
  · exact R
end
end Fk
/-! ## except (A, B, ..): a row of classes -/
namespace Fk
open PySem PySem.Spec PyProof.Rows L2
section
variable {X : Cx}
end
end Fk
/-! ## defs called in an except suite; try by tests -/
namespace Fk
open PySem PySem.Spec PyProof.Rows L2
section
variable {P : Program} {w : World} {K : PySem.W.Frag} {mg : Str → Option Value} {base : Heap} {k : Nat} {f : Addr} {fd : FuncData} {ps N : List Str} {sp : Sp} {x qual : Str} {params : Arguments} {body : List Stmt} {scope : Scope} {dvs : List V} {kws : List (Str × V)} {T : List (Addr × Str)}
end
section
variable {X : Cx} {Γ : Gam} {W : WX} {σ : L2.St} {H : Hp} {st : Ss} {p : Pd} {K : PySem.W.Frag} {pos apos cpos q : Pos} {o e : Expr} {es : List Expr} {x : Str} {i k j n : Nat} {C nm : Str} {fs : List Str} {ps : List Str} {f : Fn} {mo : M AV} {ma : M (List AV)}
end
end Fk
/-! ## in, not in; count, index -/
namespace Fk
open PySem PySem.Spec PyProof.Rows L2
section
variable {X : Cx}
def rInT (K : PySem.W.Frag) (g : Bool → Bool) : R2 := fun x y H Q => ∃ d ds, Dp K H x d ∧ Dp K H y (.tuple ds) ∧ SeqAt.shaped d = true ∧ SeqAt.shaped (.tuple ds) = true ∧ Q (.bl (g (ds.any fun z => PyData.eqv z d))) H
theorem op_inT (hu : X.A.units + 65 < cLine) : OpR X (compareOp .In) (rInT X.K fun b => b) := by
  intro pins s σ H x y v u Q I rx ry h
  obtain ⟨d, ds, h1, h2, s1, s2, q⟩ := h
  obtain ⟨as, r1⟩ := Dp.reads I d x v h1 rx
  obtain ⟨bs, r2⟩ := Dp.reads I (.tuple ds) y u h2 ry
  exact SeqAt.in_tuple_reads r2 r1 (SeqAt.canLay_of_shaped s2) (SeqAt.canLay_of_shaped s1) (room_in_shaped s1 hu) ⟨.bl _, H, I, rfl, q⟩
def rDIn (g : Bool → Bool) : R2 := fun x y H Q => ∃ a o, y = .ref a ∧ DGet H a x o ∧ Q (.bl (g o.isSome)) H
theorem op_dIn (hu : X.A.units + 1 < cLine) : OpR X (compareOp .In) (rDIn fun b => b) := by
  intro pins s σ H x y v u Q I rx ry h
  obtain ⟨a, o, rfl, g, q⟩ := h
  obtain rfl : u = Value.ref a := ry
  exact d_in hu I g rx fun s3 I3 => ⟨.bl o.isSome, H, I3, rfl, q⟩
def uIn (K : PySem.W.Frag) : R2 := fun x y H Q => rInD K x y H Q ∨ (rInT K (fun b => b) x y H Q ∨ rDIn (fun b => b) x y H Q)
theorem oo_in (hu : X.A.units + 65 < cLine) : OpR X (compareOp .In) (uIn X.K) := (op_inD hu).or ((op_inT hu).or (op_dIn (by omega)))
end
/-- whether one is among others -/
def inA (x y : AV) : Option Bool := match dicA y with
  | some (ks, _) => (keyA x).map fun k => hasK ks k
  | none => match y with
    | .lst _ xs => if okA x && okA y then some ((dats xs).any fun z => PyData.eqv z (dat x)) else none
    | .nst xs => if okA x && okA y then some ((dats xs).any fun z => PyData.eqv z (dat x)) else none
    | .scr xs => if okA x && okA y then some ((dats xs).any fun z => PyData.eqv z (dat x)) else none
    | .tup xs => if okA x && okA y then some ((dats xs).any fun z => PyData.eqv z (dat x)) else none
    | _ => none
def oIn (x y : AV) : Option AV := (inA x y).map AV.bl
section
variable {K : PySem.W.Frag} {H : Hp} {W m : List Addr} {a1 a2 : List Addr} {v1 v2 : V} {x y : AV}
theorem valV_has {k : Key} : ∀ {kvs : List (Key × V)}, (valV kvs k).isSome = hasK (kvs.map (·.1)) k
  | [] => rfl
  | (k', v) :: kvs => by
    have ih := valV_has (k := k) (kvs := kvs)
    unfold valV hasK at *
    simp only [List.map_cons, List.any_cons, List.find?_cons]
    by_cases c : k' = k
    · simp [c]
    · simp only [decide_eq_false c, Bool.false_or]
      first
        | exact ih
        | simpa [c] using ih
theorem in_sem {b : Bool} (r1 : Rp K H W m [v1] [x] a1) (r2 : Rp K H W m [v2] [y] a2) (e : inA x y = some b) :
    (∃ d ds, Dp K H v1 d ∧ (Dp K H v2 (.list ds) ∧ SeqAt.shaped (.list ds) = true ∨ Dp K H v2 (.tuple ds) ∧ SeqAt.shaped (.tuple ds) = true) ∧ SeqAt.shaped d = true ∧ b = ds.any fun z => PyData.eqv z d) ∨ ∃ a o, v2 = .ref a ∧ DGet H a v1 o ∧ b = o.isSome := by
  have ok : ∀ {x : AV} {v : V} {as : List Addr}, Rp K H W m [v] [x] as → okA x = true → Dp K H v (dat x) ∧ SeqAt.shaped (dat x) = true := fun {x v as} r h => by
    unfold okA at h
    rw [Bool.and_eq_true] at h
    exact ⟨r.dp h.1, h.2⟩
  unfold inA at e
  cases ed : dicA y with
  | some t =>
    obtain ⟨ks, ys⟩ := t
    rw [ed] at e
    simp only at e
    obtain ⟨k, ek, rfl⟩ := Option.map_eq_some_iff.mp e
    right
    have hk : v1 = kV k := by
      cases x with
      | int i => cases ek; cases r1; rfl
      | str z => cases ek; cases r1; rfl
      | _ => cases ek
    have fin : ∀ (a : Addr) (kvs : List (Key × V)), v2 = .ref a → H a = some (.dK kvs) → kvs.map (·.1) = ks → ∃ a o, v2 = .ref a ∧ DGet H a v1 o ∧ hasK ks k = o.isSome := fun a kvs e1 e2 e3 =>
      ⟨a, valV kvs k, e1, .inl ⟨kvs, k, Rd.of e2, hk, rfl⟩, by rw [valV_has, e3]⟩
    cases y with
    | dct o ks' ys' =>
      cases ed
      cases r2 with
      | dcI h _ e1 _ _ => exact fin _ _ rfl h e1
      | dcO h e1 _ _ => exact fin _ _ rfl h e1
    | ndc ks' ys' =>
      cases ed
      cases r2 with
      | ndc h e1 _ _ => exact fin _ _ rfl h e1
    | _ => cases ed
  | none =>
    rw [ed] at e
    simp only at e
    left
    cases y with
    | lst o xs =>
      simp only at e
      split at e
      · rename_i c
        rw [Bool.and_eq_true] at c
        cases e
        have q1 := ok r1 c.1
        have q2 := ok r2 c.2
        simp only [dat] at q2
        exact ⟨_, _, q1.1, .inl q2, q1.2, rfl⟩
      · cases e
    | nst xs =>
      simp only at e
      split at e
      · rename_i c
        rw [Bool.and_eq_true] at c
        cases e
        have q1 := ok r1 c.1
        have q2 := ok r2 c.2
        simp only [dat] at q2
        exact ⟨_, _, q1.1, .inl q2, q1.2, rfl⟩
      · cases e
    | scr xs =>
      simp only at e
      split at e
      · rename_i c
        rw [Bool.and_eq_true] at c
        cases e
        have q1 := ok r1 c.1
        have q2 := ok r2 c.2
        simp only [dat] at q2
        exact ⟨_, _, q1.1, .inl q2, q1.2, rfl⟩
      · cases e
    | tup xs =>
      simp only at e
      split at e
      · rename_i c
        rw [Bool.and_eq_true] at c
        cases e
        have q1 := ok r1 c.1
        have q2 := ok r2 c.2
        simp only [dat] at q2
        exact ⟨_, _, q1.1, .inr q2, q1.2, rfl⟩
      · cases e
    | _ => cases e
theorem p_in : Op2 K (uIn K) oIn := by
  intro Γ σ H st p m ar am ao ab v1 v2 x y d a1 a2 Q R0 r1 r2 e h
  obtain ⟨b, e1, rfl⟩ := Option.map_eq_some_iff.mp e
  have q := h (.bl b) H (R0.nob.rel.bl b)
  rcases in_sem r1 r2 e1 with ⟨d, ds, h1, h2 | h2, h3, rfl⟩ | ⟨a, o, rfl, g, rfl⟩
  · exact .inl ⟨d, ds, h1, h2.1, h3, h2.2, q⟩
  · exact .inr (.inl ⟨d, ds, h1, h2.1, h3, h2.2, q⟩)
  · exact .inr (.inr ⟨a, o, rfl, g, q⟩)
end
end Fk
/-! ## xs.count(y), xs.index(y) -/
namespace Fk
open PySem PySem.Spec PyProof.Rows L2
section
variable {X : Cx}
end
section
variable {X : Cx} {Γ : Gam} {W : WX} {σ : L2.St} {H : Hp} {st : Ss} {p : Pd} {K : PySem.W.Frag} {apos cpos : Pos} {o e : Expr} {name : Str} {T : String} {r : V → List V → Hp → VK → Prop} {f : List AV → List AV → Option AV} {mo me : Ss → Option AV}
end
end Fk
namespace Fk
open PySem PySem.Spec PyProof.Rows L2
section
variable {X : Cx}
end
section
variable {X : Cx} {Γ : Gam} {W : WX} {apos cpos q : Pos} {e : Expr} {x : Str} {me : Ss → Option AV} {ys : List AV}
end
end Fk
/-! ## d.setdefault(k, v) -/
namespace Fk
open PySem PySem.Spec PyProof.Rows L2
def eSetd (i : Nat) (mk mv : M AV) : M AV := fun st => match ownD (getSl st.r i) with
  | none => .bad
  | some _ => (mk st).bind fun y s1 => (mv s1).bind fun d s2 => match ownD (getSl s2.r i), keyA y with
    | some (ks, xs), some k => if ks.length < 16777216 then (match getK ks xs k with
      | some x => .ok x s2
      | none => .ok d (putD i (ks ++ [k]) (xs ++ [d]) s2)) else .bad
    | _, _ => .bad
section
variable {X : Cx} {Γ : Gam} {W : WX} {σ : L2.St} {H : Hp} {st : Ss} {p : Pd} {K : PySem.W.Frag} {apos cpos q : Pos} {ek ev : Expr} {x : Str} {i : Nat} {mk mv : M AV}
end
end Fk
/-! ## sorted(xs), xs tuples of ints, the first of any sign -/
namespace Fk
open PySem PySem.Spec PyProof.Rows L2
section
variable {prog : Program} {w : World} {A : Around} {E : Value → Shared → Prop} {s : Shared}
theorem lexN {B : Int} {b : Bool} {xs ys : List Value} {ns ms : List Int} {Q : Bool → Shared → Prop} (hx : IntsAre xs ns) (hy : IntsAre ys ms) (hl : ns.length = ms.length) (h1 : TS.Bd B ns.tail) (h2 : TS.Bd B ms.tail)
    (h : Q (decide (TS.code B ns < TS.code B ms)) s) : PySem.W.KatLex prog w A b false Q (xs.zip ys) 0 s := by
  cases hx with
  | nil =>
    cases hy with
    | cons q u hy => simp at hl
    | nil =>
      have e : decide (TS.code B [] < TS.code B []) = false := decide_eq_false (Int.lt_irrefl _)
      rw [e] at h
      exact PySem.W.kat_nil h
  | @cons p t xs ns hx =>
    cases hy with
    | nil => simp at hl
    | @cons q u ys ms hy =>
      have hl2 : ns.length = ms.length := by simpa using hl
      have b1 : TS.Bd B ns := h1
      have b2 : TS.Bd B ms := h2
      show PySem.W.KatLex prog w A b false Q ((Value.int p t, Value.int q u) :: xs.zip ys) 0 s
      refine PySem.W.kat_cons (wpAny_eqBool_int ?_)
      by_cases e : p = q
      · subst e
        rw [beq_self_eq_true]
        rw [decide_eq_decide.mpr (TS.code_same (B := B) (d := p) hl2)] at h
        exact PySem.W.kat_yes (TS.lex_ints 1 hx hy hl2 b1 b2 h)
      · rw [show (p == q) = false from beq_eq_false_iff_ne.mpr e]
        have d : (TS.code B (p :: ns) < TS.code B (q :: ms)) ↔ p < q := by
          refine ⟨fun x => ?_, fun x => TS.code_lt hl2 b1 b2 x⟩
          rcases Int.lt_trichotomy p q with y | y | y
          · exact y
          · exact absurd y e
          · have := TS.code_lt (B := B) hl2.symm b2 b1 y
            omega
        rw [decide_eq_decide.mpr d] at h
        exact PySem.W.kat_no (TS.oneLt_ints _ h)
def TokB (h : Heap) (d : Nat) (B : Int) (vs : List Value) : Prop := ∀ v ∈ vs, ∃ ns, TS.TupInts h v ns ∧ ns.length = d ∧ TS.Bd B ns.tail
theorem firstsN {h : Heap} {d : Nat} {B : Int} (hd : 1 ≤ d) : ∀ vs : List Value, TokB h d B vs → ∃ fs, PySem.W.KatTups h vs fs ∧ fs.length = vs.length ∧ ∀ f ∈ fs, ∃ n t, f = Value.int n t
  | [], _ => ⟨[], .nil, rfl, fun _ z => nomatch z⟩
  | v :: vs, x => by
    obtain ⟨fs, k, hl, hi⟩ := firstsN hd vs fun u hu => x u (by simp [hu])
    obtain ⟨ns, ⟨a, xs, rfl, ⟨o, ho, hc, n, hdt⟩, i⟩, hn, _⟩ := x v (by simp)
    cases q : xs.toList with
    | nil =>
      rw [q] at i
      have l := i.length
      simp at l
      omega
    | cons y ys =>
      obtain ⟨m, t, hy⟩ := i.all y (by simp [q])
      refine ⟨y :: fs, .cons ho hc hdt ?_ k, by simp [hl], fun f hf => ?_⟩
      · have z := congrArg (fun l : List Value => l[0]?) q
        simpa using z
      · rcases List.mem_cons.mp hf with rfl | hf
        · exact ⟨m, t, hy⟩
        · exact hi f hf
theorem kindN {d : Nat} {B : Int} {vs : List Value} (hd : 1 ≤ d) (h2 : 2 ≤ vs.length) (x : TokB s.heap d B vs) (r : Value → Int) (hr : ∀ v ∈ vs, ∀ ns, TS.TupInts s.heap v ns → r v = TS.code B ns) (Q : SortKind → Shared → Prop)
    (h : ∀ κ, TS.Cmp prog w A s κ (pairsOf vs) r → Q κ s) : wpAny (model prog w) A (keyKind' vs.toArray) Q E s := by
  obtain ⟨fs, k, hl, hi⟩ := firstsN hd vs x
  refine PySem.W.kat_kind (T := Value.type "int") k (by omega) (fun f hf => ?_) rfl (h _ ?_)
  · obtain ⟨n, t, rfl⟩ := hi f hf
    exact PySem.W.Looks.of_pure rfl
  · intro p q hp hq Q2 E2 want
    rw [pairsOf_toList] at hp hq
    have mp := (mem_zip_self hp).2
    have mq := (mem_zip_self hq).2
    obtain ⟨ns, tp, lp, bp⟩ := x _ mp
    obtain ⟨ms, tq, lq, bq⟩ := x _ mq
    rw [hr _ mp _ tp, hr _ mq _ tq] at want
    obtain ⟨a, xs, e1, ⟨o, ho, hc, n, hdt⟩, i⟩ := tp
    obtain ⟨a2, ys, e2, ⟨o2, ho2, hc2, n2, hdt2⟩, i2⟩ := tq
    rw [e1, e2]
    refine PySem.W.kat_lt ho hdt ho2 hdt2 ?_
    have sz : decide (xs.size < ys.size) = false := by
      have l1 := i.length
      have l2 := i2.length
      rw [Array.length_toList] at l1 l2
      exact decide_eq_false (by omega)
    rw [sz]
    exact lexN i i2 (by omega) bp bq want
theorem sortN {a : Addr} {vs : List Value} {n d : Nat} {B : Int} {P : PySem.Fin → Shared → Prop} (ho : s.heap.get? a = some (seqObj "list" vs.toArray n)) (h64 : vs.length < 64) (hd : 1 ≤ d) (x : TokB s.heap d B vs) (r : Value → Int) (hr : ∀ v ∈ vs, ∀ ns, TS.TupInts s.heap v ns → r v = TS.code B ns)
    (h : ∀ out : Array Value, out.toList.Perm vs → out.toList.Pairwise (fun u v => r u ≤ r v) → P (.done (.ret .none)) { s with heap := sortedHeap s.heap a vs out }) : wpAny (model prog w) A (Builtin.«list.sort» ⟨[.ref a], []⟩) P E s := by
  have stays : ∀ b o, s.heap.get? b = some o → o.cls = .type "tuple" → (TS.midHeap s.heap a vs).get? b = some o := fun b o e hc => by
    refine TS.midHeap_old (fun z => ?_) e
    subst z
    rw [ho] at e
    cases e
    injection (show Value.type "list" = Value.type "tuple" from hc) with z
    exact absurd z (by decide)
  refine SK.plain_sort (r := r) ho h64 (fun h2 Q hQ => ?_) fun ps out e1 e2 e3 => ?_
  · refine kindN (B := B) (s := { s with heap := TS.midHeap s.heap a vs }) hd h2 (fun v hv => ?_) r (fun v hv ns t => ?_) Q hQ
    · obtain ⟨ns, t, l, b⟩ := x v hv
      exact ⟨ns, t.keeps stays, l, b⟩
    · obtain ⟨ns0, t0, _⟩ := x v hv
      rw [t.ints.symm.trans (t0.keeps stays).ints]
      exact hr v hv ns0 t0
  · obtain ⟨p, o⟩ := TS.out_rank e1 e2 e3
    exact h out p o
theorem sortedN {l : Addr} {vs : List Value} {d : Nat} {B : Int} {Q : Value → Shared → Prop} (hl : s.heap.IsList l vs.toArray) (h64 : vs.length < 64) (hd : 1 ≤ d) (x : TokB s.heap d B vs)
    (h : ∀ out : Array Value, out.toList.Perm vs → out.toList.Pairwise (fun u v => TS.code B (TS.intsOf s.heap u) ≤ TS.code B (TS.intsOf s.heap v)) → Q (.ref (s.heap.objs.size + 1)) { s with heap := sortedAll s.heap vs out }) :
    wpAny (model prog w) A (call (.builtin "sorted") [.ref l]) Q E s := by
  refine Calls.call_function_entry kind_sorted plain_sorted entry_sorted (args_sorted1 _) ?_
  unfold Builtin.«sorted»
  have sm : vs.length ≤ sizeLine := by rw [sizeLine_eq]; omega
  refine wpAny_bind (m := checkCount "sorted" 1 1 _) (wpAny_pure (wpAny_bind (collect_list hl (wpAny_bind (wpAny_newList ?_ (by simpa using sm))) (by simpa using sm))))
  obtain ⟨h0, e0⟩ : ∃ h0, h0 = (s.heap.push (seqObj "list" #[] 0)).update s.heap.objs.size (Obj.mapSeq (· ++ vs.toArray)) := ⟨_, rfl⟩
  have z0 : h0.objs.size = s.heap.objs.size + 1 := by rw [e0, Heap.size_update, size_push']
  have here : (h0.push (seqObj "list" vs.toArray 0)).get? (s.heap.objs.size + 1) = some (seqObj "list" vs.toArray 0) := by
    rw [← z0]
    exact Heap.get?_push_size _ rfl
  have stays : ∀ b o, s.heap.get? b = some o → o.cls = .type "tuple" → (h0.push (seqObj "list" vs.toArray 0)).get? b = some o := fun b o q _ => by
    have lt : b < s.heap.objs.size := Heap.lt_size q
    rw [Heap.get?_push_ne _ _ _ (by rw [z0]; exact Nat.ne_of_lt (Nat.lt_succ_of_lt lt)), e0, Heap.get?_update_ne _ _ _ _ (Nat.ne_of_lt lt), Heap.get?_push_ne _ _ _ (Nat.ne_of_lt lt)]
    exact q
  dsimp only
  rw [← e0, z0]
  refine wpAny_bind (wpAny_holding (wpAny_call_entry slot_list_sort ⟨_, here, rfl⟩ entry_list_sort (sortN (s := { s with heap := h0.push (seqObj "list" vs.toArray 0) }) (B := B) here h64 hd (fun v hv => ?_) (fun v => TS.code B (TS.intsOf s.heap v)) (fun v hv ns t => ?_) fun out a1 a2 => ⟨_, rfl, ?_⟩) (args_list_sort _)))
  · obtain ⟨ns, t, l, b⟩ := x v hv
    exact ⟨ns, t.keeps stays, l, b⟩
  · obtain ⟨ns0, t0, _⟩ := x v hv
    rw [t.ints.symm.trans (t0.keeps stays).ints]
    show TS.code B (TS.intsOf s.heap v) = TS.code B ns0
    rw [t0.ints]
  · have q := h out a1 a2
    unfold sortedAll at q
    rw [← e0] at q
    exact wpAny_pure ⟨_, rfl, q⟩
end
def rSrtN (K : PySem.W.Frag) (d : Nat) (B : Int) : List V → Hp → VK → Prop := fun vs H Q => ∃ (a : Addr) (xs : List V), vs = [V.ref a] ∧ SqL K H a xs ∧ xs.length < 64 ∧ (∀ x ∈ xs, ∃ ns, TupI K H x ns ∧ ns.length = d ∧ TS.Bd B ns.tail) ∧
  ∀ (ys : List V) (p : Addr), ys.Perm xs → ys.Pairwise (fun x y => ∀ n m, TupI K H x n → TupI K H y m → TS.code B n ≤ TS.code B m) → H p = none → Q (.ref p) (upd H p (.lst ys))
theorem cr_srtN {X : Cx} {d : Nat} {B : Int} (hd : 1 ≤ d) : CallR X (.builtin "sorted") (rSrtN X.K d B) := by
  intro pins s σ H vs us Q I r h
  obtain ⟨a, xs, rfl, hs, h64, hx, q⟩ := h
  obtain ⟨its, rv, hl, hz⟩ := I.list hs
  rw [Vals.ref1 r]
  obtain ⟨e1, e2⟩ := bkV_refs rv fun x m => by
    obtain ⟨ns, ⟨t, e, _⟩, _⟩ := hx x m
    exact ⟨t, e⟩
  refine sortedN (d := d) (B := B) hl.isList (by rw [← rv.length]; exact h64) hd (fun v hv => ?_) fun out p1 p2 => ?_
  · obtain ⟨t, rfl⟩ := e2 v hv
    obtain ⟨ns, ⟨t2, e, ht⟩, hn, hb⟩ := hx (.ref t) (by rw [e1]; exact List.mem_map.mpr ⟨_, hv, rfl⟩)
    cases e
    exact ⟨ns, tupI_raw I ht, hn, hb⟩
  · obtain ⟨ep, he⟩ := PyProof.Rows.sortedAll_at s.heap its out
    have refs : ∀ u ∈ out.toList, ∃ a, u = Value.ref a := fun u hu => e2 u (p1.mem_iff.mp hu)
    have perm : (out.toList.map bkV).Perm xs := by
      rw [e1]
      exact p1.map bkV
    refine ⟨.ref _, upd H (s.heap.objs.size + 1) (.lst (out.toList.map bkV)), I.laid (t' := s.toks) (fun _ _ => PyProof.Rows.sortedAll_old) (Nat.le_succ _) ⟨by rw [perm.length_eq]; exact hz, out.toList, ep, bkV_vals refs, he⟩, rfl, q _ _ perm ?_ (I.hok.fresh (Nat.le_succ _))⟩
    rw [List.pairwise_map]
    refine List.Pairwise.imp (fun {u v} le n m hn hm => ?_) p2
    obtain ⟨t, et, ht⟩ := hn
    obtain ⟨t2, et2, ht2⟩ := hm
    rw [bkV_ref et, bkV_ref et2, (tupI_raw I ht).ints, (tupI_raw I ht2).ints] at le
    exact le
end Fk
namespace Fk
open PySem PySem.Spec PyProof.Rows L2
abbrev bB : Int := 1099511627776
def keyT : AV → List Int
  | .tup xs => (asIs xs).getD []
  | _ => []
def rkT (x : AV) : Int := TS.code bB (keyT x)
/-- a tuple of d ints, the first of any sign -/
def okK (d : Nat) : AV → Bool
  | .tup xs => match asIs xs with
    | some ns => decide (ns.length = d) && ns.tail.all fun m => decide (0 ≤ m) && decide (m < bB)
    | none => false
  | _ => false
def insR (x : AV) : List AV → List AV
  | [] => [x]
  | y :: ys => if rkT x ≤ rkT y then x :: y :: ys else y :: insR x ys
def srtR : List AV → List AV
  | [] => []
  | x :: xs => insR x (srtR xs)
theorem insR_perm (x : AV) : ∀ ys, (insR x ys).Perm (x :: ys)
  | [] => .refl _
  | y :: ys => by
    unfold insR
    split
    · exact .refl _
    · exact ((insR_perm x ys).cons y).trans (.swap x y ys)
theorem srtR_perm : ∀ xs, (srtR xs).Perm xs
  | [] => .refl _
  | x :: xs => (insR_perm x (srtR xs)).trans ((srtR_perm xs).cons x)
theorem insR_srt (x : AV) : ∀ ys, ys.Pairwise (fun a b => rkT a ≤ rkT b) → (insR x ys).Pairwise (fun a b => rkT a ≤ rkT b)
  | [], _ => by simp [insR]
  | y :: ys, h => by
    obtain ⟨h1, h2⟩ := List.pairwise_cons.mp h
    unfold insR
    split
    · rename_i c
      refine List.pairwise_cons.mpr ⟨fun z hz => ?_, h⟩
      rcases List.mem_cons.mp hz with rfl | hz
      · exact c
      · have := h1 z hz
        omega
    · rename_i c
      refine List.pairwise_cons.mpr ⟨fun z hz => ?_, insR_srt x ys h2⟩
      rcases List.mem_cons.mp ((insR_perm x ys).mem_iff.mp hz) with rfl | hz
      · omega
      · exact h1 z hz
theorem srtR_srt : ∀ xs, (srtR xs).Pairwise (fun a b => rkT a ≤ rkT b)
  | [] => .nil
  | x :: xs => insR_srt x _ (srtR_srt xs)
theorem code_injB {B : Int} : ∀ {ns ms : List Int}, ns.length = ms.length → TS.Bd B ns.tail → TS.Bd B ms.tail → TS.code B ns = TS.code B ms → ns = ms
  | [], [], _, _, _, _ => rfl
  | [], _ :: _, h, _, _, _ => by simp at h
  | _ :: _, [], h, _, _, _ => by simp at h
  | p :: ns, q :: ms, hl, h1, h2, e => by
    have hl2 : ns.length = ms.length := by simpa using hl
    have pq : p = q := by
      rcases Int.lt_trichotomy p q with y | y | y
      · have := TS.code_lt (B := B) hl2 h1 h2 y
        omega
      · exact y
      · have := TS.code_lt (B := B) hl2.symm h2 h1 y
        omega
    subst pq
    have e2 : TS.code B ns = TS.code B ms := by
      have e3 : p * B ^ ns.length + TS.code B ns = p * B ^ ms.length + TS.code B ms := e
      rw [hl2] at e3
      omega
    have t1 : TS.Bd B ns.tail := fun m hm => h1 m (List.mem_of_mem_tail hm)
    have t2 : TS.Bd B ms.tail := fun m hm => h2 m (List.mem_of_mem_tail hm)
    rw [code_injB hl2 t1 t2 e2]
theorem okK_i {d : Nat} {x : AV} (h : okK d x = true) : ∃ ns : List Int, x = .tup (ns.map AV.int) ∧ keyT x = ns ∧ ns.length = d ∧ TS.Bd bB ns.tail := by
  cases x with
  | tup xs =>
    unfold okK at h
    cases e : asIs xs with
    | none => simp [e] at h
    | some ns =>
      simp only [e, Bool.and_eq_true, decide_eq_true_eq, List.all_eq_true] at h
      have ex : xs = ns.map AV.int := by
        clear h
        induction xs generalizing ns with
        | nil => cases e; rfl
        | cons x xs ih =>
          cases x with
          | int i =>
            unfold asIs at e
            obtain ⟨ms, em, rfl⟩ := Option.map_eq_some_iff.mp e
            rw [ih ms em]
            rfl
          | _ => cases e
      refine ⟨ns, by rw [ex], by simp [keyT, e], h.1, fun m hm => ?_⟩
      exact h.2 m hm
  | _ => cases h
theorem rk_inj {d : Nat} {x y : AV} (hx : okK d x = true) (hy : okK d y = true) (e : rkT x = rkT y) : x = y := by
  obtain ⟨ns, rfl, k1, l1, b1⟩ := okK_i hx
  obtain ⟨ms, rfl, k2, l2, b2⟩ := okK_i hy
  unfold rkT at e
  rw [k1, k2] at e
  rw [code_injB (by omega) b1 b2 e]
theorem srtR_uniq {d : Nat} {xs ys : List AV} (p : ys.Perm xs) (hs : ys.Pairwise (fun a b => rkT a ≤ rkT b)) (ok : ∀ x ∈ xs, okK d x = true) : ys = srtR xs := by
  have e : ys.map rkT = (srtR xs).map rkT := srt_uniq ((p.trans (srtR_perm xs).symm).map rkT) (List.pairwise_map.mpr hs) (List.pairwise_map.mpr (srtR_srt xs))
  have o1 : ∀ x ∈ ys, okK d x = true := fun x hx => ok x (p.mem_iff.mp hx)
  have o2 : ∀ x ∈ srtR xs, okK d x = true := fun x hx => ok x ((srtR_perm xs).mem_iff.mp hx)
  generalize srtR xs = zs at e o2
  clear p hs ok
  induction ys generalizing zs with
  | nil =>
    cases zs with
    | nil => rfl
    | cons z zs => cases e
  | cons y ys ih =>
    cases zs with
    | nil => cases e
    | cons z zs =>
      injection e with e1 e2
      rw [rk_inj (o1 y (by simp)) (o2 z (by simp)) e1, ih (fun x hx => o1 x (by simp [hx])) zs e2 (fun x hx => o2 x (by simp [hx]))]
def lenT : AV → Nat
  | .tup xs => xs.length
  | _ => 0
def okRow (xs : List AV) : Bool := decide (xs.length < 64) && (match xs with
  | [] => true
  | x :: ys => decide (1 ≤ lenT x) && (x :: ys).all (okK (lenT x)))
def fSrtT (_ : List AV) : List AV → Option (List AV)
  | [.lst _ xs] => if okRow xs = true then some (srtR xs) else none
  | _ => none
def fSrt2 (S xs : List AV) : Option (List AV) := match fSrt S xs with
  | some r => some r
  | none => fSrtT S xs
def uSrt2 (K : PySem.W.Frag) : List V → Hp → VK → Prop := fun vs H Q => uSrt K vs H Q ∨ ∃ d, 1 ≤ d ∧ rSrtN K d bB vs H Q
theorem c_srt2 {X : Cx} (hc : X.calm = true) : CallR X (.builtin "sorted") (uSrt2 X.K) := CallR.or (c_srt hc) (fun pins s σ H xs us Q I r h => by
  obtain ⟨d, hd, h⟩ := h
  exact cr_srtN hd pins s σ H xs us Q I r h)
section
variable {K : PySem.W.Frag} {H : Hp} {W m : List Addr}
theorem rp_perm {vs ws : List V} (p : ws.Perm vs) : ∀ {xs : List AV}, Rp K H W m vs xs [] → ∃ ys, ys.Perm xs ∧ Rp K H W m ws ys [] := by
  induction p with
  | nil => exact fun r => ⟨_, .refl _, r⟩
  | @cons v l1 l2 _ ih =>
    intro xs r
    cases xs with
    | nil => cases r.nil_inv.1
    | cons x xs =>
      obtain ⟨ys, p1, r1⟩ := ih r.head0.2
      exact ⟨x :: ys, p1.cons x, r.head0.1.cons0 r1⟩
  | swap a b l =>
    intro xs r
    cases xs with
    | nil => cases r.nil_inv.1
    | cons x xs =>
      cases xs with
      | nil => cases r.head0.2.nil_inv.1
      | cons y xs => exact ⟨y :: x :: xs, .swap x y xs, r.head0.2.head0.1.cons0 (r.head0.1.cons0 r.head0.2.head0.2)⟩
  | trans _ _ ih1 ih2 =>
    intro xs r
    obtain ⟨ys, p1, r1⟩ := ih2 r
    obtain ⟨zs, p2, r2⟩ := ih1 r1
    exact ⟨zs, p2.trans p1, r2⟩
theorem tupI_of {v : V} {x : AV} {ns : List Int} (r : Rp K H W m [v] [x] []) (e : x = .tup (ns.map AV.int)) : TupI K H v ns := by
  subst e
  cases r with
  | @tup a us _ _ _ _ h q _ =>
    have eu : us = ns.map V.int := by
      clear h
      induction ns generalizing us with
      | nil => exact q.nil_inv.1
      | cons n ns ih =>
        cases us with
        | nil => cases q.nil_inv'.1
        | cons u us =>
          have q0 := Rp.head0 (show Rp K H W m (u :: us) (.int n :: ns.map AV.int) [] from q)
          rw [ih q0.2]
          cases q0.1
          rfl
    subst eu
    exact ⟨a, rfl, h⟩
theorem o_srt2 : OpL K (uSrt2 K) fSrt2 := by
  intro Γ σ H st p m ar am ao ab vs xs as ys Q R r e h
  unfold fSrt2 at e
  cases ef : fSrt st.s xs with
  | some t =>
    rw [ef] at e
    cases e
    exact .inl (o_srt Γ σ H st p m ar am ao ab vs xs as ys Q R r ef h)
  | none =>
    rw [ef] at e
    simp only at e
    right
    unfold fSrtT at e
    split at e
    · rename_i o zs
      split at e
      · rename_i c
        cases e
        obtain ⟨v, rfl, r1⟩ := r.one
        obtain ⟨a, us, rfl, hs, q⟩ := r1.lst_i
        unfold okRow at c
        rw [Bool.and_eq_true, decide_eq_true_eq] at c
        obtain ⟨c1, c2⟩ := c
        obtain ⟨d, hd, ok⟩ : ∃ d, 1 ≤ d ∧ ∀ x ∈ zs, okK d x = true := by
          cases zs with
          | nil => exact ⟨1, by omega, fun _ z => nomatch z⟩
          | cons x zs =>
            rw [Bool.and_eq_true, decide_eq_true_eq, List.all_eq_true] at c2
            exact ⟨_, c2.1, c2.2⟩
        refine ⟨d, hd, a, us, rfl, SqL.of hs, by rw [q.len]; exact c1, fun u hu => ?_, fun ws q' pm ps hq => ?_⟩
        · obtain ⟨j, hj, ej⟩ := List.getElem_of_mem hu
          have hj2 : j < zs.length := by rw [← q.len]; exact hj
          obtain ⟨u', eu, ru⟩ := q.get0 (List.getElem?_eq_getElem hj2)
          rw [List.getElem?_eq_getElem hj, ej] at eu
          cases eu
          obtain ⟨ns, e1, _, l1, b1⟩ := okK_i (ok _ (List.getElem_mem hj2))
          exact ⟨ns, tupI_of ru e1, l1, b1⟩
        · obtain ⟨ys, p1, r2⟩ := rp_perm pm q
          have hsrt : ys.Pairwise (fun a b => rkT a ≤ rkT b) := by
            have ok2 : ∀ x ∈ ys, okK d x = true := fun x hx => ok x (p1.mem_iff.mp hx)
            clear p1 pm hq h ef
            induction ws generalizing ys with
            | nil =>
              obtain ⟨rfl, _⟩ := r2.nil_inv'
              exact .nil
            | cons w ws ih =>
              cases ys with
              | nil => exact .nil
              | cons y ys =>
                obtain ⟨h1, h2⟩ := List.pairwise_cons.mp ps
                refine List.pairwise_cons.mpr ⟨fun z hz => ?_, ih h2 ys r2.head0.2 fun x hx => ok2 x (by simp [hx])⟩
                obtain ⟨j, hj, ej⟩ := List.getElem_of_mem hz
                obtain ⟨u', eu, ru⟩ := r2.head0.2.get0 (List.getElem?_eq_getElem hj)
                rw [ej] at ru
                obtain ⟨ns, e1, k1, _, _⟩ := okK_i (ok2 y (by simp))
                obtain ⟨ms, e2, k2, _, _⟩ := okK_i (ok2 z (by simp [hz]))
                have := h1 u' (List.mem_of_getElem? eu) ns ms (tupI_of r2.head0.1 e1) (tupI_of ru e2)
                unfold rkT
                rw [k1, k2]
                exact this
          rw [srtR_uniq p1 hsrt ok] at r2
          exact h q' ws hq r2
      · cases e
    · cases e
end
end Fk
/-! ## several names at once, some of them seen by comprehensions -/
namespace Fk
open PySem PySem.Spec PyProof.Rows L2
section
variable {X : Cx} {Γ : Gam} {W : WX} {σ : L2.St} {H H' : Hp} {st : Ss} {p : Pd} {K : PySem.W.Frag} {pos : Pos} {m ar am ao ab : List Addr}
end
end Fk
/-! ## methods of new lists; new lists by +; a place of a builder as a target -/
namespace Fk
open PySem PySem.Spec PyProof.Rows L2
section
variable {X : Cx} {Γ : Gam} {W : WX} {σ : L2.St} {H H' : Hp} {st : Ss} {p : Pd} {K : PySem.W.Frag} {pos apos cpos : Pos} {m ar am ao ab : List Addr}
def isL : AV → Bool
  | .lst _ _ => true
  | _ => false
/-- x.f(y), both of them values -/
def eBM (f : List AV → List AV → Option AV) (mo me : M AV) : M AV := fun st => (mo st).bind fun x s1 => bif isL x then (me s1).bind fun y s2 => ofO (f s2.s [x, y]) s2 else .bad
/-- a place of a list that is owned by a name -/
def gIx (i : Nat) (mk : Ss → Option AV) (d : AV) (st : Ss) : Option Ss := match ownL (getSl st.r i), mk st with
  | some xs, some y => (setIx xs y d).map fun ys => putL i ys st
  | _, _ => none
/-- x[i], y[j] = a, b -/
def sPut2 (i j : Nat) (ki kj : Ss → Option AV) (ma mb : M AV) : M Fl := fun st => (ma st).bind fun x s1 => (mb s1).bind fun y s2 => match gIx i ki x s2 with
  | some s3 => (match gIx j kj y s3 with
    | some s4 => .ok .nx s4
    | none => .bad)
  | none => .bad
end
end Fk
/-! ## min of a list of tuples of ints -/
namespace Fk
open PySem PySem.Spec PyProof.Rows L2 PySem.W
section
variable {K : PySem.W.Frag}
end
end Fk
/-! ## a, *b = t -/
namespace Fk
open PySem PySem.Spec PyProof.Rows L2 PySem.W
section
variable {prog : Program} {w : World} {A : Around} {E : Value → Shared → Prop} {s : Shared}
end
section
variable {X : Cx} {Γ : Gam} {W : WX} {pos : Pos}
end
end Fk
/-! ## except .. as e: the exception looked at -/
namespace Fk
open PySem PySem.Spec PyProof.Rows L2
/-- isinstance(e, ..), e the exception: it is the first object of the world that is looked at -/
def eIsX (i : Nat) (b : Bool) : M AV := fun st => match getSl st.r i with
  | .im (.loc 0) => .ok (.bl b) st
  | _ => .bad
section
variable {X : Cx} {Γ : Gam} {W : WX} {σ : L2.St} {H : Hp} {st : Ss} {p : Pd} {K : PySem.W.Frag} {U cs : List Str} {c : Str} {z : Addr × Obj}
end
section
variable {P : Program} {w : World} {K : PySem.W.Frag} {mg : Str → Option Value} {base : Heap} {k : Nat} {f : Addr} {fd : FuncData} {ps N U : List Str} {x qual : Str} {params : Arguments} {body : List Stmt} {scope : Scope} {dvs : List V} {kws : List (Str × V)} {T : List (Addr × Str)}
end
section
variable {X : Cx} {Γ : Gam} {W : WX} {σ : L2.St} {H : Hp} {st : Ss} {p : Pd} {K : PySem.W.Frag} {U cs : List Str} {c x : Str} {z : Addr × Obj} {q pos : Pos} {e : Expr} {es : List Expr} {k j n : Nat} {ps : List Str} {g : Str → Fn} {ma : M (List AV)}
/-! ### the clause -/
def atomA : AV → Bool
  | .non | .bl _ | .int _ | .str _ => true
  | _ => false
/-- data without objects: it may pass from one world to another -/
def flatA : AV → Bool
  | .non | .bl _ | .int _ | .str _ => true
  | .tup xs => xs.all atomA
  | .lst false xs => xs.all atomA
  | _ => false
def plainA : AV → Bool
  | .non | .bl _ | .int _ | .str _ => true
  | .tup xs => xs.all atomA
  | _ => false
def mskS : List Bool → List Sl → List Sl
  | _, [] => []
  | [], _ :: r => .no :: mskS [] r
  | b :: bs, x :: r => (bif b then (match x with
    | .im d => bif flatA d then .im d else .no
    | _ => .no) else .no) :: mskS bs r
def hxS (keep : List Bool) (n : Nat) (r : List Sl) : List Sl := setSl (mskS keep r) n (.im (.loc 0))
def sTryAs (U cs : List Str) (n : Nat) (keep : List Bool) (mb : M Fl) (mh : Str → M Fl) : M Fl := fun st => match mb st with
  | .err c s1 => if c ∈ U then (if c ∈ cs then (match mh c ⟨hxS keep n s1.r, [.ded]⟩ with
    | .ok (.rt d) _ => bif plainA d then .ok (.rt d) s1 else .bad
    | _ => .bad) else .err c s1) else .bad
  | r => r
end
end Fk
/-! ## lambdas without parameters -/
namespace Fk
open PySem PySem.Spec PyProof.Rows L2 LamX
section
variable {X : Cx} {pins : List (Addr × Obj)} {σ : L2.St} {H : Hp} {s : Shared}
end
section
variable {K : PySem.W.Frag} {Γ : Gam} {σ : L2.St} {H H1 : Hp} {st : Ss} {p : Pd} {P c' : Addr} {q : Str}
def imS : Sl → Sl
  | .im d => .im d
  | _ => .no
theorem Rs.imS {W m ar : List Addr} {r : List Sl} (q : Rs K H W m σ r ar) : Rs K H W m σ (r.map Fk.imS) [] := by
  induction q with
  | nil => exact .nil
  | no _ i => exact .no i
  | im h _ i => exact .im h i
  | ow _ _ i => exact .no i
/-- what a lambda is worth, by its maker's names and the objects -/
def runL (me : M AV) (r : List Sl) (S : List AV) : Res AV (List AV) := match me ⟨r.map imS, S⟩ with
  | .ok d st => .ok d st.s
  | .err c st => .err c st.s
  | .bad => .bad
abbrev Thk := List AV → Res AV (List AV)
def eThk (g : Thk) : M AV := fun st => back st.r (g st.s)
end
section
variable {X : Cx} {pins : List (Addr × Obj)} {σ : L2.St} {H : Hp} {s : Shared} {Γ Γz : Gam} {W : WX}
end
end Fk
/-! ## a def that is handed a lambda -/
namespace Fk
open PySem PySem.Spec PyProof.Rows L2 LamX
section
variable {X : Cx} {Γ : Gam} {W : WX} {f : Addr} {pos : Pos} {U cs : List Str}
end
section
variable {P : Program} {w : World} {K : PySem.W.Frag} {mg : Str → Option Value} {base : Heap} {k : Nat} {f : Addr} {fd : FuncData} {N : List Str} {x qual a : Str} {params : Arguments} {body : List Stmt} {scope : Scope} {dvs : List V} {kws : List (Str × V)} {T : List (Addr × Str)}
end
def eSaid (mf : Thk → Fn) (me : M AV) : M AV := fun st => back st.r (mf (runL me st.r) [.ded] st.s)
section
variable {X : Cx} {Γ : Gam} {W : WX} {k j kk : Nat} {x a : Str} {mf : Thk → Fn} {me : M AV} {c P : Addr} {lp : Arguments} {lb : Expr} {ls : Scope} {p lpos pos : Pos}
end
end Fk
/-! ## defs that make lambdas; the law's call and its end, with tables of code -/
namespace Fk
open PySem PySem.Spec PyProof.Rows L2 LamX
section
variable {P : Program} {w : World} {K : PySem.W.Frag} {mg : Str → Option Value} {base : Heap} {k : Nat} {f : Addr} {fd : FuncData} {ps N : List Str} {sp : Sp} {x qual : Str} {params : Arguments} {body : List Stmt} {scope : Scope} {dvs : List V} {kws : List (Str × V)} {T : List (Addr × Str)}
end
end Fk
/-! ## calls with keywords -/
namespace Fk
open PySem PySem.Spec PyProof.Rows L2
/-- where a parameter's value comes from: the place, the keyword, the default of this number -/
inductive Src where
  | p (i : Nat) | k (j : Nat) | d (i : Nat)
def Src.get {α : Type} (xs zs ds : List α) : Src → Option α
  | .p i => xs[i]?
  | .k j => zs[j]?
  | .d i => ds[i]?
def srcs {α : Type} (xs zs ds : List α) : List Src → List α
  | [] => []
  | s :: r => match s.get xs zs ds with
    | some x => x :: srcs xs zs ds r
    | none => srcs xs zs ds r
section
variable {K : PySem.W.Frag} {H : Hp} {W m : List Addr}
end
/-! ### what a call with keywords binds -/
section
variable {K : PySem.W.Frag} {x qual : Str} {params : Arguments} {body : List Stmt} {scope : Scope} {dvs : List V} {kws : List (Str × V)} {f : Addr} {fd : FuncData} {ps : List Str}
end
def eCallK (np n m : Nat) (f : Fn) (ss : List Src) (ds : List AV) (ma mk : M (List AV)) : M AV := fun st => (ma st).bind fun xs s1 => (mk s1).bind fun zs s2 => if xs.length = n ∧ zs.length = m ∧ (srcs xs zs ds ss).length = np then back s2.r (f (srcs xs zs ds ss) s2.s) else .bad
def eMethK (C nm : Str) (np n m : Nat) (f : Fn) (ss : List Src) (ds : List AV) (mo : M AV) (ma mk : M (List AV)) : M AV := fun st => (mo st).bind fun x s1 => bif clsOk s1.s C nm x then (ma s1).bind fun xs s2 => (mk s2).bind fun zs s3 => if xs.length = n ∧ zs.length = m ∧ (srcs (x :: xs) zs ds ss).length = np then back s3.r (f (srcs (x :: xs) zs ds ss) s3.s) else .bad else .bad
def eMakeK (C : Str) (np n m : Nat) (f : Fn) (ss : List Src) (ds : List AV) (ma mk : M (List AV)) : M AV := fun st => (ma st).bind fun xs s1 => (mk s1).bind fun zs s2 => if xs.length = n ∧ zs.length = m ∧ (srcs (.loc s2.s.length :: xs) zs ds ss).length = np then mkBack s2.r s2.s.length (f (srcs (.loc s2.s.length :: xs) zs ds ss) (s2.s ++ [.ins C [] []])) else .bad
section
variable {X : Cx} {Γ : Gam} {W : WX} {σ : L2.St} {H : Hp} {st : Ss} {p : Pd} {K : PySem.W.Frag} {pos apos q kpos : Pos} {o e : Expr} {es : List Expr} {kws : List Keyword} {x : Str} {k j n m np : Nat} {C nm : Str} {ps ks : List Str} {ss : List Src} {ds : List AV} {f : Fn} {mo me : M AV} {ma mk : M (List AV)}
end
end Fk
/-! ## sets of ints by comprehensions, their length -/
namespace Fk
open PySem PySem.Spec PyProof.Rows L2 PpSet
section
variable {X : Cx}
end
/-! ### the rule -/
def addK (ks : List Int) (k : Int) : List Int := if k ∈ ks then ks else ks ++ [k]
def compS (t : Tg) (tt : M Bool) (te : M AV) (vs : List Nat) : List AV → List Int → Ss → Res (List Int) Ss
  | [], ks, st => .ok ks st
  | d :: ds, ks, st => match t d st with
    | none => .bad
    | some s0 => match tt s0 with
      | .ok false s1 => compS t tt te vs ds ks (s1.wipe vs)
      | .ok true s1 => match te s1 with
        | .ok (.int k) s2 => if ks.length < 1000 then compS t tt te vs ds (addK ks k) (s2.wipe vs) else .bad
        | _ => .bad
      | _ => .bad
def eSc (mi : M (List AV)) (t : Tg) (tt : M Bool) (te : M AV) (vs : List Nat) : M AV := fun st => (mi st).bind fun ds s1 => (compS t tt te vs ds [] (s1.wipe vs)).bind fun ks s2 => .ok (.set ks) s2
def eLenS (m : M AV) : M AV := fun st => (m st).bind fun d s1 => match d with
  | .set ks => if ks.length < 1000 then .ok (.int ks.length) s1 else .bad
  | _ => .bad
section
variable {X : Cx} {Γ : Gam} {W : WX} {σ : L2.St} {H : Hp} {st : Ss} {p : Pd} {K : PySem.W.Frag} {pos q pos' : Pos}
end
end Fk
/-! ## twins: list(d.items()), rows copied, several attributes at once -/
namespace Fk
open PySem PySem.Spec PyProof.Rows L2 LiI
section
variable {X : Cx} {Γ : Gam} {W : WX} {σ : L2.St} {H H' : Hp} {st : Ss} {p : Pd} {K : PySem.W.Frag} {pos apos cpos q q1 q2 q3 q4 q5 : Pos} {o e : Expr} {C f : Str} {fs : List Str}
theorem Rl.ext {m ar am ao ab : List Addr} (R : Rl K Γ σ H st p m ar am ao ab) (x : ∀ b o, H b = some o → H' b = some o) : Rl K Γ σ H' st p m ar am ao ab := by
  have t : Tr H H' (wOf Γ ar am ao) (wOf Γ ar am ao) m m [] := ⟨⟨fun b o e _ _ => x b o e, fun _ z => nomatch z⟩, (fun _ z => nomatch z), (fun _ _ n => n), (fun _ _ e => e)⟩
  refine ⟨t.rs R.rs (fun _ _ z => nomatch z), t.rp R.rm (fun _ _ z => nomatch z), t.rp0 R.ri, t.rp R.ro (fun _ _ z => nomatch z), t.rp R.rb (fun _ _ z => nomatch z), R.nd, R.fr, fun a u e n => ?_, R.pm, R.gu, ⟨R.tb.t.ext x⟩⟩
  obtain ⟨o', e', f⟩ := R.kp a u e n
  exact ⟨o', x _ _ e', f⟩
/-! ### list(d.items()) -/
def kA : Key → AV
  | .inl i => .int i
  | .inr x => .str x
/-! ### [list(row) for row in e.f] -/
def rowOk : AV → Bool
  | .lst true ys => ys.all atomA
  | _ => false
def eCpN (C f : Str) (mo : Ss → Option AV) : M AV := fun st => match pFld C f mo st with
  | some (.nst xs) => bif xs.all rowOk && decide (xs.length < 16777216) then .ok (.nst xs) st else .bad
  | _ => .bad
def sAt2 (C f g : Str) (mo mq : Ss → Option AV) (ma mb : M AV) : M Fl := fun st => (ma st).bind fun x s1 => (mb s1).bind fun y s2 => match (mo s2).bind fun z => putFld C f z x s2 with
  | some s3 => (match (mq s3).bind fun z => putFld C g z y s3 with
    | some s4 => .ok .nx s4
    | none => .bad)
  | none => .bad
def sAt3 (C f g k : Str) (mo mq mr : Ss → Option AV) (ma mb mc : M AV) : M Fl := fun st => (ma st).bind fun x s1 => (mb s1).bind fun y s2 => (mc s2).bind fun w s3 => match (mo s3).bind fun z => putFld C f z x s3 with
  | some s4 => (match (mq s4).bind fun z => putFld C g z y s4 with
    | some s5 => (match (mr s5).bind fun z => putFld C k z w s5 with
      | some s6 => .ok .nx s6
      | none => .bad)
    | none => .bad)
  | none => .bad
end
end Fk
/-! ## tuples that were made by tuple(..): they have no dict; t.index(x) -/
namespace Fk
open PySem PySem.Spec PyProof.Rows L2
def eIxD (mo me : M AV) : M AV := fun st => (mo st).bind fun x s1 => match x with
  | .tud xs => (me s1).bind fun y s2 => if okA (.tup xs) && okA y then ofO (((dats xs).findIdx? fun w => PyData.eqv w (dat y)).map fun j => AV.int (j : Nat)) s2 else .bad
  | _ => .bad
section
variable {X : Cx} {Γ : Gam} {W : WX} {σ : L2.St} {H : Hp} {st : Ss} {p : Pd} {K : PySem.W.Frag} {apos cpos : Pos} {o e : Expr} {mo me m : M AV}
end
end Fk
/-! ## list(range(n)) -/
namespace Fk
open PySem PySem.Spec PyProof.Rows L2
section
variable {X : Cx} {Γ : Gam} {W : WX} {pos q q2 pos2 : Pos} {e : Expr} {m : M AV}
end
end Fk
/-! ## text or text -/
namespace Fk
open PySem PySem.Spec PyProof.Rows L2
def strB : AV → Option Bool
  | .str y => if y.length ≤ 1000 then some ((y.length : Int) != 0) else none
  | _ => none
def eOrS (a b : M AV) : M AV := fun st => (a st).bind fun x s1 => (ofO (strB x) s1).bind fun c s2 => bif c then .ok x s2 else b s2
section
variable {X : Cx} {Γ : Gam} {W : WX} {pos : Pos} {a b : Expr} {rest : List Expr} {ma mb : M AV}
end
end Fk
/-! ## d.update(d2) -/
namespace Fk
open PySem PySem.Spec PyProof.Rows L2
def mrgKA (t : List Key × List AV) : List Key → List AV → List Key × List AV
  | k :: ks, x :: xs => mrgKA (putKA t.1 t.2 k x) ks xs
  | _, _ => t
section
variable {X : Cx} {pins : List (Addr × Obj)} {σ : L2.St} {H : Hp} {s : Shared} {a b : Addr} {A : Around} {E : Value → Shared → Prop}
end
section
variable {X : Cx} {o e : Expr} {td ty : TE} {apos cpos : Pos}
end
end Fk
namespace Fk
open PySem PySem.Spec PyProof.Rows L2
def dctI : AV → Option (List Key × List AV)
  | .dct false ks xs => some (ks, xs)
  | _ => none
def eUpdD (i : Nat) (m : M AV) : M AV := fun st => match ownD (getSl st.r i) with
  | none => .bad
  | some _ => (m st).bind fun d s1 => match ownD (getSl s1.r i), dctI d with
    | some (ks, xs), some (ks2, xs2) => if ks.length + ks2.length ≤ 16777216 then .ok .non (putD i (mrgKA (ks, xs) ks2 xs2).1 (mrgKA (ks, xs) ks2 xs2).2 s1) else .bad
    | _, _ => .bad
@[simp] theorem k_eUpdD (i : Nat) (m : M AV) (r0 : List Sl) (s0 : List AV) : eUpdD i m (Ss.mk r0 s0) = match ownD (getSl r0 i) with
  | none => .bad
  | some _ => (m (Ss.mk r0 s0)).bind fun d s1 => match ownD (getSl s1.r i), dctI d with
    | some (ks, xs), some (ks2, xs2) => if ks.length + ks2.length ≤ 16777216 then .ok .non (putD i (mrgKA (ks, xs) ks2 xs2).1 (mrgKA (ks, xs) ks2 xs2).2 s1) else .bad
    | _, _ => .bad := id rfl
section
variable {X : Cx} {Γ : Gam} {W : WX} {σ : L2.St} {H : Hp} {st : Ss} {p : Pd} {K : PySem.W.Frag} {apos cpos q : Pos} {ev : Expr} {x : Str} {i : Nat} {mv : M AV}
end
end Fk
/-! ## {k: v} of two ints -/
namespace Fk
open PySem PySem.Spec PyProof.Rows L2
section
variable {X : Cx} {Γ : Gam} {W : WX} {pos : Pos}
def eD1 (k v : Int) : M AV := fun st => .ok (.dct true [.inl k] [.int v]) st
theorem s_d1 {k v : Int} {j1 j2 : Nat} {p1 p2 : Pos} : PE X (.Dict [some (.Constant (.int k) j1 p1)] [.Constant (.int v) j2 p2] pos) (rdO X.K Γ W (eD1 k v)) := by
  refine pe_imp (pe_disp (pps_cons pe_int pe_int pps_nil) rfl rfl (by simp) (by simp)) fun σ H Q h => ?_
  obtain ⟨st, p, R, h⟩ := h
  intro a ha
  obtain ⟨m, ar, am, ao, ab, R⟩ := R
  show upd H a (.dK []) a = some (.dK []) ∧ ∃ kvs : List (Key × V), [((.int k : V), (.int v : V))] = kvs.map (fun kv => (kV kv.1, kv.2)) ∧ kvs.length ≤ 15 ∧ Q (.ref a) (upd (upd H a (.dK [])) a (.dK (mergeK [] kvs)))
  refine ⟨upd_same, [(.inl k, .int v)], rfl, by simp, ?_⟩
  have e : upd (upd H a (.dK [])) a (.dK (mergeK [] [((.inl k : Key), (.int v : V))])) = upd H a (.dK [((.inl k : Key), (.int v : V))]) := by
    funext b
    unfold upd
    split <;> rfl
  rw [e]
  exact h _ _ (R.nob.newO ha fun t h1 => .dcO (kvs := [(.inl k, .int v)]) h1 rfl (.int .nil) .nil).rel
@[simp] theorem k_eD1 (k v : Int) (r0 : List Sl) (s0 : List AV) : eD1 k v (Ss.mk r0 s0) = .ok (.dct true [.inl k] [.int v]) (Ss.mk r0 s0) := id rfl
end
end Fk
/-! ## {k: v, ..} with written keys -/
namespace Fk
open PySem PySem.Spec PyProof.Rows L2
section
variable {X : Cx} {Γ : Gam} {W : WX} {σ : L2.St} {H : Hp} {st : Ss} {p : Pd} {K : PySem.W.Frag} {pos : Pos}
def eDsp (ks : List Key) (a : M (List AV)) : M AV := fun st => (a st).bind fun xs s1 => if xs.length = ks.length then .ok (.dct true ks xs) s1 else .bad
@[simp] theorem k_eDsp (ks : List Key) (a : M (List AV)) (r0 : List Sl) (s0 : List AV) : eDsp ks a (Ss.mk r0 s0) = (a (Ss.mk r0 s0)).bind fun xs s1 => if xs.length = ks.length then .ok (.dct true ks xs) s1 else .bad := id rfl
end
end Fk
/-! ## o.f.append(x); {k: v for ..} -/
namespace Fk
open PySem PySem.Spec PyProof.Rows L2
def ownLst : AV → Option (List AV)
  | .lst true xs => some xs
  | _ => none
theorem ownLst_eq {z : AV} {xs : List AV} (h : ownLst z = some xs) : z = .lst true xs := by
  unfold ownLst at h
  split at h
  · cases h; rfl
  · cases h
def eAppP (fo : Option (Str × Str)) (mo me : Ss → Option AV) : M AV := fun st => match (mo st).bind locOf with
  | none => .bad
  | some l => match me st, (getPl st.s l fo).bind ownLst with
    | some d, some xs => if imm d = true ∧ xs.length < 16777216 then .ok .non ⟨st.r, setPl st.s l fo (.lst true (xs ++ [d]))⟩ else .bad
    | _, _ => .bad
@[simp] theorem k_eAppP (fo : Option (Str × Str)) (mo me : Ss → Option AV) (r0 : List Sl) (s0 : List AV) : eAppP fo mo me (Ss.mk r0 s0) = match (mo (Ss.mk r0 s0)).bind locOf with
  | none => .bad
  | some l => match me (Ss.mk r0 s0), (getPl s0 l fo).bind ownLst with
    | some d, some xs => if imm d = true ∧ xs.length < 16777216 then .ok .non ⟨r0, setPl s0 l fo (.lst true (xs ++ [d]))⟩ else .bad
    | _, _ => .bad := id rfl
section
variable {X : Cx} {Γ : Gam} {W : WX} {σ : L2.St} {H : Hp} {st : Ss} {p : Pd} {K : PySem.W.Frag} {apos cpos : Pos} {o e : Expr} {mo me : Ss → Option AV} {fo : Option (Str × Str)}
end
/-! ### dict comprehensions -/
def compD (t : Tg) (tt : M Bool) (tk tv : M AV) (vs : List Nat) : List AV → List Key → List AV → Ss → Res (List Key × List AV) Ss
  | [], ks, xs, st => .ok (ks, xs) st
  | d :: ds, ks, xs, st => match t d st with
    | none => .bad
    | some s0 => match tt s0 with
      | .ok false s1 => compD t tt tk tv vs ds ks xs (s1.wipe vs)
      | .ok true s1 => match tk s1 with
        | .ok y s2 => match tv s2 with
          | .ok z s3 => match keyA y with
            | some k => if ks.length < 16777216 then compD t tt tk tv vs ds (putKA ks xs k z).1 (putKA ks xs k z).2 (s3.wipe vs) else .bad
            | none => .bad
          | _ => .bad
        | _ => .bad
      | _ => .bad
def eDc (mi : M (List AV)) (t : Tg) (tt : M Bool) (tk tv : M AV) (vs : List Nat) : M AV := fun st => (mi st).bind fun ds s1 => (compD t tt tk tv vs ds [] [] (s1.wipe vs)).bind fun a s2 => .ok (.dct true a.1 a.2) s2
@[simp] theorem k_eDc (mi : M (List AV)) (t : Tg) (tt : M Bool) (tk tv : M AV) (vs : List Nat) (r0 : List Sl) (s0 : List AV) : eDc mi t tt tk tv vs (Ss.mk r0 s0) = (mi (Ss.mk r0 s0)).bind fun ds s1 => (compD t tt tk tv vs ds [] [] (s1.wipe vs)).bind fun a s2 => .ok (.dct true a.1 a.2) s2 := id rfl
section
variable {X : Cx} {Γ : Gam} {W : WX} {σ : L2.St} {H : Hp} {st : Ss} {p : Pd} {K : PySem.W.Frag} {pos : Pos}
end
end Fk
/-! ## [n for n, t in enumerate(o.f) if t is None], [C if t is None else t for t in o.f] -/
namespace Fk
open PySem PySem.Spec PyProof.Rows L2
def nonAt (n : Nat) : List AV → List AV
  | [] => []
  | x :: xs => if isN x = true then .int n :: nonAt (n + 1) xs else nonAt (n + 1) xs
def eWtF (C f : Str) (mo : Ss → Option AV) : M AV := fun st => match (pFld C f mo st).bind ownLst with
  | some xs => if xs.length < 16777216 then .ok (.lst false (nonAt 0 xs)) st else .bad
  | none => .bad
@[simp] theorem k_eWtF (C f : Str) (mo : Ss → Option AV) (r0 : List Sl) (s0 : List AV) : eWtF C f mo (Ss.mk r0 s0) = match (pFld C f mo (Ss.mk r0 s0)).bind ownLst with
  | some xs => if xs.length < 16777216 then .ok (.lst false (nonAt 0 xs)) (Ss.mk r0 s0) else .bad
  | none => .bad := id rfl
def eGnF (C f : Str) (mo : Ss → Option AV) (g : AV) : M AV := fun st => match (pFld C f mo st).bind ownLst with
  | some xs => if xs.length < 16777216 then .ok (.lst true (xs.map fun x => if isN x = true then g else x)) st else .bad
  | none => .bad
@[simp] theorem k_eGnF (C f : Str) (mo : Ss → Option AV) (g : AV) (r0 : List Sl) (s0 : List AV) : eGnF C f mo g (Ss.mk r0 s0) = match (pFld C f mo (Ss.mk r0 s0)).bind ownLst with
  | some xs => if xs.length < 16777216 then .ok (.lst true (xs.map fun x => if isN x = true then g else x)) (Ss.mk r0 s0) else .bad
  | none => .bad := id rfl
section
variable {X : Cx} {Γ : Gam} {W : WX} {σ : L2.St} {H : Hp} {st : Ss} {p : Pd} {K : PySem.W.Frag} {pos q1 q2 q4 q5 q6 q7 q8 q9 q10 tpos : Pos} {o : Expr} {C f : Str} {fs : List Str}
end
end Fk
/-! ## [(k, d[k]) for k in d], the dict one's own -/
namespace Fk
open PySem PySem.Spec PyProof.Rows L2
def wkT (ks : List Key) (xs : List AV) (l : List Key) : List AV := l.map fun k => .tup [kA k, (getK ks xs k).getD .non]
def wkOk (ks : List Key) (xs : List AV) : Bool := ks.all fun k => (getK ks xs k).isSome
def eWkD (i : Nat) : M AV := fun st => match ownD (getSl st.r i) with
  | some (ks, xs) => if ks.length < 16777216 ∧ wkOk ks xs = true then .ok (.lst false (wkT ks xs ks)) st else .bad
  | none => .bad
@[simp] theorem k_eWkD (i : Nat) (r0 : List Sl) (s0 : List AV) : eWkD i (Ss.mk r0 s0) = match ownD (getSl r0 i) with
  | some (ks, xs) => if ks.length < 16777216 ∧ wkOk ks xs = true then .ok (.lst false (wkT ks xs ks)) (Ss.mk r0 s0) else .bad
  | none => .bad := id rfl
section
variable {X : Cx} {Γ : Gam} {W : WX} {σ : L2.St} {H : Hp} {st : Ss} {p : Pd} {K : PySem.W.Frag} {pos q1 q2 q3 q4 q5 q6 sp tp : Pos}
end
end Fk
/-! ## for x in a list of the store -/
namespace Fk
open PySem PySem.Spec PyProof.Rows L2
def lstAt (s : List AV) (l : Nat) : Option (List AV) := (getPl s l none).bind ownLst
def forLM (l : Nat) (t : Tg) (body : M Fl) : Nat → Nat → M Fl
  | 0, i, st => match lstAt st.s l with
    | some zs => if zs.length ≤ i then .ok .nx st else .bad
    | none => .bad
  | n + 1, i, st => match lstAt st.s l with
    | none => .bad
    | some zs => match zs[i]? with
      | none => .ok .nx st
      | some d => match t d st with
        | none => .bad
        | some s0 => match body s0 with
          | .ok .nx s1 => forLM l t body n (i + 1) s1
          | .ok .ct s1 => forLM l t body n (i + 1) s1
          | .ok .bk s1 => .ok .nx s1
          | .ok (.rt d) s1 => .ok (.rt d) s1
          | .err c s1 => .err c s1
          | .bad => .bad
def sForL (m : M AV) (t : Tg) (body : M Fl) : M Fl := fun st => (m st).bind fun x s1 => match locOf x with
  | some l => match lstAt s1.s l with
    | some zs => forLM l t body zs.length 0 s1
    | none => .bad
  | none => .bad
@[simp] theorem k_sForL (m : M AV) (t : Tg) (body : M Fl) (r0 : List Sl) (s0 : List AV) : sForL m t body (Ss.mk r0 s0) = (m (Ss.mk r0 s0)).bind fun x s1 => match locOf x with
  | some l => match lstAt s1.s l with
    | some zs => forLM l t body zs.length 0 s1
    | none => .bad
  | none => .bad := id rfl
section
variable {X : Cx} {Γ : Gam} {W : WX} {σ : L2.St} {H : Hp} {st : Ss} {p : Pd} {K : PySem.W.Frag} {pos : Pos}
theorem Rl.lstAt {m ar am ao ab : List Addr} {a : Addr} {l : Nat} {zs : List AV} (R : Rl K Γ σ H st p m ar am ao ab) (em : m[l]? = some a) (e : Fk.lstAt st.s l = some zs) : ∃ us, H a = some (.lst us) ∧ Rp K H (wOf Γ ar am ao) m us zs [] := by
  obtain ⟨z, e1, e2⟩ := Option.bind_eq_some_iff.mp e
  have e3 := ownLst_eq e2
  subst e3
  obtain ⟨q', bb, hat', rz, _⟩ := R.place (cs := []) (ao' := ao) e1 rfl R.ro rfl
  have e4 : m[l]? = some q' := hat'
  rw [em] at e4
  cases e4
  obtain ⟨q2, us, eq2, _, hs2, qq⟩ := rz.lsO_i
  cases eq2
  exact ⟨us, hs2, qq⟩
end
end Fk
/-! ## x.upper() -/
namespace Fk
open PySem PySem.Spec PyProof.Rows L2
def upA : AV → Option AV
  | .str z => if z.length ≤ 5592405 then some (.str (Txt.upper z)) else none
  | _ => none
def eUpp (m : M AV) : M AV := fun st => (m st).bind fun x s1 => ofO (upA x) s1
@[simp] theorem k_eUpp (m : M AV) (r0 : List Sl) (s0 : List AV) : eUpp m (Ss.mk r0 s0) = (m (Ss.mk r0 s0)).bind fun x s1 => ofO (upA x) s1 := id rfl
section
variable {X : Cx} {Γ : Gam} {W : WX} {apos pos : Pos} {o : Expr}
end
end Fk
/-! ## a, b, c = x, y, z where a name is seen by a comprehension; x.remove(y) of ints -/
namespace Fk
open PySem PySem.Spec PyProof.Rows L2
def intsO : List AV → Option (List Int)
  | [] => some []
  | x :: xs => (asI x).bind fun i => (intsO xs).map fun is => i :: is
def remA (xs : List AV) (d : AV) : Option (AV × List AV) := (asI d).bind fun k => (intsO xs).bind fun ns => (ns.findIdx? fun n => decide (n = k)).map fun j => (.non, (ns.eraseIdx j).map .int)
def eRem (i : Nat) (m : M AV) : M AV := fun st => match ownL (getSl st.r i) with
  | none => .bad
  | some _ => (m st).bind fun d s1 => match ownL (getSl s1.r i) with
    | none => .bad
    | some xs => match remA xs d with
      | some (y, ys) => .ok y (putL i ys s1)
      | none => .bad
@[simp] theorem k_eRem (i : Nat) (m : M AV) (r0 : List Sl) (s0 : List AV) : eRem i m (Ss.mk r0 s0) = match ownL (getSl r0 i) with
  | none => .bad
  | some _ => (m (Ss.mk r0 s0)).bind fun d s1 => match ownL (getSl s1.r i) with
    | none => .bad
    | some xs => match remA xs d with
      | some (y, ys) => .ok y (putL i ys s1)
      | none => .bad := id rfl
theorem ints_rpR {K : PySem.W.Frag} {H : Hp} {W m : List Addr} : ∀ (ns : List Int), Rp K H W m (ns.map V.int) (ns.map .int) []
  | [] => .nil
  | n :: ns => .int (ints_rpR ns)
section
variable {X : Cx} {Γ : Gam} {W : WX} {σ : L2.St} {H : Hp} {st : Ss} {p : Pd} {K : PySem.W.Frag} {pos apos cpos : Pos} {e : Expr} {x : Str} {i : Nat}
end
end Fk
/-! ## x[i], n = a, b -/
namespace Fk
open PySem PySem.Spec PyProof.Rows L2
section
variable {X : Cx} {Γ : Gam} {W : WX} {pos : Pos}
end
end Fk
/-! ## texts: split, partition, join, startswith, str, int, f-strings, signs of a text -/
namespace Fk
open PySem PySem.Spec PyProof.Rows L2
def isStrA : AV → Bool
  | .str _ => true
  | _ => false
/-- a text's method of one argument -/
def eM1 (f : AV → AV → Option AV) (a b : M AV) : M AV := fun st => (a st).bind fun x s1 => bif isStrA x then (b s1).bind fun y s2 => ofO (f x y) s2 else .bad
@[simp] theorem k_eM1 (f : AV → AV → Option AV) (a b : M AV) (r0 : List Sl) (s0 : List AV) : eM1 f a b (Ss.mk r0 s0) = (a (Ss.mk r0 s0)).bind fun x s1 => bif isStrA x then (b s1).bind fun y s2 => ofO (f x y) s2 else .bad := id rfl
@[simp] theorem isStrA_s (z : Str) : isStrA (.str z) = true := id rfl
section
variable {K : PySem.W.Frag} {H : Hp} {W m as : List Addr} {v : V} {vs : List V} {xs : List AV} {x y : AV}
end
section
variable {X : Cx} {Γ : Gam} {W : WX} {σ : L2.St} {H : Hp} {st : Ss} {p : Pd} {K : PySem.W.Frag} {pos apos : Pos} {o e : Expr}
/-! str(x), int(x) -/
def lg (i : Int) : Bool := decide (i.natAbs.log2 < 1920)
/-! the signs of a text, walked -/
def sgs (z : Str) : List AV := z.cps.toList.map fun c => .str ⟨#[c]⟩
def itemsS : AV → Option (List AV)
  | .str z => some (sgs z)
  | x => itemsOf x
def iOfS (m : M AV) : M (List AV) := fun st => (m st).bind fun x s1 => ofO (itemsS x) s1
@[simp] theorem k_iOfS (m : M AV) (r0 : List Sl) (s0 : List AV) : iOfS m (Ss.mk r0 s0) = (m (Ss.mk r0 s0)).bind fun x s1 => ofO (itemsS x) s1 := id rfl
end
end Fk
/-! ## [e for x in a for y in b] -/
namespace Fk
open PySem PySem.Spec PyProof.Rows L2
def compI (t : Tg) (te : M AV) (vs : List Nat) : List AV → List AV → Ss → Res (List AV) Ss
  | [], acc, st => .ok acc st
  | d :: ds, acc, st => match t d st with
    | none => .bad
    | some s0 => match te s0 with
      | .ok y s2 => if acc.length < 16777216 then compI t te vs ds (acc ++ [y]) (s2.wipe vs) else .bad
      | _ => .bad
def compO (t : Tg) (mi1 : M (List AV)) (t1 : Tg) (te : M AV) (vs vs1 : List Nat) : List AV → List AV → Ss → Res (List AV) Ss
  | [], acc, st => .ok acc st
  | d :: ds, acc, st => match t d st with
    | none => .bad
    | some s0 => match mi1 s0 with
      | .ok es s1 => (match compI t1 te vs1 es acc (s1.wipe vs1) with
        | .ok acc2 s2 => compO t mi1 t1 te vs vs1 ds acc2 (s2.wipe vs)
        | _ => .bad)
      | _ => .bad
def lc2M (mi : M (List AV)) (t : Tg) (mi1 : M (List AV)) (t1 : Tg) (te : M AV) (vs vs1 : List Nat) : M (List AV) := fun st => (mi st).bind fun ds s1 => match compO t mi1 t1 te vs vs1 ds [] (s1.wipe vs) with
  | .ok xs s2 => .ok xs s2
  | _ => .bad
@[simp] theorem k_lc2M (mi : M (List AV)) (t : Tg) (mi1 : M (List AV)) (t1 : Tg) (te : M AV) (vs vs1 : List Nat) (r0 : List Sl) (s0 : List AV) : lc2M mi t mi1 t1 te vs vs1 (Ss.mk r0 s0) = (mi (Ss.mk r0 s0)).bind fun ds s1 => match compO t mi1 t1 te vs vs1 ds [] (s1.wipe vs) with
  | .ok xs s2 => .ok xs s2
  | _ => .bad := id rfl
section
variable {X : Cx} {Γ : Gam} {W : WX} {σ : L2.St} {H : Hp} {st : Ss} {p : Pd} {K : PySem.W.Frag} {pos : Pos}
end
end Fk
/-! ## t[::2], t[1::2] of a tuple -/
namespace Fk
open PySem PySem.Spec PyProof.Rows L2
section
variable {prog : Program} {w : World} {A : Around} {E : Value → Shared → Prop} {s : Shared}
end
section
variable {X : Cx} {Γ : Gam} {W : WX} {σ : L2.St} {H : Hp} {st : Ss} {p : Pd} {K : PySem.W.Frag} {pos : Pos}
end
end Fk
/-! ## sorted(set(x)) of a list of ints -/
namespace Fk
open PySem PySem.Spec PyProof.Rows L2
abbrev eSet (w : World) : Obj := { cls := .type "set", dict := none, data := .set #[] 0 (.fresh 0 0 (!w.params.followText "set-order")) }
section
variable {P : Program} {w : World} {A : Around} {E : Value → Shared → Prop} {s : Shared}
/-- the set's own init, handed a list -/
theorem setL_init {l : Addr} {items : Array Value} (ns : List Int) {R : Value → Shared → Prop} (hh : A.handled = none) (hl : s.heap.IsList l items) (hit : IntsAre items.toList ns) (hb : ns.length + 1 < scanBound)
    (h : ∀ (h2 : Heap) (tk c : Nat), SetR w h2 s.heap.objs.size (fun j => decide (j ∈ ns)) c → c ≤ ns.length → (∀ b o, s.heap.get? b = some o → h2.get? b = some o) → R .none { s with heap := h2, toks := tk }) :
    codeAny (model P w) A (.call (.builtin "set.__init__") ⟨[.ref s.heap.objs.size, .ref l], []⟩) (wants R E) { s with heap := s.heap.push (eSet w) } := by
  have len : items.size = ns.length := by
    have q := IntsAre.length hit
    rwa [Array.length_toList] at q
  have gS : (s.heap.push (eSet w)).get? s.heap.objs.size = some (eSet w) := Heap.get?_push_size _ rfl
  have tS : Shared.TypeIs { s with heap := s.heap.push (eSet w) } (.ref s.heap.objs.size) "set" := ⟨_, gS, rfl⟩
  refine codeAny_call_builtin F.called_set.init.plain F.entry_set_init (check_set_init_1 tS ?_)
  obtain ⟨ob, go, ec, cap, ed⟩ := hl
  obtain ⟨c0, d0, dat0, sl0⟩ := ob
  simp only at ec ed
  subst ec; subst ed
  have go2 : (s.heap.push (eSet w)).get? l = some { cls := .type "list", dict := d0, data := .seq items cap, slots := sl0 } := Heap.get?_push_of_some _ go
  have f1 := F.sub_list_set
  have f2 := F.sub_list_frozenset
  have f3 : (Value.type "list" == Value.type "dict") = false := by decide
  have hl2 : (s.heap.push (eSet w)).IsList l items := ⟨_, go2, rfl, cap, rfl⟩
  unfold Builtin.«set.__init__» noKeywords Builtin.Frozenset.updateFrom
  generalize hPI : pyIter = PI
  wp_walk
  subst hPI
  refine wpAny_pyIter_list hl2 (wpAny_bind (wpAny_runValue ?_))
  have below : l < s.heap.objs.size := Heap.lt_size go
  have hd3 : A.in1.in1.handled = none := by simp [hh]
  have sz : (s.heap.push (eSet w)).objs.size = s.heap.objs.size + 1 := Heap.size_push ..
  have apart : l ≠ (s.heap.push (eSet w)).objs.size := by rw [sz]; exact Nat.ne_of_lt (Nat.lt_succ_of_lt below)
  have out : s.heap.objs.size ∉ [(s.heap.push (eSet w)).objs.size, l] := by
    rw [sz]
    simp only [List.mem_cons, List.not_mem_nil, or_false, not_or]
    exact ⟨Nat.ne_of_lt (Nat.lt_succ_self _), Nat.ne_of_gt below⟩
  have vals : ∀ (i : Nat) (v : Value), items[i]? = some v → ∃ k t, ns[i]? = some k ∧ v = .int k t := fun i v hv => by
    have hi : i < ns.length := by rw [← len]; exact (Array.getElem?_eq_some_iff.mp hv).1
    obtain ⟨t, e⟩ := PyProof.Rows.IntsAre.int_at hit i v (by rw [Array.getElem?_toList]; exact hv)
    exact ⟨ns[i], t, List.getElem?_eq_getElem hi, by rw [e, List.getD_eq_getElem?_getD, List.getElem?_eq_getElem hi]; rfl⟩
  refine set_update_ints ((Walks.list hd3 _ l apart items).toS) s.heap.objs.size out ns len hb vals (items.size - 0) 0 _ (by omega) (Nat.zero_le _) ⟨⟨_, Heap.get?_push_size _ rfl, rfl, rfl⟩, hl2.push _⟩
    ⟨0, Nat.le_refl 0, setR_new_at (Heap.get?_push_of_some _ gS)⟩ fun s2 c mv hc hR => ?_
  obtain ⟨h2, g2, d2, tk2, os2⟩ := s2
  have eg : g2 = s.gens := mv.gens
  have ed : d2 = s.drawn := mv.drawn
  have eo : os2 = s.os := mv.os
  subst eg ed eo
  show wpAny _ _ _ _ _ _
  refine wpAny_pure ?_
  show wpAny _ _ (ret Value.none) _ _ _
  rw [len] at hc
  refine wpAny_pure (h h2 tk2 c hR hc fun b o e => ?_)
  have l0 : b < s.heap.objs.size := Heap.lt_size e
  refine mv.heap b o ?_ (Heap.get?_push_of_some _ (Heap.get?_push_of_some _ e))
  rw [sz]
  simp only [List.mem_cons, List.not_mem_nil, or_false, not_or]
  exact ⟨Nat.ne_of_lt l0, Nat.ne_of_lt (Nat.lt_succ_of_lt l0)⟩
theorem call_setL {l : Addr} {items : Array Value} (ns : List Int) {Q : Value → Shared → Prop} (hh : A.handled = none) (hl : s.heap.IsList l items) (hit : IntsAre items.toList ns) (hb : ns.length + 1 < scanBound)
    (h : ∀ (h2 : Heap) (tk c : Nat), SetR w h2 s.heap.objs.size (fun j => decide (j ∈ ns)) c → c ≤ ns.length → (∀ b o, s.heap.get? b = some o → h2.get? b = some o) → Q (.ref s.heap.objs.size) { s with heap := h2, toks := tk }) :
    wpAny (model P w) A (call (.type "set") [.ref l]) Q E s := by
  obtain ⟨c, tl, hm⟩ := F.called_set.mro
  have f1 := F.called_set.made
  have f2 := F.called_set.sub
  have f3 := F.called_set.notType
  have f4 := F.called_set.canCreate
  have f5 := F.typeCall_set_1 (.ref l)
  refine wpAny_call (codeAny_of_tree (show wpAny _ _ (callAny (.type "set") _) _ _ _ from wpAny_pure ⟨Code.quiet_builtin _ (by decide +kernel), codeAny_builtin F.entry_type_call ?_⟩))
  rw [Around.under_plain (weight_type_call_type "set" [.ref l] []) rfl]
  repeat (any_goals (first | assumption | wp_step))
  refine codeAny_mono (code_set_led1 (.ref l) (E := E) (Q₁ := fun x t => x = .ref s.heap.objs.size ∧ t = { s with heap := s.heap.push (eSet w) }) ⟨rfl, rfl⟩) fun r t hr => ?_
  cases r with
  | error e => exact hr
  | ok fl =>
    cases fl with
    | ret x =>
      obtain ⟨rfl, rfl⟩ := hr
      have gS : (s.heap.push (eSet w)).get? s.heap.objs.size = some (eSet w) := Heap.get?_push_size _ rfl
      have tS : Shared.TypeIs { s with heap := s.heap.push (eSet w) } (.ref s.heap.objs.size) "set" := ⟨_, gS, rfl⟩
      have f6 := F.called_set.init.lookup
      have f7 := F.called_set.init.bind (.ref s.heap.objs.size)
      repeat (any_goals (first | assumption | wp_step))
      refine codeAny_mono (setL_init (P := P) (w := w) (E := E) (A := _) (R := fun r t => r = .none ∧ ∃ h2 tk c, t = { s with heap := h2, toks := tk } ∧ SetR w h2 s.heap.objs.size (fun j => decide (j ∈ ns)) c ∧ c ≤ ns.length ∧ ∀ b o, s.heap.get? b = some o → h2.get? b = some o) ns (by simp [hh]) hl hit hb fun h2 tk c g1 g2 g3 => ⟨rfl, h2, tk, c, rfl, g1, g2, g3⟩) fun r2 t2 hr2 => ?_
      cases r2 with
      | error e => exact hr2
      | ok fl2 =>
        cases fl2 with
        | ret r =>
          obtain ⟨rfl, h2, tk, c, rfl, g1, g2, g3⟩ := hr2
          repeat (any_goals (first | assumption | wp_step))
          exact h _ _ _ g1 g2 g3
        | _ => exact hr2.elim
    | _ => exact hr.elim
end
section
variable {X : Cx} {Γ : Gam} {W : WX} {a : Expr} {ta : TE} {p1 p2 q pos : Pos}
def tSrS (K : PySem.W.Frag) (ta : TE) : TE := fun σ H Q => ta σ H fun x H1 => ∃ (l : Addr) (ns : List Int), x = V.ref l ∧ SqL K H1 l (ns.map V.int) ∧ ns.length < 64 ∧
  ∀ (ms : List Int) (p : Addr), ms.Pairwise (· < ·) → (∀ k, k ∈ ms ↔ k ∈ ns) → H1 p = none → Q (.ref p) (upd H1 p (.lst (ms.map V.int)))
theorem pe_srS (hc : X.calm = true) (hg : Gl X "sorted") (hm : X.mg "sorted" = none) (hg2 : Gl X "set") (hm2 : X.mg "set" = none) (ha : PE X a ta)
    (na : starEach [a] X.env = (false, eval a X.env) :: starEach [] X.env := by rfl) : PE X (.Call (.Name "sorted" p1) [.Call (.Name "set" p2) [a] [] q] [] pos) (tSrS X.K ta) := by
  refine ⟨fun pins s σ H Q I h => ?_⟩
  refine Call_ (ld_blt I hg hm (u := .builtin "sorted") rfl (PyProof.Rows.callWith_builtin1 (PyProof.Rows.args_cons ?_ rfl) rfl rfl))
  refine Call_ (ld_blt I hg2 hm2 PyProof.Rows.boot_set (PyProof.Rows.callWith_type1 (PyProof.Rows.args_cons (thn (ha.run pins s σ H _ I h) fun v s1 ⟨x, H1, I1, r1, q1⟩ => PyProof.Rows.args_nil ?_) na) na rfl))
  obtain ⟨l, ns, rfl, hq, h64, q1⟩ := q1
  cases r1
  obtain ⟨its, r, pl, hz⟩ := I1.list hq
  have hd := I1.ok.hd hc
  refine call_setL ns hd pl.isList (by simpa using r.ints) (by unfold scanBound; omega) fun h2 tk c R hc2 k => ?_
  have I2 : Inv X pins σ H1 { s1 with heap := h2, toks := tk } := I1.kept k
  refine PyProof.Rows.args_nil ?_
  refine sorted_set R (I2.ok.hd hc) (by omega) fun s' p out c ms k2 g o hp hgt hi hs hmm hl => ?_
  have hlen : (ms.map V.int).length ≤ sizeLine := by rw [List.length_map, hl, sizeLine_eq]; omega
  have hn : H1 p = none := I2.hok.fresh hp
  have J : Inv X pins σ (upd H1 p (.lst (ms.map V.int))) { ({ s1 with heap := h2, toks := tk } : Shared) with heap := s'.heap, gens := s'.gens, drawn := s'.drawn, toks := s'.toks } :=
    I2.call (ch := []) (Un.laid k2 hp hn) (I2.hok.laid k2 hp ⟨hlen, out.toList, c, vals_of_ints hi, hgt⟩) (by rw [g]; exact I2.bare) (fun _ z => nomatch z)
  have e : s' = { ({ s1 with heap := h2, toks := tk } : Shared) with heap := s'.heap, gens := s'.gens, drawn := s'.drawn, toks := s'.toks } := by
    cases s'
    cases s1
    cases o
    rfl
  rw [e]
  exact ⟨.ref p, _, J, rfl, q1 ms p hs (fun k => by rw [hmm k]; simp) hn⟩
/-- ints that rise, each once -/
def insU (x : Int) : List Int → List Int
  | [] => [x]
  | y :: ys => if x < y then x :: y :: ys else if x = y then y :: ys else y :: insU x ys
def srtU : List Int → List Int
  | [] => []
  | x :: xs => insU x (srtU xs)
theorem insU_mem (x k : Int) : ∀ ys, k ∈ insU x ys ↔ k = x ∨ k ∈ ys
  | [] => by simp [insU]
  | y :: ys => by
    unfold insU
    split
    · simp
    · split
      · rename_i h; subst h; simp
      · simp only [List.mem_cons, insU_mem x k ys]
        constructor
        · rintro (h | h | h)
          · exact .inr (.inl h)
          · exact .inl h
          · exact .inr (.inr h)
        · rintro (h | h | h)
          · exact .inr (.inl h)
          · exact .inl h
          · exact .inr (.inr h)
theorem insU_up (x : Int) : ∀ ys : List Int, ys.Pairwise (· < ·) → (insU x ys).Pairwise (· < ·)
  | [], _ => by simp [insU]
  | y :: ys, h => by
    obtain ⟨h1, h2⟩ := List.pairwise_cons.mp h
    unfold insU
    split
    · rename_i c
      refine List.pairwise_cons.mpr ⟨fun z hz => ?_, h⟩
      rcases List.mem_cons.mp hz with rfl | hz
      · exact c
      · have := h1 z hz; omega
    · split
      · exact h
      · refine List.pairwise_cons.mpr ⟨fun z hz => ?_, insU_up x ys h2⟩
        rcases (insU_mem x z ys).mp hz with rfl | hz
        · omega
        · exact h1 z hz
theorem srtU_mem (k : Int) : ∀ xs, k ∈ srtU xs ↔ k ∈ xs
  | [] => by simp [srtU]
  | x :: xs => by simp only [srtU, insU_mem, srtU_mem k xs, List.mem_cons]
theorem srtU_up : ∀ xs, (srtU xs).Pairwise (· < ·)
  | [] => by simp [srtU]
  | x :: xs => insU_up x _ (srtU_up xs)
theorem up_uniq : ∀ {xs ys : List Int}, xs.Pairwise (· < ·) → ys.Pairwise (· < ·) → (∀ k, k ∈ xs ↔ k ∈ ys) → xs = ys
  | [], [], _, _, _ => rfl
  | [], y :: ys, _, _, h => absurd ((h y).mpr (by simp)) (by simp)
  | x :: xs, [], _, _, h => absurd ((h x).mp (by simp)) (by simp)
  | x :: xs, y :: ys, h1, h2, h => by
    obtain ⟨a1, a2⟩ := List.pairwise_cons.mp h1
    obtain ⟨b1, b2⟩ := List.pairwise_cons.mp h2
    have e : x = y := by
      have m1 := (h x).mp (by simp)
      have m2 := (h y).mpr (by simp)
      rcases List.mem_cons.mp m1 with m1 | m1
      · exact m1
      · rcases List.mem_cons.mp m2 with m2 | m2
        · exact m2.symm
        · have := a1 y m2; have := b1 x m1; omega
    subst e
    congr 1
    refine up_uniq a2 b2 fun k => ⟨fun hk => ?_, fun hk => ?_⟩
    · rcases List.mem_cons.mp ((h k).mp (by simp [hk])) with z | z
      · have := a1 k hk; omega
      · exact z
    · rcases List.mem_cons.mp ((h k).mpr (by simp [hk])) with z | z
      · have := b1 k hk; omega
      · exact z
def fSrS : AV → Option AV
  | .lst _ xs => (asIs xs).bind fun ns => if ns.length < 64 then some (.lst false ((srtU ns).map .int)) else none
  | _ => none
theorem s_srS {m : M AV} (hc : X.calm = true) (hg : Gl X "sorted") (hm : X.mg "sorted" = none) (hg2 : Gl X "set") (hm2 : X.mg "set" = none) (ha : PE X a (rdE X.K Γ W m))
    (na : starEach [a] X.env = (false, eval a X.env) :: starEach [] X.env := by rfl) : PE X (.Call (.Name "sorted" p1) [.Call (.Name "set" p2) [a] [] q] [] pos) (rdE X.K Γ W (e1 fSrS m)) := by
  refine pe_imp (pe_srS hc hg hm hg2 hm2 ha na) fun σ H Q h => ?_
  obtain ⟨st, p, R, h⟩ := h
  refine ⟨st, p, R, ?_⟩
  unfold e1 at h
  cases ea : m st with
  | bad => rw [ea] at h; exact h
  | err c s1 => rw [ea] at h; exact h
  | ok x s1 =>
    rw [ea] at h
    simp only [Res.bind_ok] at h
    intro v H1 R1
    cases ef : fSrS x with
    | none => simp only [ef, ofO_none] at h
    | some d =>
      simp only [ef, ofO_some] at h
      obtain ⟨mm, ar, am, ao, ab, R2, r⟩ := R1.one
      unfold fSrS at ef
      split at ef
      · rename_i o xs
        obtain ⟨ns, e1, e2⟩ := Option.bind_eq_some_iff.mp ef
        split at e2
        · rename_i c
          cases e2
          obtain ⟨l, us, rfl, hs, q1⟩ := r.lst_i
          obtain rfl := asIs_v q1 e1
          refine ⟨l, ns, rfl, SqL.of hs, c, fun ms p up mem hp => ?_⟩
          obtain rfl : ms = srtU ns := up_uniq up (srtU_up ns) fun k => by rw [mem k, srtU_mem]
          exact h _ _ (R2.nob.lst hp (ints_rpR _)).rel
        · cases e2
      · cases ef
end
end Fk
namespace Fk
open PySem PySem.Spec PyProof.Rows L2
def m_is_whole : Fn := fnM 0 ((sRet (eAnd (eIsi "int" (eVar 0)) (e1 oNot (eIsi "bool" (eVar 0))))))
def m_is_within : Fn := fnM 0 ((sRet (eAnd (eCall 1 m_is_whole [] (aCons (eVar 0) aNil)) (eChn oLe oLe (eVar 1) (eVar 0) (eVar 2)))))
def m_rises : Fn := fnM 2 ((sRet (eB fAll (aCons (eLc false (lcM (iArg zipA (aCons (eVar 0) (aCons (eSl (eVar 0) (some (eC (.int 1))) none) aNil))) (gT 2 (gCons' (gN 1) (gCons' (gN 2) gNil'))) tTrue (e2P oLt (pVar 1) (pVar 2)) [1, 2])) aNil))))
def m_is_fault : Fn := fnM 0 ((sSeq (sIf (tOrM (tOf (e2P oEq (pVar 0) (pC (.tup [.str "cut"])))) (tOf (e2P oEq (pVar 0) (pC (.tup [.str "bad"]))))) (sRet (eC (.bl true))) sNx)
    (sSeq (sIf (tOrM (tNotM (tOf (eIsi "tuple" (eVar 0)))) (tOrM (tOf (e2 oNe (eBP fLen (pCons (pVar 0) pNil)) (eC (.int 2)))) (tOrM (tNotM (tOf (eIsi "str" (eP (pIx (pVar 0) (pC (.int 0))))))) (tOf (e2P oNe (pIx (pVar 0) (pC (.int 0))) (pC (.str "bit"))))))) (sRet (eC (.bl false))) sNx)
    (sRet (eCall 3 m_is_within [] (aCons (eP (pIx (pVar 0) (pC (.int 1)))) (aCons (eC (.int 0)) (aCons (e2 oSub (eC (.int 47)) (eC (.int 1))) aNil))))))))
def m_is_weather : Fn := fnM 3 ((sSeq (sIf (tOrM (tNotM (tOf (eIsi "tuple" (eVar 0)))) (tOf (e2 oGt (eBP fLen (pCons (pVar 0) pNil)) (eC (.int 40))))) (sRet (eC (.bl false))) sNx)
    (sSeq (sIf (tNotM (tOf (eB fAll (aCons (eLc false (lcM (iOf (eVar 0)) (gN 1) tTrue (eAnd (eIsi "tuple" (eVar 1)) (e2 oEq (eBP fLen (pCons (pVar 1) pNil)) (eC (.int 2)))) [1])) aNil)))) (sRet (eC (.bl false))) sNx)
    (sSeq (sIf (tNotM (tOf (eB fAll (aCons (eLc false (lcM (iOf (eVar 0)) (gT 2 (gCons' (gN 2) (gCons' (gN 3) gNil'))) tTrue (eAnd (eCall 3 m_is_within [] (aCons (eVar 2) (aCons (eC (.int 0)) (aCons (eC (.int 9999)) aNil)))) (eCall 1 m_is_fault [] (aCons (eVar 3) aNil))) [2, 3])) aNil)))) (sRet (eC (.bl false))) sNx)
    (sRet (eCall 1 m_rises [] (aCons (eLc false (lcM (iOf (eVar 0)) (gT 2 (gCons' (gN 2) (gCons' (gN 3) gNil'))) tTrue (eVar 2) [2, 3])) aNil)))))))
def m__law_cell_at : Fn := fnM 0 ((sSeq (sIf (tOf (e2 oLt (eVar 1) (eBP fLen (pCons (pVar 0) pNil)))) (sRet (eP (pIx (pVar 0) (pVar 1)))) sNx)
    (sRet (eC (.int 0)))))
def m__law_state : Fn := fnM 1 ((sSeq (sAsg 2 (eCall 2 m__law_cell_at [] (aCons (eVar 0) (aCons (eVar 1) aNil))))
    (sRet (eProm (eLstO (aCons (eB fMax2 (aCons (eC (.int 0)) (aCons (e2 oSub (eVar 2) (e2 oPow (eC (.int 10)) (eC (.int 18)))) aNil))) (aCons (e2 oAdd (e2 oMod (eVar 2) (eC (.int 2147483629))) (eC (.int 1))) (aCons (eC (.int 0)) aNil))))))))
def m__law_choice : Fn := fnM 2 ((sSeq (sIf (tOf (e2P oGt (pIx (pVar 0) (pC (.int 0))) (pC (.int 0)))) (sSeq (sAsg 2 (e2 oMod (eP (pIx (pVar 0) (pC (.int 0)))) (eVar 1)))
    (sSeq (sSetP false none (pVar 0) (pC (.int 0)) (e2 oFdv (eP (pIx (pVar 0) (pC (.int 0)))) (eVar 1)))
    (sRet (eVar 2)))) sNx)
    (sSeq (sSetP false none (pVar 0) (pC (.int 2)) (e2 oAdd (eP (pIx (pVar 0) (pC (.int 2)))) (eC (.int 1))))
    (sSeq (sSetP false none (pVar 0) (pC (.int 1)) (e2 oMod (e2 oAdd (e2 oAdd (e2 oMul (eP (pIx (pVar 0) (pC (.int 1)))) (eC (.int 48271))) (eC (.int 29))) (eP (pIx (pVar 0) (pC (.int 2))))) (eC (.int 2147483647))))
    (sSeq (sAsg 3 (e2 oMod (e2 oAdd (e2 oAdd (e2 oMul (eP (pIx (pVar 0) (pC (.int 1)))) (eP (pIx (pVar 0) (pC (.int 1))))) (e2 oMul (eC (.int 39373)) (eP (pIx (pVar 0) (pC (.int 1)))))) (eC (.int 7))) (eC (.int 2147483629))))
    (sSeq (sAsg 3 (e2 oMod (e2 oAdd (e2 oMul (eVar 3) (eVar 3)) (e2 oMul (eC (.int 50021)) (eVar 3))) (eC (.int 2147483587))))
    (sRet (e2 oMod (e2 oFdv (eVar 3) (eC (.int 8))) (eVar 1)))))))))
def m__law_odd : Fn := fnM 1 ((sSeq (sAsg 1 (eLst (aCons (eC .non) (aCons (eC (.bl true)) (aCons (eC (.bl false)) (aCons (e1 oNeg (eC (.int 1))) (aCons (e2 oPow (eC (.int 10)) (eC (.int 29))) (aCons (eC (.str "")) (aCons (eC (.str "read")) (aCons (eC (.str "write")) (aCons (eC (.str "bit")) (aCons (eTup aNil) (aCons (eLst aNil) (aCons (eFrz eDnew) (aCons (eTup (aCons (eC (.int 0)) aNil)) (aCons (eLst (aCons (eC (.int 0)) aNil)) (aCons (eTup (aCons (eC .non) aNil)) (aCons (eFrz (eD1 0 1)) aNil))))))))))))))))))
    (sRet (eIx (e2 oAdd (eVar 1) (eLst (aCons (eTup (aCons (eC (.str "read")) aNil)) (aCons (eTup (aCons (eC (.str "cut")) aNil)) (aCons (eTup (aCons (eTup (aCons (eC (.int 0)) (aCons (eC (.int 1)) aNil))) aNil)) (aCons (eC (.int 16384)) aNil)))))) (eCall 2 m__law_choice [] (aCons (eVar 0) (aCons (eC (.int 20)) aNil)))))))
def m__law_same : Fn := fnM 0 ((sRet (e2 oEq (eBP fRepr (pCons (pVar 0) pNil)) (eBP fRepr (pCons (pVar 1) pNil)))))
def m__law_whole : Fn := fnM 0 ((sRet (eAnd (eIsi "int" (eVar 0)) (e1 oNot (eIsi "bool" (eVar 0))))))
def mR__law_bent : Nat → Fn
  | 0 => fun _ _ => .bad
  | n_ + 1 => fnM 3 ((sSeq (sAsg 2 (eCall 2 m__law_choice [] (aCons (eVar 0) (aCons (eC (.int 7)) aNil))))
    (sSeq (sIf (tOrM (tNotM (tOf (eIsi "tuple" (eVar 1)))) (tOrM (tOf (e2 oEq (eVar 1) (eTup aNil))) (tOf (e2P oLt (pVar 2) (pC (.int 2)))))) (sSeq (sAsg 3 (eLst (aCons (eC .non) (aCons (eC (.str "")) (aCons (eC (.str "bit")) (aCons (eC (.str "cut")) (aCons (eC (.str "write")) (aCons (e1 oNeg (eC (.int 1))) (aCons (eC (.int 0)) (aCons (eC (.int 1)) (aCons (eC (.int 16)) (aCons (eC (.int 64)) (aCons (eC (.int 16384)) (aCons (e2 oPow (eC (.int 10)) (eC (.int 29))) (aCons (eTup aNil) (aCons (eTup (aCons (eC (.str "bad")) aNil)) (aCons (eLst aNil) (aCons (eC (.bl true)) (aCons (eC (.bl false)) aNil)))))))))))))))))))
    (sRet (eIx (eVar 3) (eCall 2 m__law_choice [] (aCons (eVar 0) (aCons (eC (.int 17)) aNil)))))) sNx)
    (sSeq (sAsg 4 (eCall 2 m__law_choice [] (aCons (eVar 0) (aCons (eBP fLen (pCons (pVar 1) pNil)) aNil))))
    (sSeq (sIf (tOf (e2P oLt (pVar 2) (pC (.int 4)))) (sRet (e2 oAdd (e2 oAdd (eSl (eVar 1) none (some (eVar 4))) (eTup (aCons (eCall 2 (mR__law_bent n_) [] (aCons (eVar 0) (aCons (eP (pIx (pVar 1) (pVar 4))) aNil))) aNil))) (eSl (eVar 1) (some (e2 oAdd (eVar 4) (eC (.int 1)))) none))) sNx)
    (sRet (eIx (eLst (aCons (e2 oAdd (eSl (eVar 1) none (some (eVar 4))) (eSl (eVar 1) (some (e2 oAdd (eVar 4) (eC (.int 1)))) none)) (aCons (eFrz (eBP (fL true fList) (pCons (pVar 1) pNil))) (aCons (e2 oAdd (eVar 1) (eSl (eVar 1) (some (eVar 4)) (some (e2 oAdd (eVar 4) (eC (.int 1)))))) aNil)))) (e2 oSub (eVar 2) (eC (.int 4))))))))))
def m__law_bent : Fn := mR__law_bent 6
def m__law_any_weather : Fn := fnM 4 ((sSeq (sAsgOw 2 eDnew)
    (sSeq (sFor (iArg rng1 (aCons (eIx (eLst (aCons (eC (.int 0)) (aCons (eC (.int 1)) (aCons (eC (.int 5)) (aCons (eC (.int 40)) aNil))))) (eCall 2 m__law_choice [] (aCons (eVar 0) (aCons (eC (.int 4)) aNil)))) aNil)) (gN 3) (sSeq (sAsg 4 (eIx (eLst (aCons (eTup (aCons (eC (.str "cut")) aNil)) (aCons (eTup (aCons (eC (.str "bad")) aNil)) (aCons (eTup (aCons (eC (.str "bit")) (aCons (eCall 2 m__law_choice [] (aCons (eVar 0) (aCons (eC (.int 47)) aNil))) aNil))) (aCons (eTup (aCons (eC (.str "bit")) (aCons (eC (.int 46)) aNil))) aNil))))) (eCall 2 m__law_choice [] (aCons (eVar 0) (aCons (eC (.int 4)) aNil)))))
    (sSeq (sAsg 5 (eIx (eLst (aCons (eC (.int 9999)) (aCons (eC (.int 0)) (aCons (eCall 2 m__law_choice [] (aCons (eVar 0) (aCons (eVar 1) aNil))) aNil)))) (eB fMin2 (aCons (eC (.int 2)) (aCons (eCall 2 m__law_choice [] (aCons (eVar 0) (aCons (eC (.int 12)) aNil))) aNil)))))
    (sSetB 2 (eVar 5) (eVar 4)))))
    (sRet (eB fTup (aCons (eLc false (lcM (iOf (eFrz (eBP (fL true fSrt2) (pCons (pVar 2) pNil)))) (gN 5) tTrue (eTup (aCons (eVar 5) (aCons (eP (pIx (pVar 2) (pVar 5))) aNil))) [5])) aNil))))))
def m__law_is_fault : Fn := fnM 0 ((sSeq (sIf (tOf (e2 oIn (eVar 0) (eTup (aCons (eTup (aCons (eC (.str "cut")) aNil)) (aCons (eTup (aCons (eC (.str "bad")) aNil)) aNil))))) (sRet (eC (.bl true))) sNx)
    (sSeq (sIf (tOrM (tNotM (tOf (eIsi "tuple" (eVar 0)))) (tOrM (tOf (e2 oNe (eBP fLen (pCons (pVar 0) pNil)) (eC (.int 2)))) (tOrM (tOf (e2P oNe (pIx (pVar 0) (pC (.int 0))) (pC (.str "bit")))) (tNotM (tOf (eCall 1 m__law_whole [] (aCons (eP (pIx (pVar 0) (pC (.int 1)))) aNil))))))) (sRet (eC (.bl false))) sNx)
    (sRet (eChn oLe oLt (eC (.int 0)) (eP (pIx (pVar 0) (pC (.int 1)))) (eC (.int 47)))))))
def m__law_are_faults : Fn := fnM 3 ((sSeq (sIf (tOrM (tNotM (tOf (eIsi "tuple" (eVar 0)))) (tOf (e2 oGt (eBP fLen (pCons (pVar 0) pNil)) (eC (.int 40))))) (sRet (eC (.bl false))) sNx)
    (sSeq (sIf (tOf (e2 oNe (eLc false (lcM (iOf (eVar 0)) (gN 2) (tOrM (tNotM (tOf (eIsi "tuple" (eVar 2)))) (tOrM (tOf (e2 oNe (eBP fLen (pCons (pVar 2) pNil)) (eC (.int 2)))) (tNotM (tOf (eCall 1 m__law_whole [] (aCons (eP (pIx (pVar 2) (pC (.int 0)))) aNil)))))) (eC (.int 1)) [2])) (eLst aNil))) (sRet (eC (.bl false))) sNx)
    (sSeq (sAsg 1 (eLc false (lcM (iOf (eVar 0)) (gN 2) tTrue (eP (pIx (pVar 2) (pC (.int 0)))) [2])))
    (sSeq (sIf (tOrM (tOf (e2 oNe (eVar 1) (e1 fSrS (eVar 1)))) (tOf (e2 oNe (eLc false (lcM (iOf (eVar 1)) (gN 3) (tNotM (tOf (eChn oLe oLt (eC (.int 0)) (eVar 3) (eC (.int 10000))))) (eVar 3) [3])) (eLst aNil)))) (sRet (eC (.bl false))) sNx)
    (sRet (eB fAll (aCons (eLc false (lcM (iOf (eVar 0)) (gN 2) tTrue (eCall 1 m__law_is_fault [] (aCons (eP (pIx (pVar 2) (pC (.int 1)))) aNil)) [2])) aNil))))))))
def m__law_right : Fn := fnM 10 ((sSeq (sAsg 1 (eCall 2 m__law_any_weather [] (aCons (eVar 0) (aCons (eC (.int 10000)) aNil))))
    (sSeq (sAsg 2 (eB fTup (aCons (eLc false (lcM (iArg rng1 (aCons (eC (.int 40)) aNil)) (gN 9) tTrue (eTup (aCons (eVar 9) (aCons (eTup (aCons (eC (.str "cut")) aNil)) aNil))) [9])) aNil)))
    (sSeq (sAsg 3 (eLst (aCons (eVar 1) (aCons (eVar 2) (aCons (e2 oAdd (eVar 2) (eTup (aCons (eTup (aCons (eC (.int 40)) (aCons (eTup (aCons (eC (.str "bad")) aNil)) aNil))) aNil))) (aCons (eFrz (eBP (fL true fList) (pCons (pVar 1) pNil))) (aCons (eTup (aCons (eTup (aCons (eC (.int 0)) (aCons (eTup (aCons (eC (.str "cut")) aNil)) aNil))) (aCons (eTup (aCons (eC (.int 0)) (aCons (eTup (aCons (eC (.str "bad")) aNil)) aNil))) aNil))) aNil)))))))
    (sSeq (sAsg 3 (e2 oAdd (eVar 3) (eLst (aCons (eTup (aCons (eTup (aCons (eC (.int 1)) (aCons (eTup (aCons (eC (.str "cut")) aNil)) aNil))) (aCons (eTup (aCons (eC (.int 0)) (aCons (eTup (aCons (eC (.str "cut")) aNil)) aNil))) aNil))) aNil))))
    (sSeq (sAsg 4 (eLst (aCons (eTup (aCons (eC (.str "cut")) aNil)) (aCons (eTup (aCons (eC (.str "bad")) aNil)) (aCons (eTup (aCons (eC (.str "bit")) (aCons (eC (.int 0)) aNil))) (aCons (eTup (aCons (eC (.str "bit")) (aCons (eC (.int 46)) aNil))) (aCons (eTup (aCons (eC (.str "bit")) (aCons (eC (.int 47)) aNil))) (aCons (eTup (aCons (eC (.str "bit")) (aCons (e1 oNeg (eC (.int 1))) aNil))) (aCons (eTup (aCons (eC (.str "bit")) (aCons (eC (.bl true)) aNil))) (aCons (eTup (aCons (eC (.str "bit")) aNil)) aNil))))))))))
    (sSeq (sFor (iOf (e2 oAdd (eVar 4) (eLst (aCons (eTup (aCons (eC (.str "bit")) (aCons (eC (.str "1")) aNil))) aNil)))) (gN 5) (sSeq (sAsg 3 (e2 oAdd (eVar 3) (eLst (aCons (eTup (aCons (eTup (aCons (eC (.int 9999)) (aCons (eVar 5) aNil))) aNil)) (aCons (eTup (aCons (eTup (aCons (eC (.int 10000)) (aCons (eVar 5) aNil))) aNil)) (aCons (eTup (aCons (eTup (aCons (e1 oNeg (eC (.int 1))) (aCons (eVar 5) aNil))) aNil)) (aCons (eTup (aCons (eTup (aCons (eC (.bl true)) (aCons (eVar 5) aNil))) aNil)) aNil)))))))
    (sAsg 3 (e2 oAdd (eVar 3) (eLst (aCons (eTup (aCons (eTup (aCons (eC (.int 0)) (aCons (eFrz (eBP (fL true fList) (pCons (pVar 5) pNil))) aNil))) aNil)) aNil))))))
    (sSeq (sAsg 3 (e2 oAdd (eVar 3) (eLst (aCons (eTup (aCons (eTup (aCons (eC (.int 0)) (aCons (eTup (aCons (eC (.str "Cut")) aNil)) aNil))) aNil)) (aCons (eTup (aCons (eTup (aCons (eC (.int 0)) (aCons (eC (.str "cut")) aNil))) aNil)) (aCons (eTup (aCons (eTup (aCons (eC (.int 0)) (aCons (eTup (aCons (eC (.str "cut")) (aCons (eC (.int 1)) aNil))) aNil))) aNil)) (aCons (eTup (aCons (eTup (aCons (eC (.int 0)) (aCons (eTup aNil) aNil))) aNil)) (aCons (eTup (aCons (eC (.int 0)) (aCons (eTup (aCons (eC (.str "cut")) aNil)) aNil))) aNil))))))))
    (sSeq (sAsg 3 (e2 oAdd (eVar 3) (eLst (aCons (eTup (aCons (eTup (aCons (eC (.str "cut")) (aCons (eC (.int 0)) aNil))) aNil)) (aCons (eTup (aCons (eTup (aCons (eC (.int 0)) aNil)) aNil)) aNil)))))
    (sSeq (sFor (iOf (e2 oAdd (e2 oAdd (eVar 3) (eLst (aCons (eCall 1 m__law_odd [] (aCons (eVar 0) aNil)) aNil))) (eLc false (lcM (iArg rng1 (aCons (eC (.int 14)) aNil)) (gN 10) tTrue (eCall 2 m__law_bent [] (aCons (eVar 0) (aCons (eVar 1) aNil))) [10])))) (gN 6) (sSeq (sPar 7 8 (xI (eBP fRepr (pCons (pVar 6) pNil))) (xI (eCall 1 m__law_are_faults [] (aCons (eVar 6) aNil))))
    (sIf (tOrM (tNotM (tOf (eCall 2 m__law_same [] (aCons (eLst (aCons (eCall 1 m_is_weather [] (aCons (eVar 6) aNil)) (aCons (eCall 1 m_is_weather [] (aCons (eVar 6) aNil)) aNil))) (aCons (eLst (aCons (eVar 8) (aCons (eVar 8) aNil))) aNil))))) (tOf (e2 oNe (eBP fRepr (pCons (pVar 6) pNil)) (eVar 7)))) (sRet (eC (.bl false))) sNx)))
    (sRet (eC (.bl true)))))))))))))
def m_law : Fn := fnM 3 ((sSeq (sFor (iArg rng1 (aCons (eB fMax2 (aCons (eC (.int 1)) (aCons (eB fMin2 (aCons (eBP fLen (pCons (pVar 0) pNil)) (aCons (eC (.int 5)) aNil))) aNil))) aNil)) (gN 1) (sSeq (sAsg 2 (eCall 2 m__law_state [] (aCons (eVar 0) (aCons (eVar 1) aNil))))
    (sFor (iArg rng1 (aCons (eC (.int 1)) aNil)) (gN 3) (sIf (tNotM (tOf (eCall 1 m__law_right [] (aCons (eVar 2) aNil)))) (sRet (eC (.bl false))) sNx))))
    (sRet (eC (.bl true)))))
end Fk
namespace Fk
open PySem PySem.Spec PyProof.Rows L2
open Hd
/-! ### the text -/
abbrev N_is_whole : List Str := ["thing"]
theorem sc_is_whole : FnScope N_is_whole ["thing"] (defScope z_is_whole) := ⟨rfl, rfl, rfl, by decide +kernel, rfl, by decide +kernel, by decide +kernel⟩
abbrev N_is_within : List Str := ["thing", "least", "most"]
theorem sc_is_within : FnScope N_is_within ["thing", "least", "most"] (defScope z_is_within) := ⟨rfl, rfl, rfl, by decide +kernel, rfl, by decide +kernel, by decide +kernel⟩
abbrev N_rises : List Str := ["row", "one", "later"]
theorem sc_rises : FnScope N_rises ["row"] (defScope z_rises) := ⟨rfl, rfl, rfl, by decide +kernel, rfl, by decide +kernel, by decide +kernel⟩
abbrev N_is_fault : List Str := ["thing"]
theorem sc_is_fault : FnScope N_is_fault ["thing"] (defScope z_is_fault) := ⟨rfl, rfl, rfl, by decide +kernel, rfl, by decide +kernel, by decide +kernel⟩
abbrev N_is_weather : List Str := ["thing", "row", "step", "fault"]
theorem sc_is_weather : FnScope N_is_weather ["thing"] (defScope z_is_weather) := ⟨rfl, rfl, rfl, by decide +kernel, rfl, by decide +kernel, by decide +kernel⟩
abbrev N__law_cell_at : List Str := ["_law_script", "_law_k"]
theorem sc__law_cell_at : FnScope N__law_cell_at ["_law_script", "_law_k"] (defScope z__law_cell_at) := ⟨rfl, rfl, rfl, by decide +kernel, rfl, by decide +kernel, by decide +kernel⟩
abbrev N__law_state : List Str := ["_law_script", "_law_k", "_law_cell"]
theorem sc__law_state : FnScope N__law_state ["_law_script", "_law_k"] (defScope z__law_state) := ⟨rfl, rfl, rfl, by decide +kernel, rfl, by decide +kernel, by decide +kernel⟩
abbrev N__law_choice : List Str := ["_law_state_here", "_law_many", "_law_found", "_law_mixed"]
theorem sc__law_choice : FnScope N__law_choice ["_law_state_here", "_law_many"] (defScope z__law_choice) := ⟨rfl, rfl, rfl, by decide +kernel, rfl, by decide +kernel, by decide +kernel⟩
abbrev N__law_odd : List Str := ["_law_state_here", "_law_some"]
theorem sc__law_odd : FnScope N__law_odd ["_law_state_here"] (defScope z__law_odd) := ⟨rfl, rfl, rfl, by decide +kernel, rfl, by decide +kernel, by decide +kernel⟩
abbrev N__law_same : List Str := ["_law_found", "_law_owed"]
theorem sc__law_same : FnScope N__law_same ["_law_found", "_law_owed"] (defScope z__law_same) := ⟨rfl, rfl, rfl, by decide +kernel, rfl, by decide +kernel, by decide +kernel⟩
abbrev N__law_whole : List Str := ["_law_thing"]
theorem sc__law_whole : FnScope N__law_whole ["_law_thing"] (defScope z__law_whole) := ⟨rfl, rfl, rfl, by decide +kernel, rfl, by decide +kernel, by decide +kernel⟩
abbrev N__law_bent : List Str := ["_law_state_here", "_law_thing", "_law_way", "_law_odds", "_law_at"]
theorem sc__law_bent : FnScope N__law_bent ["_law_state_here", "_law_thing"] (defScope z__law_bent) := ⟨rfl, rfl, rfl, by decide +kernel, rfl, by decide +kernel, by decide +kernel⟩
abbrev N__law_any_weather : List Str := ["_law_state_here", "_law_far_step", "_law_rows", "_law_lap", "_law_fault", "_law_step"]
theorem sc__law_any_weather : FnScope N__law_any_weather ["_law_state_here", "_law_far_step"] (defScope z__law_any_weather) := ⟨rfl, rfl, rfl, by decide +kernel, rfl, by decide +kernel, by decide +kernel⟩
abbrev N__law_is_fault : List Str := ["_law_thing"]
theorem sc__law_is_fault : FnScope N__law_is_fault ["_law_thing"] (defScope z__law_is_fault) := ⟨rfl, rfl, rfl, by decide +kernel, rfl, by decide +kernel, by decide +kernel⟩
abbrev N__law_are_faults : List Str := ["_law_thing", "_law_steps", "_law_row", "_law_step"]
theorem sc__law_are_faults : FnScope N__law_are_faults ["_law_thing"] (defScope z__law_are_faults) := ⟨rfl, rfl, rfl, by decide +kernel, rfl, by decide +kernel, by decide +kernel⟩
abbrev N__law_right : List Str := ["_law_state_here", "_law_weather", "_law_forty", "_law_things", "_law_faults", "_law_fault", "_law_thing", "_law_ahead", "_law_owed", "_law_step", "_law_lap"]
theorem sc__law_right : FnScope N__law_right ["_law_state_here"] (defScope z__law_right) := ⟨rfl, rfl, rfl, by decide +kernel, rfl, by decide +kernel, by decide +kernel⟩
abbrev N_law : List Str := ["_law_script", "_law_k", "_law_state_here", "_law_nth"]
theorem sc_law : FnScope N_law ["_law_script"] (defScope z_law) := ⟨rfl, rfl, rfl, by decide +kernel, rfl, by decide +kernel, by decide +kernel⟩
abbrev TT (K : PySem.W.Frag) : List (Addr × Str) := []
/-! ### what the top has written -/
structure Bs (K : PySem.W.Frag) (mg : Str → Option Value) : Prop where
  yes : True
  n_all : mg "all" = none
  n_bool : mg "bool" = none
  n_int : mg "int" = none
  n_isinstance : mg "isinstance" = none
  n_len : mg "len" = none
  n_list : mg "list" = none
  n_max : mg "max" = none
  n_min : mg "min" = none
  n_range : mg "range" = none
  n_repr : mg "repr" = none
  n_set : mg "set" = none
  n_sorted : mg "sorted" = none
  n_str : mg "str" = none
  n_tuple : mg "tuple" = none
  n_zip : mg "zip" = none
  r_BAD : mg "BAD" = some (.ref (He.ga K "BAD"))
  p_BAD : ∀ H W m, Rp K H W m [.ref (He.ga K "BAD")] [.tup [.str "bad"]] []
  r_CUT : mg "CUT" = some (.ref (He.ga K "CUT"))
  p_CUT : ∀ H W m, Rp K H W m [.ref (He.ga K "CUT")] [.tup [.str "cut"]] []
  c_MOST_FAULTS : ∃ t, mg "MOST_FAULTS" = some (.int 40 t)
  c_MOST_STEP : ∃ t, mg "MOST_STEP" = some (.int 9999 t)
  c_WORD_BITS : ∃ t, mg "WORD_BITS" = some (.int 47 t)
/-! ### each def is worth its mirror -/
section
variable {P : Program} {w : World} {K : PySem.W.Frag} {mg : Str → Option Value} {base : Heap} {f : Addr} {fd : FuncData}
theorem ok_is_whole (F : FunD K "is_whole" "is_whole" (defArgs z_is_whole) (defBody z_is_whole) (defScope z_is_whole) [] [] f fd) (B : Bs K mg) : FnN P w K mg base 1 f fd ["thing"] (spM K (TT K) 1 m_is_whole) := by
  have sc := sc_is_whole
  refine okM (T := TT K) F sc rfl (fun cdv A outer s H E Γ hT hG hr => ?_)
  obtain ⟨U0, H0, A0, m0, T0⟩ := Γ
  obtain rfl : T0 = TT K := hT
  have tk := takes_N (P := P) (w := w) (K := K) (mg := mg) (base := base) (N := N_is_whole) (qual := "is_whole") (scope := defScope z_is_whole) (f := f) (cd := cdv) (A := A) (outer := outer) (s := s) (H := H) (E := E)
  have pO := own_N (P := P) (w := w) (K := K) (mg := mg) (base := base) (N := N_is_whole) (qual := "is_whole") (scope := defScope z_is_whole) (f := f) (cd := cdv) (A := A) (outer := outer) (s := s) (H := H) (E := E)
  have hU := hr.units
  have hU65 := units65 hr
  have hU1 : (A.deeper (envOfC "is_whole" (defScope z_is_whole) s.heap.objs.size f cdv)).units + 1 < cLine := by have := hr.un; omega
  exact (s_one (s_ret (s_vand (s_isi (n := "int") (by decide) rfl B.n_isinstance rfl B.n_int (by decide +kernel) (sv 0)) (s_vone (s_vnot (s_isi (n := "bool") (by decide) rfl B.n_isinstance rfl B.n_bool (by decide +kernel) (sv 0)))))))
theorem ok_is_within (F : FunD K "is_within" "is_within" (defArgs z_is_within) (defBody z_is_within) (defScope z_is_within) [] [] f fd) (B : Bs K mg) (C_is_whole : CalN P w K mg base (TT K) 1 "is_whole" ["thing"] [] m_is_whole) : FnN P w K mg base 2 f fd ["thing", "least", "most"] (spM K (TT K) 3 m_is_within) := by
  have sc := sc_is_within
  refine okM (T := TT K) F sc rfl (fun cdv A outer s H E Γ hT hG hr => ?_)
  obtain ⟨U0, H0, A0, m0, T0⟩ := Γ
  obtain rfl : T0 = TT K := hT
  have tk := takes_N (P := P) (w := w) (K := K) (mg := mg) (base := base) (N := N_is_within) (qual := "is_within") (scope := defScope z_is_within) (f := f) (cd := cdv) (A := A) (outer := outer) (s := s) (H := H) (E := E)
  have pO := own_N (P := P) (w := w) (K := K) (mg := mg) (base := base) (N := N_is_within) (qual := "is_within") (scope := defScope z_is_within) (f := f) (cd := cdv) (A := A) (outer := outer) (s := s) (H := H) (E := E)
  have hU := hr.units
  have hU65 := units65 hr
  have hU1 : (A.deeper (envOfC "is_within" (defScope z_is_within) s.heap.objs.size f cdv)).units + 1 < cLine := by have := hr.un; omega
  exact (s_one (s_ret (s_vand (sCl C_is_whole hG hr (by decide) rfl tk (s_cons (sv 0) s_nil)) (s_vone (s_chn o_le o_le p_le p_le (sv 1) (sv 0) (sv 2) (fun h1 h2 h3 h4 h5 => pe_chain h1 h2 h3 h4 h5))))))
theorem ok_rises (F : FunD K "rises" "rises" (defArgs z_rises) (defBody z_rises) (defScope z_rises) [] [] f fd) (B : Bs K mg) : FnN P w K mg base 1 f fd ["row"] (spM K (TT K) 1 m_rises) := by
  have sc := sc_rises
  refine okM (T := TT K) F sc rfl (fun cdv A outer s H E Γ hT hG hr => ?_)
  obtain ⟨U0, H0, A0, m0, T0⟩ := Γ
  obtain rfl : T0 = TT K := hT
  have tk := takes_N (P := P) (w := w) (K := K) (mg := mg) (base := base) (N := N_rises) (qual := "rises") (scope := defScope z_rises) (f := f) (cd := cdv) (A := A) (outer := outer) (s := s) (H := H) (E := E)
  have pO := own_N (P := P) (w := w) (K := K) (mg := mg) (base := base) (N := N_rises) (qual := "rises") (scope := defScope z_rises) (f := f) (cd := cdv) (A := A) (outer := outer) (s := s) (H := H) (E := E)
  have hU := hr.units
  have hU65 := units65 hr
  have hU1 : (A.deeper (envOfC "rises" (defScope z_rises) s.heap.objs.size f cdv)).units + 1 < cLine := by have := hr.un; omega
  exact (s_one (s_ret (s_cb (cr_all rfl) o_all rfl B.n_all (by decide +kernel) (s_cons (s_lc (own := [("one", 1), ("later", 2)]) rfl sc.nd (s_zip rfl B.n_zip (s_cons (sv 0) (s_cons (s_sl (sv 0) (s_po1 s_int) s_po0) s_nil))) (blkOk_by (own := [("one", 1), ("later", 2)]) (N := N_rises) (sc := defScope z_rises) (by decide +kernel)) (fun _ _ _ _ _ => (s_gt rfl (s_gcons (s_gn (i := 1) sc.nd rfl (Or.inl rfl)) (s_gcons (s_gn (i := 2) sc.nd rfl (Or.inl rfl)) s_gnil)))) (fun _ _ _ _ _ => s_ts0) (fun _ _ _ _ _ => (s_cmpP o_lt p_lt (qv 1) (qv 2) (nomark _)))) s_nil))))
theorem ok_is_fault (F : FunD K "is_fault" "is_fault" (defArgs z_is_fault) (defBody z_is_fault) (defScope z_is_fault) [] [] f fd) (B : Bs K mg) (C_is_within : CalN P w K mg base (TT K) 2 "is_within" ["thing", "least", "most"] [] m_is_within) : FnN P w K mg base 3 f fd ["thing"] (spM K (TT K) 1 m_is_fault) := by
  have sc := sc_is_fault
  obtain ⟨_, h_WORD_BITS⟩ := B.c_WORD_BITS
  refine okM (T := TT K) F sc rfl (fun cdv A outer s H E Γ hT hG hr => ?_)
  obtain ⟨U0, H0, A0, m0, T0⟩ := Γ
  obtain rfl : T0 = TT K := hT
  have tk := takes_N (P := P) (w := w) (K := K) (mg := mg) (base := base) (N := N_is_fault) (qual := "is_fault") (scope := defScope z_is_fault) (f := f) (cd := cdv) (A := A) (outer := outer) (s := s) (H := H) (E := E)
  have pO := own_N (P := P) (w := w) (K := K) (mg := mg) (base := base) (N := N_is_fault) (qual := "is_fault") (scope := defScope z_is_fault) (f := f) (cd := cdv) (A := A) (outer := outer) (s := s) (H := H) (E := E)
  have hU := hr.units
  have hU65 := units65 hr
  have hU1 : (A.deeper (envOfC "is_fault" (defScope z_is_fault) s.heap.objs.size f cdv)).units + 1 < cLine := by have := hr.un; omega
  exact (s_seq (s_if (PW.pt (s_or (s_tcmpP (o_eq hU) p_eq (qv 0) (q_gl (v := .ref (He.ga K "CUT")) rfl B.r_CUT rfl B.p_CUT) (nomark _)) (s_or1 (s_tcmpP (o_eq hU) p_eq (qv 0) (q_gl (v := .ref (He.ga K "BAD")) rfl B.r_BAD rfl B.p_BAD) (nomark _))))) (s_one (s_ret s_bl)) s_end)
      (s_seq (s_if (PW.pt (s_or (s_not (s_tval (s_isi (n := "tuple") (by decide) rfl B.n_isinstance rfl B.n_tuple (by decide +kernel) (sv 0)))) (s_or (s_tcmp (o_ne hU) p_ne (s_cbP c_len o_len rfl B.n_len (by decide +kernel) (q_cons (qv 0) q_nil)) s_int (nomark _)) (s_or (s_not (s_tval (s_isi (n := "str") (by decide) rfl B.n_isinstance rfl B.n_str (by decide +kernel) (s_ofP (q_ix hU1 (qv 0) q_int))))) (s_or1 (s_tcmpP (o_ne hU) p_ne (q_ix hU1 (qv 0) q_int) q_str (nomark _))))))) (s_one (s_ret s_bl)) s_end)
      (s_one (s_ret (sCl C_is_within hG hr (by decide) rfl tk (s_cons (s_ofP (q_ix hU1 (qv 0) q_int)) (s_cons s_int (s_cons (s_op o_subB p_sub (s_gl (v := .int 47) rfl h_WORD_BITS ⟨_, rfl⟩ (fun _ _ _ => .int .nil)) s_int) s_nil))))))))
theorem ok_is_weather (F : FunD K "is_weather" "is_weather" (defArgs z_is_weather) (defBody z_is_weather) (defScope z_is_weather) [] [] f fd) (B : Bs K mg) (C_is_fault : CalN P w K mg base (TT K) 3 "is_fault" ["thing"] [] m_is_fault) (C_is_within : CalN P w K mg base (TT K) 2 "is_within" ["thing", "least", "most"] [] m_is_within) (C_rises : CalN P w K mg base (TT K) 1 "rises" ["row"] [] m_rises) : FnN P w K mg base 4 f fd ["thing"] (spM K (TT K) 1 m_is_weather) := by
  have sc := sc_is_weather
  obtain ⟨_, h_MOST_FAULTS⟩ := B.c_MOST_FAULTS
  obtain ⟨_, h_MOST_STEP⟩ := B.c_MOST_STEP
  refine okM (T := TT K) F sc rfl (fun cdv A outer s H E Γ hT hG hr => ?_)
  obtain ⟨U0, H0, A0, m0, T0⟩ := Γ
  obtain rfl : T0 = TT K := hT
  have tk := takes_N (P := P) (w := w) (K := K) (mg := mg) (base := base) (N := N_is_weather) (qual := "is_weather") (scope := defScope z_is_weather) (f := f) (cd := cdv) (A := A) (outer := outer) (s := s) (H := H) (E := E)
  have pO := own_N (P := P) (w := w) (K := K) (mg := mg) (base := base) (N := N_is_weather) (qual := "is_weather") (scope := defScope z_is_weather) (f := f) (cd := cdv) (A := A) (outer := outer) (s := s) (H := H) (E := E)
  have hU := hr.units
  have hU65 := units65 hr
  have hU1 : (A.deeper (envOfC "is_weather" (defScope z_is_weather) s.heap.objs.size f cdv)).units + 1 < cLine := by have := hr.un; omega
  exact (s_seq (s_if (PW.pt (s_or (s_not (s_tval (s_isi (n := "tuple") (by decide) rfl B.n_isinstance rfl B.n_tuple (by decide +kernel) (sv 0)))) (s_or1 (s_tcmp o_gt p_gt (s_cbP c_len o_len rfl B.n_len (by decide +kernel) (q_cons (qv 0) q_nil)) (s_gl (v := .int 40) rfl h_MOST_FAULTS ⟨_, rfl⟩ (fun _ _ _ => .int .nil)) (nomark _))))) (s_one (s_ret s_bl)) s_end)
      (s_seq (s_if (s_not (s_tval (s_cb (cr_all rfl) o_all rfl B.n_all (by decide +kernel) (s_cons (s_lc (own := [("row", 1)]) rfl sc.nd (s_it (sv 0)) (blkOk_by (own := [("row", 1)]) (N := N_is_weather) (sc := defScope z_is_weather) (by decide +kernel)) (fun _ _ _ _ _ => (s_gn (i := 1) sc.nd rfl (Or.inl rfl))) (fun _ _ _ _ _ => s_ts0) (fun _ _ _ _ _ => (s_vand (s_isi (n := "tuple") (by decide) rfl B.n_isinstance rfl B.n_tuple (by decide +kernel) (sv 1)) (s_vone (s_cmp (o_eq hU) p_eq (s_cbP c_len o_len rfl B.n_len (by decide +kernel) (q_cons (qv 1) q_nil)) s_int (nomark _)))))) s_nil)))) (s_one (s_ret s_bl)) s_end)
      (s_seq (s_if (s_not (s_tval (s_cb (cr_all rfl) o_all rfl B.n_all (by decide +kernel) (s_cons (s_lc (own := [("step", 2), ("fault", 3)]) rfl sc.nd (s_it (sv 0)) (blkOk_by (own := [("step", 2), ("fault", 3)]) (N := N_is_weather) (sc := defScope z_is_weather) (by decide +kernel)) (fun _ _ _ _ _ => (s_gt rfl (s_gcons (s_gn (i := 2) sc.nd rfl (Or.inl rfl)) (s_gcons (s_gn (i := 3) sc.nd rfl (Or.inl rfl)) s_gnil)))) (fun _ _ _ _ _ => s_ts0) (fun _ _ _ _ _ => (s_vand (sCl C_is_within hG hr (by decide) rfl takes_noX (s_cons (sv 2) (s_cons s_int (s_cons (s_gl (v := .int 9999) rfl h_MOST_STEP ⟨_, rfl⟩ (fun _ _ _ => .int .nil)) s_nil)))) (s_vone (sCl C_is_fault hG hr (by decide) rfl takes_noX (s_cons (sv 3) s_nil)))))) s_nil)))) (s_one (s_ret s_bl)) s_end)
      (s_one (s_ret (sCl C_rises hG hr (by decide) rfl tk (s_cons (s_lc (own := [("step", 2), ("fault", 3)]) rfl sc.nd (s_it (sv 0)) (blkOk_by (own := [("step", 2), ("fault", 3)]) (N := N_is_weather) (sc := defScope z_is_weather) (by decide +kernel)) (fun _ _ _ _ _ => (s_gt rfl (s_gcons (s_gn (i := 2) sc.nd rfl (Or.inl rfl)) (s_gcons (s_gn (i := 3) sc.nd rfl (Or.inl rfl)) s_gnil)))) (fun _ _ _ _ _ => s_ts0) (fun _ _ _ _ _ => (sv 2))) s_nil)))))))
theorem ok__law_cell_at (F : FunD K "_law_cell_at" "_law_cell_at" (defArgs z__law_cell_at) (defBody z__law_cell_at) (defScope z__law_cell_at) [] [] f fd) (B : Bs K mg) : FnN P w K mg base 1 f fd ["_law_script", "_law_k"] (spM K (TT K) 2 m__law_cell_at) := by
  have sc := sc__law_cell_at
  refine okM (T := TT K) F sc rfl (fun cdv A outer s H E Γ hT hG hr => ?_)
  obtain ⟨U0, H0, A0, m0, T0⟩ := Γ
  obtain rfl : T0 = TT K := hT
  have tk := takes_N (P := P) (w := w) (K := K) (mg := mg) (base := base) (N := N__law_cell_at) (qual := "_law_cell_at") (scope := defScope z__law_cell_at) (f := f) (cd := cdv) (A := A) (outer := outer) (s := s) (H := H) (E := E)
  have pO := own_N (P := P) (w := w) (K := K) (mg := mg) (base := base) (N := N__law_cell_at) (qual := "_law_cell_at") (scope := defScope z__law_cell_at) (f := f) (cd := cdv) (A := A) (outer := outer) (s := s) (H := H) (E := E)
  have hU := hr.units
  have hU65 := units65 hr
  have hU1 : (A.deeper (envOfC "_law_cell_at" (defScope z__law_cell_at) s.heap.objs.size f cdv)).units + 1 < cLine := by have := hr.un; omega
  exact (s_seq (s_if (s_tcmp o_lt p_lt (sv 1) (s_cbP c_len o_len rfl B.n_len (by decide +kernel) (q_cons (qv 0) q_nil)) (nomark _)) (s_one (s_ret (s_ofP (q_ix hU1 (qv 0) (qv 1))))) s_end)
      (s_one (s_ret s_int)))
theorem ok__law_state (F : FunD K "_law_state" "_law_state" (defArgs z__law_state) (defBody z__law_state) (defScope z__law_state) [] [] f fd) (B : Bs K mg) (C__law_cell_at : CalN P w K mg base (TT K) 1 "_law_cell_at" ["_law_script", "_law_k"] [] m__law_cell_at) : FnN P w K mg base 2 f fd ["_law_script", "_law_k"] (spM K (TT K) 2 m__law_state) := by
  have sc := sc__law_state
  refine okM (T := TT K) F sc rfl (fun cdv A outer s H E Γ hT hG hr => ?_)
  obtain ⟨U0, H0, A0, m0, T0⟩ := Γ
  obtain rfl : T0 = TT K := hT
  have tk := takes_N (P := P) (w := w) (K := K) (mg := mg) (base := base) (N := N__law_state) (qual := "_law_state") (scope := defScope z__law_state) (f := f) (cd := cdv) (A := A) (outer := outer) (s := s) (H := H) (E := E)
  have pO := own_N (P := P) (w := w) (K := K) (mg := mg) (base := base) (N := N__law_state) (qual := "_law_state") (scope := defScope z__law_state) (f := f) (cd := cdv) (A := A) (outer := outer) (s := s) (H := H) (E := E)
  have hU := hr.units
  have hU65 := units65 hr
  have hU1 : (A.deeper (envOfC "_law_state" (defScope z__law_state) s.heap.objs.size f cdv)).units + 1 < cLine := by have := hr.un; omega
  exact (s_seq (s_asg (i := 2) sc.nd rfl (Or.inl rfl) (sCl C__law_cell_at hG hr (by decide) rfl tk (s_cons (sv 0) (s_cons (sv 1) s_nil))))
      (s_one (s_ret (s_prom (s_lstO (s_cons (s_cb (call_max2 rfl) o_max2 rfl B.n_max (by decide +kernel) (s_cons s_int (s_cons (s_op o_subB p_sub (sv 2) (s_op o_pow p_pow s_int s_int)) s_nil))) (s_cons (s_op o_addB p_add (s_op o_mod p_mod (sv 2) s_int) s_int) (s_cons s_int s_nil))))))))
theorem ok__law_choice (F : FunD K "_law_choice" "_law_choice" (defArgs z__law_choice) (defBody z__law_choice) (defScope z__law_choice) [] [] f fd) (B : Bs K mg) : FnN P w K mg base 1 f fd ["_law_state_here", "_law_many"] (spM K (TT K) 2 m__law_choice) := by
  have sc := sc__law_choice
  refine okM (T := TT K) F sc rfl (fun cdv A outer s H E Γ hT hG hr => ?_)
  obtain ⟨U0, H0, A0, m0, T0⟩ := Γ
  obtain rfl : T0 = TT K := hT
  have tk := takes_N (P := P) (w := w) (K := K) (mg := mg) (base := base) (N := N__law_choice) (qual := "_law_choice") (scope := defScope z__law_choice) (f := f) (cd := cdv) (A := A) (outer := outer) (s := s) (H := H) (E := E)
  have pO := own_N (P := P) (w := w) (K := K) (mg := mg) (base := base) (N := N__law_choice) (qual := "_law_choice") (scope := defScope z__law_choice) (f := f) (cd := cdv) (A := A) (outer := outer) (s := s) (H := H) (E := E)
  have hU := hr.units
  have hU65 := units65 hr
  have hU1 : (A.deeper (envOfC "_law_choice" (defScope z__law_choice) s.heap.objs.size f cdv)).units + 1 < cLine := by have := hr.un; omega
  exact (s_seq (s_if (s_tcmpP o_gt p_gt (q_ix hU1 (qv 0) q_int) q_int (nomark _)) (s_seq (s_asg (i := 2) sc.nd rfl (Or.inl rfl) (s_op o_mod p_mod (s_ofP (q_ix hU1 (qv 0) q_int)) (sv 1)))
      (s_seq (sStI hU1 (s_b0 (qv 0)) q_int (s_op o_fdv p_fdv (s_ofP (q_ix hU1 (qv 0) q_int)) (sv 1)))
      (s_one (s_ret (sv 2))))) s_end)
      (s_seq (sStI hU1 (s_b0 (qv 0)) q_int (s_op o_addB p_add (s_ofP (q_ix hU1 (qv 0) q_int)) s_int))
      (s_seq (sStI hU1 (s_b0 (qv 0)) q_int (s_op o_mod p_mod (s_op o_addB p_add (s_op o_addB p_add (s_op o_mul2 p_mul (s_ofP (q_ix hU1 (qv 0) q_int)) s_int) s_int) (s_ofP (q_ix hU1 (qv 0) q_int))) s_int))
      (s_seq (s_asg (i := 3) sc.nd rfl (Or.inl rfl) (s_op o_mod p_mod (s_op o_addB p_add (s_op o_addB p_add (s_op o_mul2 p_mul (s_ofP (q_ix hU1 (qv 0) q_int)) (s_ofP (q_ix hU1 (qv 0) q_int))) (s_op o_mul2 p_mul s_int (s_ofP (q_ix hU1 (qv 0) q_int)))) s_int) s_int))
      (s_seq (s_asg (i := 3) sc.nd rfl (Or.inl rfl) (s_op o_mod p_mod (s_op o_addB p_add (s_op o_mul2 p_mul (sv 3) (sv 3)) (s_op o_mul2 p_mul s_int (sv 3))) s_int))
      (s_one (s_ret (s_op o_mod p_mod (s_op o_fdv p_fdv (sv 3) s_int) (sv 1)))))))))
theorem ok__law_odd (F : FunD K "_law_odd" "_law_odd" (defArgs z__law_odd) (defBody z__law_odd) (defScope z__law_odd) [] [] f fd) (B : Bs K mg) (C__law_choice : CalN P w K mg base (TT K) 1 "_law_choice" ["_law_state_here", "_law_many"] [] m__law_choice) : FnN P w K mg base 2 f fd ["_law_state_here"] (spM K (TT K) 1 m__law_odd) := by
  have sc := sc__law_odd
  refine okM (T := TT K) F sc rfl (fun cdv A outer s H E Γ hT hG hr => ?_)
  obtain ⟨U0, H0, A0, m0, T0⟩ := Γ
  obtain rfl : T0 = TT K := hT
  have tk := takes_N (P := P) (w := w) (K := K) (mg := mg) (base := base) (N := N__law_odd) (qual := "_law_odd") (scope := defScope z__law_odd) (f := f) (cd := cdv) (A := A) (outer := outer) (s := s) (H := H) (E := E)
  have pO := own_N (P := P) (w := w) (K := K) (mg := mg) (base := base) (N := N__law_odd) (qual := "_law_odd") (scope := defScope z__law_odd) (f := f) (cd := cdv) (A := A) (outer := outer) (s := s) (H := H) (E := E)
  have hU := hr.units
  have hU65 := units65 hr
  have hU1 : (A.deeper (envOfC "_law_odd" (defScope z__law_odd) s.heap.objs.size f cdv)).units + 1 < cLine := by have := hr.un; omega
  exact (s_seq (s_asg (i := 1) sc.nd rfl (Or.inl rfl) (s_lst (s_cons s_non (s_cons s_bl (s_cons s_bl (s_cons (s_neg s_int) (s_cons (s_op o_pow p_pow s_int s_int) (s_cons s_str (s_cons s_str (s_cons s_str (s_cons s_str (s_cons (s_tup s_nil) (s_cons (s_lst s_nil) (s_cons (s_frz s_dnew) (s_cons (s_tup (s_cons s_int s_nil)) (s_cons (s_lst (s_cons s_int s_nil)) (s_cons (s_tup (s_cons s_non s_nil)) (s_cons (s_frz s_d1) s_nil))))))))))))))))))
      (s_one (s_ret (s_ix hU1 (s_op o_addB p_add (sv 1) (s_lst (s_cons (s_tup (s_cons s_str s_nil)) (s_cons (s_tup (s_cons s_str s_nil)) (s_cons (s_tup (s_cons (s_tup (s_cons s_int (s_cons s_int s_nil))) s_nil)) (s_cons s_int s_nil)))))) (sCl C__law_choice hG hr (by decide) rfl tk (s_cons (sv 0) (s_cons s_int s_nil)))))))
theorem ok__law_same (F : FunD K "_law_same" "_law_same" (defArgs z__law_same) (defBody z__law_same) (defScope z__law_same) [] [] f fd) (B : Bs K mg) : FnN P w K mg base 1 f fd ["_law_found", "_law_owed"] (spM K (TT K) 2 m__law_same) := by
  have sc := sc__law_same
  refine okM (T := TT K) F sc rfl (fun cdv A outer s H E Γ hT hG hr => ?_)
  obtain ⟨U0, H0, A0, m0, T0⟩ := Γ
  obtain rfl : T0 = TT K := hT
  have tk := takes_N (P := P) (w := w) (K := K) (mg := mg) (base := base) (N := N__law_same) (qual := "_law_same") (scope := defScope z__law_same) (f := f) (cd := cdv) (A := A) (outer := outer) (s := s) (H := H) (E := E)
  have pO := own_N (P := P) (w := w) (K := K) (mg := mg) (base := base) (N := N__law_same) (qual := "_law_same") (scope := defScope z__law_same) (f := f) (cd := cdv) (A := A) (outer := outer) (s := s) (H := H) (E := E)
  have hU := hr.units
  have hU65 := units65 hr
  have hU1 : (A.deeper (envOfC "_law_same" (defScope z__law_same) s.heap.objs.size f cdv)).units + 1 < cLine := by have := hr.un; omega
  exact (s_one (s_ret (s_cmp (o_eq hU) p_eq (s_cbP (call_reprT hG hU) o_repr rfl B.n_repr (by decide +kernel) (q_cons (qv 0) q_nil)) (s_cbP (call_reprT hG hU) o_repr rfl B.n_repr (by decide +kernel) (q_cons (qv 1) q_nil)) (nomark _))))
theorem ok__law_whole (F : FunD K "_law_whole" "_law_whole" (defArgs z__law_whole) (defBody z__law_whole) (defScope z__law_whole) [] [] f fd) (B : Bs K mg) : FnN P w K mg base 1 f fd ["_law_thing"] (spM K (TT K) 1 m__law_whole) := by
  have sc := sc__law_whole
  refine okM (T := TT K) F sc rfl (fun cdv A outer s H E Γ hT hG hr => ?_)
  obtain ⟨U0, H0, A0, m0, T0⟩ := Γ
  obtain rfl : T0 = TT K := hT
  have tk := takes_N (P := P) (w := w) (K := K) (mg := mg) (base := base) (N := N__law_whole) (qual := "_law_whole") (scope := defScope z__law_whole) (f := f) (cd := cdv) (A := A) (outer := outer) (s := s) (H := H) (E := E)
  have pO := own_N (P := P) (w := w) (K := K) (mg := mg) (base := base) (N := N__law_whole) (qual := "_law_whole") (scope := defScope z__law_whole) (f := f) (cd := cdv) (A := A) (outer := outer) (s := s) (H := H) (E := E)
  have hU := hr.units
  have hU65 := units65 hr
  have hU1 : (A.deeper (envOfC "_law_whole" (defScope z__law_whole) s.heap.objs.size f cdv)).units + 1 < cLine := by have := hr.un; omega
  exact (s_one (s_ret (s_vand (s_isi (n := "int") (by decide) rfl B.n_isinstance rfl B.n_int (by decide +kernel) (sv 0)) (s_vone (s_vnot (s_isi (n := "bool") (by decide) rfl B.n_isinstance rfl B.n_bool (by decide +kernel) (sv 0)))))))
theorem okR__law_bent (F : FunD K "_law_bent" "_law_bent" (defArgs z__law_bent) (defBody z__law_bent) (defScope z__law_bent) [] [] f fd) (B : Bs K mg) (gl_ : mg "_law_bent" = some (.ref f)) (bi_ : Binds K fd ["_law_state_here", "_law_thing"] []) (C__law_choice : CalN P w K mg base (TT K) 1 "_law_choice" ["_law_state_here", "_law_many"] [] m__law_choice) : ∀ n_ : Nat, FnN P w K mg base (1 + n_) f fd ["_law_state_here", "_law_thing"] (spM K (TT K) 2 (mR__law_bent n_))
| 0 => ⟨fun _ _ _ _ h => h.1, fun _ _ _ _ _ _ _ _ _ _ _ _ _ _ h => by
    obtain ⟨_, _, _, _, _, _, _, _, _, _, _, z⟩ := h
    exact z.elim⟩
| n_ + 1 => by
  have C_rec : CalN P w K mg base (TT K) (1 + n_) "_law_bent" ["_law_state_here", "_law_thing"] [] (mR__law_bent n_) := ⟨⟨_, _, [], [], okR__law_bent F B gl_ bi_ C__law_choice n_, gl_, F.kp, bi_, .nil, fun _ _ _ => .nil⟩⟩
  show FnN P w K mg base ((1 + n_) + 1) f fd ["_law_state_here", "_law_thing"] (spM K (TT K) 2 (mR__law_bent (n_ + 1)))
  have sc := sc__law_bent
  refine okM (T := TT K) F sc rfl (fun cdv A outer s H E Γ hT hG hr => ?_)
  obtain ⟨U0, H0, A0, m0, T0⟩ := Γ
  obtain rfl : T0 = TT K := hT
  have tk := takes_N (P := P) (w := w) (K := K) (mg := mg) (base := base) (N := N__law_bent) (qual := "_law_bent") (scope := defScope z__law_bent) (f := f) (cd := cdv) (A := A) (outer := outer) (s := s) (H := H) (E := E)
  have pO := own_N (P := P) (w := w) (K := K) (mg := mg) (base := base) (N := N__law_bent) (qual := "_law_bent") (scope := defScope z__law_bent) (f := f) (cd := cdv) (A := A) (outer := outer) (s := s) (H := H) (E := E)
  have hU := hr.units
  have hU65 := units65 hr
  have hU1 : (A.deeper (envOfC "_law_bent" (defScope z__law_bent) s.heap.objs.size f cdv)).units + 1 < cLine := by have := hr.un; omega
  exact (s_seq (s_asg (i := 2) sc.nd rfl (Or.inl rfl) (sCl C__law_choice hG hr (by omega) rfl tk (s_cons (sv 0) (s_cons s_int s_nil))))
      (s_seq (s_if (PW.pt (s_or (s_not (s_tval (s_isi (n := "tuple") (by decide) rfl B.n_isinstance rfl B.n_tuple (by decide +kernel) (sv 1)))) (s_or (s_tcmp (o_eq hU) p_eq (sv 1) (s_tup s_nil) (nomark _)) (s_or1 (s_tcmpP o_lt p_lt (qv 2) q_int (nomark _)))))) (s_seq (s_asg (i := 3) sc.nd rfl (Or.inl rfl) (s_lst (s_cons s_non (s_cons s_str (s_cons s_str (s_cons s_str (s_cons s_str (s_cons (s_neg s_int) (s_cons s_int (s_cons s_int (s_cons s_int (s_cons s_int (s_cons s_int (s_cons (s_op o_pow p_pow s_int s_int) (s_cons (s_tup s_nil) (s_cons (s_tup (s_cons s_str s_nil)) (s_cons (s_lst s_nil) (s_cons s_bl (s_cons s_bl s_nil)))))))))))))))))))
      (s_one (s_ret (s_ix hU1 (sv 3) (sCl C__law_choice hG hr (by omega) rfl tk (s_cons (sv 0) (s_cons s_int s_nil))))))) s_end)
      (s_seq (s_asg (i := 4) sc.nd rfl (Or.inl rfl) (sCl C__law_choice hG hr (by omega) rfl tk (s_cons (sv 0) (s_cons (s_cbP c_len o_len rfl B.n_len (by decide +kernel) (q_cons (qv 1) q_nil)) s_nil))))
      (s_seq (s_if (s_tcmpP o_lt p_lt (qv 2) q_int (nomark _)) (s_one (s_ret (s_op o_addB p_add (s_op o_addB p_add (s_sl (sv 1) s_po0 (s_po1 (sv 4))) (s_tup (s_cons (sCl C_rec hG hr (by omega) rfl tk (s_cons (sv 0) (s_cons (s_ofP (q_ix hU1 (qv 1) (qv 4))) s_nil))) s_nil))) (s_sl (sv 1) (s_po1 (s_op o_addB p_add (sv 4) s_int)) s_po0)))) s_end)
      (s_one (s_ret (s_ix hU1 (s_lst (s_cons (s_op o_addB p_add (s_sl (sv 1) s_po0 (s_po1 (sv 4))) (s_sl (sv 1) (s_po1 (s_op o_addB p_add (sv 4) s_int)) s_po0)) (s_cons (s_frz (s_ctOP call_list_of o_list rfl B.n_list (by decide +kernel) (q_cons (qv 1) q_nil))) (s_cons (s_op o_addB p_add (sv 1) (s_sl (sv 1) (s_po1 (sv 4)) (s_po1 (s_op o_addB p_add (sv 4) s_int)))) s_nil)))) (s_op o_subB p_sub (sv 2) s_int))))))))
theorem ok__law_bent (F : FunD K "_law_bent" "_law_bent" (defArgs z__law_bent) (defBody z__law_bent) (defScope z__law_bent) [] [] f fd) (B : Bs K mg) (gl_ : mg "_law_bent" = some (.ref f)) (bi_ : Binds K fd ["_law_state_here", "_law_thing"] []) (C__law_choice : CalN P w K mg base (TT K) 1 "_law_choice" ["_law_state_here", "_law_many"] [] m__law_choice) : FnN P w K mg base 7 f fd ["_law_state_here", "_law_thing"] (spM K (TT K) 2 m__law_bent) := okR__law_bent F B gl_ bi_ C__law_choice 6
theorem ok__law_any_weather (F : FunD K "_law_any_weather" "_law_any_weather" (defArgs z__law_any_weather) (defBody z__law_any_weather) (defScope z__law_any_weather) [] [] f fd) (B : Bs K mg) (C__law_choice : CalN P w K mg base (TT K) 1 "_law_choice" ["_law_state_here", "_law_many"] [] m__law_choice) : FnN P w K mg base 2 f fd ["_law_state_here", "_law_far_step"] (spM K (TT K) 2 m__law_any_weather) := by
  have sc := sc__law_any_weather
  refine okM (T := TT K) F sc rfl (fun cdv A outer s H E Γ hT hG hr => ?_)
  obtain ⟨U0, H0, A0, m0, T0⟩ := Γ
  obtain rfl : T0 = TT K := hT
  have tk := takes_N (P := P) (w := w) (K := K) (mg := mg) (base := base) (N := N__law_any_weather) (qual := "_law_any_weather") (scope := defScope z__law_any_weather) (f := f) (cd := cdv) (A := A) (outer := outer) (s := s) (H := H) (E := E)
  have pO := own_N (P := P) (w := w) (K := K) (mg := mg) (base := base) (N := N__law_any_weather) (qual := "_law_any_weather") (scope := defScope z__law_any_weather) (f := f) (cd := cdv) (A := A) (outer := outer) (s := s) (H := H) (E := E)
  have hU := hr.units
  have hU65 := units65 hr
  have hU1 : (A.deeper (envOfC "_law_any_weather" (defScope z__law_any_weather) s.heap.objs.size f cdv)).units + 1 < cLine := by have := hr.un; omega
  exact (s_seq (s_asgO (i := 2) sc.nd rfl (Or.inr rfl) s_dnew)
      (s_seq (s_for pO rfl (s_rng1 rfl B.n_range (s_cons (s_ix hU1 (s_lst (s_cons s_int (s_cons s_int (s_cons s_int (s_cons s_int s_nil))))) (sCl C__law_choice hG hr (by decide) rfl tk (s_cons (sv 0) (s_cons s_int s_nil)))) s_nil)) (s_gn (i := 3) sc.nd rfl (Or.inl rfl)) (s_seq (s_asg (i := 4) sc.nd rfl (Or.inl rfl) (s_ix hU1 (s_lst (s_cons (s_tup (s_cons s_str s_nil)) (s_cons (s_tup (s_cons s_str s_nil)) (s_cons (s_tup (s_cons s_str (s_cons (sCl C__law_choice hG hr (by decide) rfl tk (s_cons (sv 0) (s_cons s_int s_nil))) s_nil))) (s_cons (s_tup (s_cons s_str (s_cons s_int s_nil))) s_nil))))) (sCl C__law_choice hG hr (by decide) rfl tk (s_cons (sv 0) (s_cons s_int s_nil)))))
      (s_seq (s_asg (i := 5) sc.nd rfl (Or.inl rfl) (s_ix hU1 (s_lst (s_cons s_int (s_cons s_int (s_cons (sCl C__law_choice hG hr (by decide) rfl tk (s_cons (sv 0) (s_cons (sv 1) s_nil))) s_nil)))) (s_cb (call_min2 rfl) o_min2 rfl B.n_min (by decide +kernel) (s_cons s_int (s_cons (sCl C__law_choice hG hr (by decide) rfl tk (s_cons (sv 0) (s_cons s_int s_nil))) s_nil)))))
      (s_one (s_setB (i := 2) rfl (by first | exact Or.inl rfl | exact Or.inr (Or.inl rfl) | exact Or.inr (Or.inr rfl)) hU1 (sv 4) (sv 5))))))
      (s_one (s_ret (s_ct call_tuple_of o_tuple rfl B.n_tuple (by decide +kernel) (s_cons (s_lc (own := [("_law_step", 5)]) rfl sc.nd (s_it (s_frz (s_cbOP (c_srt2 rfl) o_srt2 rfl B.n_sorted (by decide +kernel) (q_cons (qv 2) q_nil)))) (blkOk_by (own := [("_law_step", 5)]) (N := N__law_any_weather) (sc := defScope z__law_any_weather) (by decide +kernel)) (fun _ _ _ _ _ => (s_gn (i := 5) sc.nd rfl (Or.inl rfl))) (fun _ _ _ _ _ => s_ts0) (fun _ _ _ _ _ => (s_tup (s_cons (sv 5) (s_cons (s_ofP (q_ix hU1 (qv 2) (qv 5))) s_nil))))) s_nil))))))
theorem ok__law_is_fault (F : FunD K "_law_is_fault" "_law_is_fault" (defArgs z__law_is_fault) (defBody z__law_is_fault) (defScope z__law_is_fault) [] [] f fd) (B : Bs K mg) (C__law_whole : CalN P w K mg base (TT K) 1 "_law_whole" ["_law_thing"] [] m__law_whole) : FnN P w K mg base 2 f fd ["_law_thing"] (spM K (TT K) 1 m__law_is_fault) := by
  have sc := sc__law_is_fault
  refine okM (T := TT K) F sc rfl (fun cdv A outer s H E Γ hT hG hr => ?_)
  obtain ⟨U0, H0, A0, m0, T0⟩ := Γ
  obtain rfl : T0 = TT K := hT
  have tk := takes_N (P := P) (w := w) (K := K) (mg := mg) (base := base) (N := N__law_is_fault) (qual := "_law_is_fault") (scope := defScope z__law_is_fault) (f := f) (cd := cdv) (A := A) (outer := outer) (s := s) (H := H) (E := E)
  have pO := own_N (P := P) (w := w) (K := K) (mg := mg) (base := base) (N := N__law_is_fault) (qual := "_law_is_fault") (scope := defScope z__law_is_fault) (f := f) (cd := cdv) (A := A) (outer := outer) (s := s) (H := H) (E := E)
  have hU := hr.units
  have hU65 := units65 hr
  have hU1 : (A.deeper (envOfC "_law_is_fault" (defScope z__law_is_fault) s.heap.objs.size f cdv)).units + 1 < cLine := by have := hr.un; omega
  exact (s_seq (s_if (s_tcmp (oo_in hU65) p_in (sv 0) (s_tup (s_cons (s_tup (s_cons s_str s_nil)) (s_cons (s_tup (s_cons s_str s_nil)) s_nil))) (by rfl)) (s_one (s_ret s_bl)) s_end)
      (s_seq (s_if (PW.pt (s_or (s_not (s_tval (s_isi (n := "tuple") (by decide) rfl B.n_isinstance rfl B.n_tuple (by decide +kernel) (sv 0)))) (s_or (s_tcmp (o_ne hU) p_ne (s_cbP c_len o_len rfl B.n_len (by decide +kernel) (q_cons (qv 0) q_nil)) s_int (nomark _)) (s_or (s_tcmpP (o_ne hU) p_ne (q_ix hU1 (qv 0) q_int) q_str (nomark _)) (s_or1 (s_not (s_tval (sCl C__law_whole hG hr (by decide) rfl tk (s_cons (s_ofP (q_ix hU1 (qv 0) q_int)) s_nil))))))))) (s_one (s_ret s_bl)) s_end)
      (s_one (s_ret (s_chn o_le o_lt p_le p_lt s_int (s_ofP (q_ix hU1 (qv 0) q_int)) s_int (fun h1 h2 h3 h4 h5 => pe_chain h1 h2 h3 h4 h5))))))
theorem ok__law_are_faults (F : FunD K "_law_are_faults" "_law_are_faults" (defArgs z__law_are_faults) (defBody z__law_are_faults) (defScope z__law_are_faults) [] [] f fd) (B : Bs K mg) (C__law_is_fault : CalN P w K mg base (TT K) 2 "_law_is_fault" ["_law_thing"] [] m__law_is_fault) (C__law_whole : CalN P w K mg base (TT K) 1 "_law_whole" ["_law_thing"] [] m__law_whole) : FnN P w K mg base 3 f fd ["_law_thing"] (spM K (TT K) 1 m__law_are_faults) := by
  have sc := sc__law_are_faults
  refine okM (T := TT K) F sc rfl (fun cdv A outer s H E Γ hT hG hr => ?_)
  obtain ⟨U0, H0, A0, m0, T0⟩ := Γ
  obtain rfl : T0 = TT K := hT
  have tk := takes_N (P := P) (w := w) (K := K) (mg := mg) (base := base) (N := N__law_are_faults) (qual := "_law_are_faults") (scope := defScope z__law_are_faults) (f := f) (cd := cdv) (A := A) (outer := outer) (s := s) (H := H) (E := E)
  have pO := own_N (P := P) (w := w) (K := K) (mg := mg) (base := base) (N := N__law_are_faults) (qual := "_law_are_faults") (scope := defScope z__law_are_faults) (f := f) (cd := cdv) (A := A) (outer := outer) (s := s) (H := H) (E := E)
  have hU := hr.units
  have hU65 := units65 hr
  have hU1 : (A.deeper (envOfC "_law_are_faults" (defScope z__law_are_faults) s.heap.objs.size f cdv)).units + 1 < cLine := by have := hr.un; omega
  exact (s_seq (s_if (PW.pt (s_or (s_not (s_tval (s_isi (n := "tuple") (by decide) rfl B.n_isinstance rfl B.n_tuple (by decide +kernel) (sv 0)))) (s_or1 (s_tcmp o_gt p_gt (s_cbP c_len o_len rfl B.n_len (by decide +kernel) (q_cons (qv 0) q_nil)) s_int (nomark _))))) (s_one (s_ret s_bl)) s_end)
      (s_seq (s_if (s_tcmp (o_ne hU) p_ne (s_lc (own := [("_law_row", 2)]) rfl sc.nd (s_it (sv 0)) (blkOk_by (own := [("_law_row", 2)]) (N := N__law_are_faults) (sc := defScope z__law_are_faults) (by decide +kernel)) (fun _ _ _ _ _ => (s_gn (i := 2) sc.nd rfl (Or.inl rfl))) (fun _ _ _ _ _ => (s_ts1 (PW.pt (s_or (s_not (s_tval (s_isi (n := "tuple") (by decide) rfl B.n_isinstance rfl B.n_tuple (by decide +kernel) (sv 2)))) (s_or (s_tcmp (o_ne hU) p_ne (s_cbP c_len o_len rfl B.n_len (by decide +kernel) (q_cons (qv 2) q_nil)) s_int (nomark _)) (s_or1 (s_not (s_tval (sCl C__law_whole hG hr (by decide) rfl takes_noX (s_cons (s_ofP (q_ix hU1 (qv 2) q_int)) s_nil)))))))))) (fun _ _ _ _ _ => s_int)) (s_lst s_nil) (nomark _)) (s_one (s_ret s_bl)) s_end)
      (s_seq (s_asgLc (i := 1) (own := [("_law_row", 2)]) rfl sc.nd rfl rfl (sw_true rfl rfl rfl (by decide +kernel)) (s_it (sv 0)) (blkOk_by (own := [("_law_row", 2)]) (N := N__law_are_faults) (sc := defScope z__law_are_faults) (by decide +kernel)) (fun _ _ _ _ _ => (s_gn (i := 2) sc.nd rfl (Or.inl rfl))) (fun _ _ _ _ _ => s_ts0) (fun _ _ _ _ _ => (s_ofP (q_ix hU1 (qv 2) q_int))))
      (s_seq (s_if (PW.pt (s_or (s_tcmp (o_ne hU) p_ne (sv 1) (s_srS rfl rfl B.n_sorted rfl B.n_set (sv 1)) (nomark _)) (s_or1 (s_tcmp (o_ne hU) p_ne (s_lc (own := [("_law_step", 3)]) rfl sc.nd (s_it (sv 1)) (blkOk_by (own := [("_law_step", 3)]) (N := N__law_are_faults) (sc := defScope z__law_are_faults) (by decide +kernel)) (fun _ _ _ _ _ => (s_gn (i := 3) sc.nd rfl (Or.inl rfl))) (fun _ _ _ _ _ => (s_ts1 (s_not (s_tchn o_le o_lt p_le p_lt s_int (sv 3) s_int (fun h1 h2 h3 h4 h5 => pt_chain h1 h2 h3 h4 h5))))) (fun _ _ _ _ _ => (sv 3))) (s_lst s_nil) (nomark _))))) (s_one (s_ret s_bl)) s_end)
      (s_one (s_ret (s_cb (cr_all rfl) o_all rfl B.n_all (by decide +kernel) (s_cons (s_lc (own := [("_law_row", 2)]) rfl sc.nd (s_it (sv 0)) (blkOk_by (own := [("_law_row", 2)]) (N := N__law_are_faults) (sc := defScope z__law_are_faults) (by decide +kernel)) (fun _ _ _ _ _ => (s_gn (i := 2) sc.nd rfl (Or.inl rfl))) (fun _ _ _ _ _ => s_ts0) (fun _ _ _ _ _ => (sCl C__law_is_fault hG hr (by decide) rfl takes_noX (s_cons (s_ofP (q_ix hU1 (qv 2) q_int)) s_nil)))) s_nil))))))))
theorem ok__law_right (F : FunD K "_law_right" "_law_right" (defArgs z__law_right) (defBody z__law_right) (defScope z__law_right) [] [] f fd) (B : Bs K mg) (C__law_any_weather : CalN P w K mg base (TT K) 2 "_law_any_weather" ["_law_state_here", "_law_far_step"] [] m__law_any_weather) (C__law_are_faults : CalN P w K mg base (TT K) 3 "_law_are_faults" ["_law_thing"] [] m__law_are_faults) (C__law_bent : CalN P w K mg base (TT K) 7 "_law_bent" ["_law_state_here", "_law_thing"] [] m__law_bent) (C__law_odd : CalN P w K mg base (TT K) 2 "_law_odd" ["_law_state_here"] [] m__law_odd) (C__law_same : CalN P w K mg base (TT K) 1 "_law_same" ["_law_found", "_law_owed"] [] m__law_same) (C_is_weather : CalN P w K mg base (TT K) 4 "is_weather" ["thing"] [] m_is_weather) : FnN P w K mg base 8 f fd ["_law_state_here"] (spM K (TT K) 1 m__law_right) := by
  have sc := sc__law_right
  refine okM (T := TT K) F sc rfl (fun cdv A outer s H E Γ hT hG hr => ?_)
  obtain ⟨U0, H0, A0, m0, T0⟩ := Γ
  obtain rfl : T0 = TT K := hT
  have tk := takes_N (P := P) (w := w) (K := K) (mg := mg) (base := base) (N := N__law_right) (qual := "_law_right") (scope := defScope z__law_right) (f := f) (cd := cdv) (A := A) (outer := outer) (s := s) (H := H) (E := E)
  have pO := own_N (P := P) (w := w) (K := K) (mg := mg) (base := base) (N := N__law_right) (qual := "_law_right") (scope := defScope z__law_right) (f := f) (cd := cdv) (A := A) (outer := outer) (s := s) (H := H) (E := E)
  have hU := hr.units
  have hU65 := units65 hr
  have hU1 : (A.deeper (envOfC "_law_right" (defScope z__law_right) s.heap.objs.size f cdv)).units + 1 < cLine := by have := hr.un; omega
  exact (s_seq (s_asg (i := 1) sc.nd rfl (Or.inr rfl) (sCl C__law_any_weather hG hr (by decide) rfl tk (s_cons (sv 0) (s_cons s_int s_nil))))
      (s_seq (s_asg (i := 2) sc.nd rfl (Or.inl rfl) (s_ct call_tuple_of o_tuple rfl B.n_tuple (by decide +kernel) (s_cons (s_lc (own := [("_law_step", 9)]) rfl sc.nd (s_rng1 rfl B.n_range (s_cons s_int s_nil)) (blkOk_by (own := [("_law_step", 9)]) (N := N__law_right) (sc := defScope z__law_right) (by decide +kernel)) (fun _ _ _ _ _ => (s_gn (i := 9) sc.nd rfl (Or.inl rfl))) (fun _ _ _ _ _ => s_ts0) (fun _ _ _ _ _ => (s_tup (s_cons (sv 9) (s_cons (s_tup (s_cons s_str s_nil)) s_nil))))) s_nil)))
      (s_seq (s_asg (i := 3) sc.nd rfl (Or.inl rfl) (s_lst (s_cons (sv 1) (s_cons (sv 2) (s_cons (s_op o_addB p_add (sv 2) (s_tup (s_cons (s_tup (s_cons s_int (s_cons (s_tup (s_cons s_str s_nil)) s_nil))) s_nil))) (s_cons (s_frz (s_ctOP call_list_of o_list rfl B.n_list (by decide +kernel) (q_cons (qv 1) q_nil))) (s_cons (s_tup (s_cons (s_tup (s_cons s_int (s_cons (s_tup (s_cons s_str s_nil)) s_nil))) (s_cons (s_tup (s_cons s_int (s_cons (s_tup (s_cons s_str s_nil)) s_nil))) s_nil))) s_nil)))))))
      (s_seq (s_asg (i := 3) sc.nd rfl (Or.inl rfl) (s_op o_addB p_add (sv 3) (s_lst (s_cons (s_tup (s_cons (s_tup (s_cons s_int (s_cons (s_tup (s_cons s_str s_nil)) s_nil))) (s_cons (s_tup (s_cons s_int (s_cons (s_tup (s_cons s_str s_nil)) s_nil))) s_nil))) s_nil))))
      (s_seq (s_asg (i := 4) sc.nd rfl (Or.inl rfl) (s_lst (s_cons (s_tup (s_cons s_str s_nil)) (s_cons (s_tup (s_cons s_str s_nil)) (s_cons (s_tup (s_cons s_str (s_cons s_int s_nil))) (s_cons (s_tup (s_cons s_str (s_cons s_int s_nil))) (s_cons (s_tup (s_cons s_str (s_cons s_int s_nil))) (s_cons (s_tup (s_cons s_str (s_cons (s_neg s_int) s_nil))) (s_cons (s_tup (s_cons s_str (s_cons s_bl s_nil))) (s_cons (s_tup (s_cons s_str s_nil)) s_nil))))))))))
      (s_seq (s_for pO rfl (s_it (s_op o_addB p_add (sv 4) (s_lst (s_cons (s_tup (s_cons s_str (s_cons s_str s_nil))) s_nil)))) (s_gn (i := 5) sc.nd rfl (Or.inl rfl)) (s_seq (s_asg (i := 3) sc.nd rfl (Or.inl rfl) (s_op o_addB p_add (sv 3) (s_lst (s_cons (s_tup (s_cons (s_tup (s_cons s_int (s_cons (sv 5) s_nil))) s_nil)) (s_cons (s_tup (s_cons (s_tup (s_cons s_int (s_cons (sv 5) s_nil))) s_nil)) (s_cons (s_tup (s_cons (s_tup (s_cons (s_neg s_int) (s_cons (sv 5) s_nil))) s_nil)) (s_cons (s_tup (s_cons (s_tup (s_cons s_bl (s_cons (sv 5) s_nil))) s_nil)) s_nil)))))))
      (s_one (s_asg (i := 3) sc.nd rfl (Or.inl rfl) (s_op o_addB p_add (sv 3) (s_lst (s_cons (s_tup (s_cons (s_tup (s_cons s_int (s_cons (s_frz (s_ctOP call_list_of o_list rfl B.n_list (by decide +kernel) (q_cons (qv 5) q_nil))) s_nil))) s_nil)) s_nil)))))))
      (s_seq (s_asg (i := 3) sc.nd rfl (Or.inl rfl) (s_op o_addB p_add (sv 3) (s_lst (s_cons (s_tup (s_cons (s_tup (s_cons s_int (s_cons (s_tup (s_cons s_str s_nil)) s_nil))) s_nil)) (s_cons (s_tup (s_cons (s_tup (s_cons s_int (s_cons s_str s_nil))) s_nil)) (s_cons (s_tup (s_cons (s_tup (s_cons s_int (s_cons (s_tup (s_cons s_str (s_cons s_int s_nil))) s_nil))) s_nil)) (s_cons (s_tup (s_cons (s_tup (s_cons s_int (s_cons (s_tup s_nil) s_nil))) s_nil)) (s_cons (s_tup (s_cons s_int (s_cons (s_tup (s_cons s_str s_nil)) s_nil))) s_nil))))))))
      (s_seq (s_asg (i := 3) sc.nd rfl (Or.inl rfl) (s_op o_addB p_add (sv 3) (s_lst (s_cons (s_tup (s_cons (s_tup (s_cons s_str (s_cons s_int s_nil))) s_nil)) (s_cons (s_tup (s_cons (s_tup (s_cons s_int s_nil)) s_nil)) s_nil)))))
      (s_seq (s_for pO rfl (s_it (s_op o_addB p_add (s_op o_addB p_add (sv 3) (s_lst (s_cons (sCl C__law_odd hG hr (by decide) rfl tk (s_cons (sv 0) s_nil)) s_nil))) (s_lc (own := [("_law_lap", 10)]) rfl sc.nd (s_rng1 rfl B.n_range (s_cons s_int s_nil)) (blkOk_by (own := [("_law_lap", 10)]) (N := N__law_right) (sc := defScope z__law_right) (by decide +kernel)) (fun _ _ _ _ _ => (s_gn (i := 10) sc.nd rfl (Or.inl rfl))) (fun _ _ _ _ _ => s_ts0) (fun _ _ _ _ _ => (sCl C__law_bent hG hr (by decide) rfl takes_noX (s_cons (sv 0) (s_cons (sv 1) s_nil))))))) (s_gn (i := 6) sc.nd rfl (Or.inl rfl)) (s_seq (s_par (i := 7) (j := 8) rfl sc.nd rfl rfl (by decide) rfl rfl (s_xI (s_cbP (call_reprT hG hU) o_repr rfl B.n_repr (by decide +kernel) (q_cons (qv 6) q_nil))) (s_xI (sCl C__law_are_faults hG hr (by decide) rfl tk (s_cons (sv 6) s_nil))) rfl)
      (s_one (s_if (PW.pt (s_or (s_not (s_tval (sCl C__law_same hG hr (by decide) rfl tk (s_cons (s_lst (s_cons (sCl C_is_weather hG hr (by decide) rfl tk (s_cons (sv 6) s_nil)) (s_cons (sCl C_is_weather hG hr (by decide) rfl tk (s_cons (sv 6) s_nil)) s_nil))) (s_cons (s_lst (s_cons (sv 8) (s_cons (sv 8) s_nil))) s_nil))))) (s_or1 (s_tcmp (o_ne hU) p_ne (s_cbP (call_reprT hG hU) o_repr rfl B.n_repr (by decide +kernel) (q_cons (qv 6) q_nil)) (sv 7) (nomark _))))) (s_one (s_ret s_bl)) s_end))))
      (s_one (s_ret s_bl)))))))))))
theorem ok_law (F : FunD K "law" "law" (defArgs z_law) (defBody z_law) (defScope z_law) [] [] f fd) (B : Bs K mg) (C__law_right : CalN P w K mg base (TT K) 8 "_law_right" ["_law_state_here"] [] m__law_right) (C__law_state : CalN P w K mg base (TT K) 2 "_law_state" ["_law_script", "_law_k"] [] m__law_state) : FnN P w K mg base 9 f fd ["_law_script"] (spM K (TT K) 1 m_law) := by
  have sc := sc_law
  refine okM (T := TT K) F sc rfl (fun cdv A outer s H E Γ hT hG hr => ?_)
  obtain ⟨U0, H0, A0, m0, T0⟩ := Γ
  obtain rfl : T0 = TT K := hT
  have tk := takes_N (P := P) (w := w) (K := K) (mg := mg) (base := base) (N := N_law) (qual := "law") (scope := defScope z_law) (f := f) (cd := cdv) (A := A) (outer := outer) (s := s) (H := H) (E := E)
  have pO := own_N (P := P) (w := w) (K := K) (mg := mg) (base := base) (N := N_law) (qual := "law") (scope := defScope z_law) (f := f) (cd := cdv) (A := A) (outer := outer) (s := s) (H := H) (E := E)
  have hU := hr.units
  have hU65 := units65 hr
  have hU1 : (A.deeper (envOfC "law" (defScope z_law) s.heap.objs.size f cdv)).units + 1 < cLine := by have := hr.un; omega
  exact (s_seq (s_for pO rfl (s_rng1 rfl B.n_range (s_cons (s_cb (call_max2 rfl) o_max2 rfl B.n_max (by decide +kernel) (s_cons s_int (s_cons (s_cb (call_min2 rfl) o_min2 rfl B.n_min (by decide +kernel) (s_cons (s_cbP c_len o_len rfl B.n_len (by decide +kernel) (q_cons (qv 0) q_nil)) (s_cons s_int s_nil))) s_nil))) s_nil)) (s_gn (i := 1) sc.nd rfl (Or.inl rfl)) (s_seq (s_asg (i := 2) sc.nd rfl (Or.inl rfl) (sCl C__law_state hG hr (by decide) rfl tk (s_cons (sv 0) (s_cons (sv 1) s_nil))))
      (s_one (s_for pO rfl (s_rng1 rfl B.n_range (s_cons s_int s_nil)) (s_gn (i := 3) sc.nd rfl (Or.inl rfl)) (s_one (s_if (s_not (s_tval (sCl C__law_right hG hr (by decide) rfl tk (s_cons (sv 2) s_nil)))) (s_one (s_ret s_bl)) s_end))))))
      (s_one (s_ret s_bl)))
end
/-! ### the head -/
theorem facts {P : Program} {w : World} {K : PySem.W.Frag} {h : Heap} {mg : Str → Option Value} {f : Addr} (X : K.In h) (G : h.Ns mainGlobals mg) (hfa : mg ("law" : Str) = some (.ref f)) (c : obsK fa fn ex K = (He.valD fn, true)) :
    ∃ fd : FuncData, (∀ (s : Shared) (v : Value), BindsTo s fd ⟨[v], []⟩ [("_law_script", v)]) ∧ ∀ base : Heap, K.In base → base.Ns mainGlobals mg → (∀ p ∈ mk.map (mkr K), LamX.TabB base mg p.1 p.2) → FnN P w K mg base 9 f fd ["_law_script"] (spM K (TT K) 1 m_law) := by
  have cD : He.SaysD fa fn K := congrArg (fun z : He.AlD × Bool => z.1) c
  have mo : ex K = true := congrArg (fun z : He.AlD × Bool => z.2) c
  simp only [ex, Bool.and_eq_true] at mo
  obtain ⟨⟨m0, m1⟩, _⟩ := mo
  have B : Bs K mg := {
    yes := trivial
    n_all := He.free_ok X G (cD.fact 0 (f := .free "all") rfl)
    n_bool := He.free_ok X G (cD.fact 1 (f := .free "bool") rfl)
    n_int := He.free_ok X G (cD.fact 2 (f := .free "int") rfl)
    n_isinstance := He.free_ok X G (cD.fact 3 (f := .free "isinstance") rfl)
    n_len := He.free_ok X G (cD.fact 4 (f := .free "len") rfl)
    n_list := He.free_ok X G (cD.fact 5 (f := .free "list") rfl)
    n_max := He.free_ok X G (cD.fact 6 (f := .free "max") rfl)
    n_min := He.free_ok X G (cD.fact 7 (f := .free "min") rfl)
    n_range := He.free_ok X G (cD.fact 8 (f := .free "range") rfl)
    n_repr := He.free_ok X G (cD.fact 9 (f := .free "repr") rfl)
    n_set := He.free_ok X G (cD.fact 10 (f := .free "set") rfl)
    n_sorted := He.free_ok X G (cD.fact 11 (f := .free "sorted") rfl)
    n_str := He.free_ok X G (cD.fact 12 (f := .free "str") rfl)
    n_tuple := He.free_ok X G (cD.fact 13 (f := .free "tuple") rfl)
    n_zip := He.free_ok X G (cD.fact 14 (f := .free "zip") rfl)
    r_BAD := He.glo_ok X G (cD.fact 15 (f := .glo "BAD") rfl)
    p_BAD := rp_tupC (fun H => He.tupB_ok m0 H) (fun _ _ _ => (.str .nil))
    r_CUT := He.glo_ok X G (cD.fact 16 (f := .glo "CUT") rfl)
    p_CUT := rp_tupC (fun H => He.tupB_ok m1 H) (fun _ _ _ => (.str .nil))
    c_MOST_FAULTS := He.int_ok X G (cD.fact 17 (f := .int "MOST_FAULTS" 40) rfl)
    c_MOST_STEP := He.int_ok X G (cD.fact 18 (f := .int "MOST_STEP" 9999) rfl)
    c_WORD_BITS := He.int_ok X G (cD.fact 19 (f := .int "WORD_BITS" 47) rfl)
  }
  obtain ⟨fd_is_whole, F_is_whole⟩ := cD.def_ 0 (d := dd_is_whole) rfl
  obtain ⟨fd_is_within, F_is_within⟩ := cD.def_ 1 (d := dd_is_within) rfl
  obtain ⟨fd_rises, F_rises⟩ := cD.def_ 2 (d := dd_rises) rfl
  obtain ⟨fd_is_fault, F_is_fault⟩ := cD.def_ 3 (d := dd_is_fault) rfl
  obtain ⟨fd_is_weather, F_is_weather⟩ := cD.def_ 4 (d := dd_is_weather) rfl
  obtain ⟨fd__law_cell_at, F__law_cell_at⟩ := cD.def_ 5 (d := dd__law_cell_at) rfl
  obtain ⟨fd__law_state, F__law_state⟩ := cD.def_ 6 (d := dd__law_state) rfl
  obtain ⟨fd__law_choice, F__law_choice⟩ := cD.def_ 7 (d := dd__law_choice) rfl
  obtain ⟨fd__law_odd, F__law_odd⟩ := cD.def_ 8 (d := dd__law_odd) rfl
  obtain ⟨fd__law_same, F__law_same⟩ := cD.def_ 9 (d := dd__law_same) rfl
  obtain ⟨fd__law_whole, F__law_whole⟩ := cD.def_ 10 (d := dd__law_whole) rfl
  obtain ⟨fd__law_bent, F__law_bent⟩ := cD.def_ 11 (d := dd__law_bent) rfl
  obtain ⟨fd__law_any_weather, F__law_any_weather⟩ := cD.def_ 12 (d := dd__law_any_weather) rfl
  obtain ⟨fd__law_is_fault, F__law_is_fault⟩ := cD.def_ 13 (d := dd__law_is_fault) rfl
  obtain ⟨fd__law_are_faults, F__law_are_faults⟩ := cD.def_ 14 (d := dd__law_are_faults) rfl
  obtain ⟨fd__law_right, F__law_right⟩ := cD.def_ 15 (d := dd__law_right) rfl
  obtain ⟨fd_law, F_law⟩ := cD.def_ 16 (d := dd_law) rfl
  have e := hfa.symm.trans (He.glo_ok X G (cD.fact 36 (f := .glo "law") rfl))
  cases e
  have b := FunD.bindsA (ps := ["_law_script"]) F_law fun _ _ _ _ _ _ us hl => match us, hl with | [_], _ => rfl
  refine ⟨fd_law, fun s v => b s [v] rfl, fun base _ _ hTB => ?_⟩
  have o_is_whole := ok_is_whole (P := P) (w := w) (base := base) F_is_whole B 
  have biC_is_whole : Binds K fd_is_whole ["thing"] [] := F_is_whole.bindsN (fun _ _ _ _ _ _ us hl => match us, hl with | [_], _ => rfl)
  have C_is_whole : CalN P w K mg base (TT K) 1 "is_whole" ["thing"] [] m_is_whole := ⟨⟨_, _, [], [], o_is_whole, He.glo_ok X G (cD.fact 20 (f := .glo "is_whole") rfl), F_is_whole.kp, biC_is_whole, .nil, fun _ _ _ => .nil⟩⟩
  have o_is_within := ok_is_within (P := P) (w := w) (base := base) F_is_within B C_is_whole
  have biC_is_within : Binds K fd_is_within ["thing", "least", "most"] [] := F_is_within.bindsN (fun _ _ _ _ _ _ us hl => match us, hl with | [_, _, _], _ => rfl)
  have C_is_within : CalN P w K mg base (TT K) 2 "is_within" ["thing", "least", "most"] [] m_is_within := ⟨⟨_, _, [], [], o_is_within, He.glo_ok X G (cD.fact 21 (f := .glo "is_within") rfl), F_is_within.kp, biC_is_within, .nil, fun _ _ _ => .nil⟩⟩
  have o_rises := ok_rises (P := P) (w := w) (base := base) F_rises B 
  have biC_rises : Binds K fd_rises ["row"] [] := F_rises.bindsN (fun _ _ _ _ _ _ us hl => match us, hl with | [_], _ => rfl)
  have C_rises : CalN P w K mg base (TT K) 1 "rises" ["row"] [] m_rises := ⟨⟨_, _, [], [], o_rises, He.glo_ok X G (cD.fact 22 (f := .glo "rises") rfl), F_rises.kp, biC_rises, .nil, fun _ _ _ => .nil⟩⟩
  have o_is_fault := ok_is_fault (P := P) (w := w) (base := base) F_is_fault B C_is_within
  have biC_is_fault : Binds K fd_is_fault ["thing"] [] := F_is_fault.bindsN (fun _ _ _ _ _ _ us hl => match us, hl with | [_], _ => rfl)
  have C_is_fault : CalN P w K mg base (TT K) 3 "is_fault" ["thing"] [] m_is_fault := ⟨⟨_, _, [], [], o_is_fault, He.glo_ok X G (cD.fact 23 (f := .glo "is_fault") rfl), F_is_fault.kp, biC_is_fault, .nil, fun _ _ _ => .nil⟩⟩
  have o_is_weather := ok_is_weather (P := P) (w := w) (base := base) F_is_weather B C_is_fault C_is_within C_rises
  have biC_is_weather : Binds K fd_is_weather ["thing"] [] := F_is_weather.bindsN (fun _ _ _ _ _ _ us hl => match us, hl with | [_], _ => rfl)
  have C_is_weather : CalN P w K mg base (TT K) 4 "is_weather" ["thing"] [] m_is_weather := ⟨⟨_, _, [], [], o_is_weather, He.glo_ok X G (cD.fact 24 (f := .glo "is_weather") rfl), F_is_weather.kp, biC_is_weather, .nil, fun _ _ _ => .nil⟩⟩
  have o__law_cell_at := ok__law_cell_at (P := P) (w := w) (base := base) F__law_cell_at B 
  have biC__law_cell_at : Binds K fd__law_cell_at ["_law_script", "_law_k"] [] := F__law_cell_at.bindsN (fun _ _ _ _ _ _ us hl => match us, hl with | [_, _], _ => rfl)
  have C__law_cell_at : CalN P w K mg base (TT K) 1 "_law_cell_at" ["_law_script", "_law_k"] [] m__law_cell_at := ⟨⟨_, _, [], [], o__law_cell_at, He.glo_ok X G (cD.fact 25 (f := .glo "_law_cell_at") rfl), F__law_cell_at.kp, biC__law_cell_at, .nil, fun _ _ _ => .nil⟩⟩
  have o__law_state := ok__law_state (P := P) (w := w) (base := base) F__law_state B C__law_cell_at
  have biC__law_state : Binds K fd__law_state ["_law_script", "_law_k"] [] := F__law_state.bindsN (fun _ _ _ _ _ _ us hl => match us, hl with | [_, _], _ => rfl)
  have C__law_state : CalN P w K mg base (TT K) 2 "_law_state" ["_law_script", "_law_k"] [] m__law_state := ⟨⟨_, _, [], [], o__law_state, He.glo_ok X G (cD.fact 26 (f := .glo "_law_state") rfl), F__law_state.kp, biC__law_state, .nil, fun _ _ _ => .nil⟩⟩
  have o__law_choice := ok__law_choice (P := P) (w := w) (base := base) F__law_choice B 
  have biC__law_choice : Binds K fd__law_choice ["_law_state_here", "_law_many"] [] := F__law_choice.bindsN (fun _ _ _ _ _ _ us hl => match us, hl with | [_, _], _ => rfl)
  have C__law_choice : CalN P w K mg base (TT K) 1 "_law_choice" ["_law_state_here", "_law_many"] [] m__law_choice := ⟨⟨_, _, [], [], o__law_choice, He.glo_ok X G (cD.fact 27 (f := .glo "_law_choice") rfl), F__law_choice.kp, biC__law_choice, .nil, fun _ _ _ => .nil⟩⟩
  have o__law_odd := ok__law_odd (P := P) (w := w) (base := base) F__law_odd B C__law_choice
  have biC__law_odd : Binds K fd__law_odd ["_law_state_here"] [] := F__law_odd.bindsN (fun _ _ _ _ _ _ us hl => match us, hl with | [_], _ => rfl)
  have C__law_odd : CalN P w K mg base (TT K) 2 "_law_odd" ["_law_state_here"] [] m__law_odd := ⟨⟨_, _, [], [], o__law_odd, He.glo_ok X G (cD.fact 28 (f := .glo "_law_odd") rfl), F__law_odd.kp, biC__law_odd, .nil, fun _ _ _ => .nil⟩⟩
  have o__law_same := ok__law_same (P := P) (w := w) (base := base) F__law_same B 
  have biC__law_same : Binds K fd__law_same ["_law_found", "_law_owed"] [] := F__law_same.bindsN (fun _ _ _ _ _ _ us hl => match us, hl with | [_, _], _ => rfl)
  have C__law_same : CalN P w K mg base (TT K) 1 "_law_same" ["_law_found", "_law_owed"] [] m__law_same := ⟨⟨_, _, [], [], o__law_same, He.glo_ok X G (cD.fact 29 (f := .glo "_law_same") rfl), F__law_same.kp, biC__law_same, .nil, fun _ _ _ => .nil⟩⟩
  have o__law_whole := ok__law_whole (P := P) (w := w) (base := base) F__law_whole B 
  have biC__law_whole : Binds K fd__law_whole ["_law_thing"] [] := F__law_whole.bindsN (fun _ _ _ _ _ _ us hl => match us, hl with | [_], _ => rfl)
  have C__law_whole : CalN P w K mg base (TT K) 1 "_law_whole" ["_law_thing"] [] m__law_whole := ⟨⟨_, _, [], [], o__law_whole, He.glo_ok X G (cD.fact 30 (f := .glo "_law_whole") rfl), F__law_whole.kp, biC__law_whole, .nil, fun _ _ _ => .nil⟩⟩
  have biR__law_bent : Binds K fd__law_bent ["_law_state_here", "_law_thing"] [] := F__law_bent.bindsN (fun _ _ _ _ _ _ us hl => match us, hl with | [_, _], _ => rfl)
  have o__law_bent := ok__law_bent (P := P) (w := w) (base := base) F__law_bent B (He.glo_ok X G (cD.fact 31 (f := .glo "_law_bent") rfl)) biR__law_bent C__law_choice
  have biC__law_bent : Binds K fd__law_bent ["_law_state_here", "_law_thing"] [] := F__law_bent.bindsN (fun _ _ _ _ _ _ us hl => match us, hl with | [_, _], _ => rfl)
  have C__law_bent : CalN P w K mg base (TT K) 7 "_law_bent" ["_law_state_here", "_law_thing"] [] m__law_bent := ⟨⟨_, _, [], [], o__law_bent, He.glo_ok X G (cD.fact 31 (f := .glo "_law_bent") rfl), F__law_bent.kp, biC__law_bent, .nil, fun _ _ _ => .nil⟩⟩
  have o__law_any_weather := ok__law_any_weather (P := P) (w := w) (base := base) F__law_any_weather B C__law_choice
  have biC__law_any_weather : Binds K fd__law_any_weather ["_law_state_here", "_law_far_step"] [] := F__law_any_weather.bindsN (fun _ _ _ _ _ _ us hl => match us, hl with | [_, _], _ => rfl)
  have C__law_any_weather : CalN P w K mg base (TT K) 2 "_law_any_weather" ["_law_state_here", "_law_far_step"] [] m__law_any_weather := ⟨⟨_, _, [], [], o__law_any_weather, He.glo_ok X G (cD.fact 32 (f := .glo "_law_any_weather") rfl), F__law_any_weather.kp, biC__law_any_weather, .nil, fun _ _ _ => .nil⟩⟩
  have o__law_is_fault := ok__law_is_fault (P := P) (w := w) (base := base) F__law_is_fault B C__law_whole
  have biC__law_is_fault : Binds K fd__law_is_fault ["_law_thing"] [] := F__law_is_fault.bindsN (fun _ _ _ _ _ _ us hl => match us, hl with | [_], _ => rfl)
  have C__law_is_fault : CalN P w K mg base (TT K) 2 "_law_is_fault" ["_law_thing"] [] m__law_is_fault := ⟨⟨_, _, [], [], o__law_is_fault, He.glo_ok X G (cD.fact 33 (f := .glo "_law_is_fault") rfl), F__law_is_fault.kp, biC__law_is_fault, .nil, fun _ _ _ => .nil⟩⟩
  have o__law_are_faults := ok__law_are_faults (P := P) (w := w) (base := base) F__law_are_faults B C__law_is_fault C__law_whole
  have biC__law_are_faults : Binds K fd__law_are_faults ["_law_thing"] [] := F__law_are_faults.bindsN (fun _ _ _ _ _ _ us hl => match us, hl with | [_], _ => rfl)
  have C__law_are_faults : CalN P w K mg base (TT K) 3 "_law_are_faults" ["_law_thing"] [] m__law_are_faults := ⟨⟨_, _, [], [], o__law_are_faults, He.glo_ok X G (cD.fact 34 (f := .glo "_law_are_faults") rfl), F__law_are_faults.kp, biC__law_are_faults, .nil, fun _ _ _ => .nil⟩⟩
  have o__law_right := ok__law_right (P := P) (w := w) (base := base) F__law_right B C__law_any_weather C__law_are_faults C__law_bent C__law_odd C__law_same C_is_weather
  have biC__law_right : Binds K fd__law_right ["_law_state_here"] [] := F__law_right.bindsN (fun _ _ _ _ _ _ us hl => match us, hl with | [_], _ => rfl)
  have C__law_right : CalN P w K mg base (TT K) 8 "_law_right" ["_law_state_here"] [] m__law_right := ⟨⟨_, _, [], [], o__law_right, He.glo_ok X G (cD.fact 35 (f := .glo "_law_right") rfl), F__law_right.kp, biC__law_right, .nil, fun _ _ _ => .nil⟩⟩
  exact ok_law F_law B C__law_right C__law_state
end Fk
/-! ## the evaluator's rows -/
namespace Fk
open PySem PySem.Spec PyProof.Rows L2
@[simp] theorem k_eVar (i : Nat) (r0 : List Sl) (s0 : List AV) : eVar i (Ss.mk r0 s0) = match getSl r0 i with
  | .im d => .ok d (Ss.mk r0 s0)
  | .ow d => match frz d with
    | some d' => .ok d' ⟨setSl r0 i (.im d'), s0⟩
    | none => .bad
  | .no => .bad := id rfl
@[simp] theorem k_eC (d : AV) (r0 : List Sl) (s0 : List AV) : eC d (Ss.mk r0 s0) = .ok d (Ss.mk r0 s0) := id rfl
@[simp] theorem k_e1 (f : AV → Option AV) (a : M AV) (r0 : List Sl) (s0 : List AV) : e1 f a (Ss.mk r0 s0) = (a (Ss.mk r0 s0)).bind fun x s1 => ofO (f x) s1 := id rfl
@[simp] theorem k_e2 (f : AV → AV → Option AV) (a b : M AV) (r0 : List Sl) (s0 : List AV) : e2 f a b (Ss.mk r0 s0) = (a (Ss.mk r0 s0)).bind fun x s1 => (b s1).bind fun y s2 => ofO (f x y) s2 := id rfl
@[simp] theorem k_tOf (m : M AV) (r0 : List Sl) (s0 : List AV) : tOf m (Ss.mk r0 s0) = (m (Ss.mk r0 s0)).bind fun x s1 => match x with
  | .bl b => .ok b s1
  | _ => .bad := id rfl
@[simp] theorem k_aNil  (r0 : List Sl) (s0 : List AV) : aNil (Ss.mk r0 s0) = .ok [] (Ss.mk r0 s0) := id rfl
@[simp] theorem k_aCons (a : M AV) (r : M (List AV)) (r0 : List Sl) (s0 : List AV) : aCons a r (Ss.mk r0 s0) = (a (Ss.mk r0 s0)).bind fun x s1 => (r s1).bind fun xs s2 => .ok (x :: xs) s2 := id rfl
@[simp] theorem k_eTup (a : M (List AV)) (r0 : List Sl) (s0 : List AV) : eTup a (Ss.mk r0 s0) = (a (Ss.mk r0 s0)).bind fun xs s1 => if xs.length ≤ 16777216 then .ok (.tup xs) s1 else .bad := id rfl
@[simp] theorem k_eLst (a : M (List AV)) (r0 : List Sl) (s0 : List AV) : eLst a (Ss.mk r0 s0) = (a (Ss.mk r0 s0)).bind fun xs s1 => if xs.length ≤ 16777216 then .ok (.lst false xs) s1 else .bad := id rfl
@[simp] theorem k_eLstO (a : M (List AV)) (r0 : List Sl) (s0 : List AV) : eLstO a (Ss.mk r0 s0) = (a (Ss.mk r0 s0)).bind fun xs s1 => if xs.length ≤ 16777216 then .ok (.lst true xs) s1 else .bad := id rfl
@[simp] theorem k_tNotM (a : M Bool) (r0 : List Sl) (s0 : List AV) : tNotM a (Ss.mk r0 s0) = (a (Ss.mk r0 s0)).bind fun x s1 => .ok (!x) s1 := id rfl
@[simp] theorem k_tAndM (a b : M Bool) (r0 : List Sl) (s0 : List AV) : tAndM a b (Ss.mk r0 s0) = (a (Ss.mk r0 s0)).bind fun x s1 => bif x then b s1 else .ok false s1 := id rfl
@[simp] theorem k_tOrM (a b : M Bool) (r0 : List Sl) (s0 : List AV) : tOrM a b (Ss.mk r0 s0) = (a (Ss.mk r0 s0)).bind fun x s1 => bif x then .ok true s1 else b s1 := id rfl
@[simp] theorem k_eAnd (a b : M AV) (r0 : List Sl) (s0 : List AV) : eAnd a b (Ss.mk r0 s0) = (a (Ss.mk r0 s0)).bind fun x s1 => (ofO (asB x) s1).bind fun c s2 => bif c then b s2 else .ok (.bl false) s2 := id rfl
@[simp] theorem k_eOr (a b : M AV) (r0 : List Sl) (s0 : List AV) : eOr a b (Ss.mk r0 s0) = (a (Ss.mk r0 s0)).bind fun x s1 => (ofO (asB x) s1).bind fun c s2 => bif c then .ok (.bl true) s2 else b s2 := id rfl
@[simp] theorem k_eIf (t : M Bool) (a b : M AV) (r0 : List Sl) (s0 : List AV) : eIf t a b (Ss.mk r0 s0) = (t (Ss.mk r0 s0)).bind fun c s1 => bif c then a s1 else b s1 := id rfl
@[simp] theorem k_eChn (f g : AV → AV → Option AV) (a b c : M AV) (r0 : List Sl) (s0 : List AV) : eChn f g a b c (Ss.mk r0 s0) = (a (Ss.mk r0 s0)).bind fun x s1 => (b s1).bind fun y s2 => (ofO ((f x y).bind asB) s2).bind fun k s3 => bif k then (c s3).bind fun z s4 => ofO (g y z) s4 else .ok (.bl false) s3 := id rfl
@[simp] theorem k_sNx  (r0 : List Sl) (s0 : List AV) : sNx (Ss.mk r0 s0) = .ok .nx (Ss.mk r0 s0) := id rfl
@[simp] theorem k_sSeq (a b : M Fl) (r0 : List Sl) (s0 : List AV) : sSeq a b (Ss.mk r0 s0) = (a (Ss.mk r0 s0)).bind fun f s1 => match f with
  | .nx => b s1
  | f => .ok f s1 := id rfl
@[simp] theorem k_sAsg (i : Nat) (e : M AV) (r0 : List Sl) (s0 : List AV) : sAsg i e (Ss.mk r0 s0) = (e (Ss.mk r0 s0)).bind fun d s1 => .ok .nx ⟨setSl s1.r i (.im d), s1.s⟩ := id rfl
@[simp] theorem k_sAsgO (i : Nat) (e : M AV) (r0 : List Sl) (s0 : List AV) : sAsgO i e (Ss.mk r0 s0) = (e (Ss.mk r0 s0)).bind fun d s1 => .ok .nx ⟨setSl s1.r i (.ow d), s1.s⟩ := id rfl
@[simp] theorem k_sExp (e : M AV) (r0 : List Sl) (s0 : List AV) : sExp e (Ss.mk r0 s0) = (e (Ss.mk r0 s0)).bind fun _ s1 => .ok .nx s1 := id rfl
@[simp] theorem k_sRet (e : M AV) (r0 : List Sl) (s0 : List AV) : sRet e (Ss.mk r0 s0) = (e (Ss.mk r0 s0)).bind fun d s1 => .ok (.rt d) s1 := id rfl
@[simp] theorem k_sIf (t : M Bool) (a b : M Fl) (r0 : List Sl) (s0 : List AV) : sIf t a b (Ss.mk r0 s0) = (t (Ss.mk r0 s0)).bind fun c s1 => bif c then a s1 else b s1 := id rfl
@[simp] theorem k_sBrk  (r0 : List Sl) (s0 : List AV) : sBrk (Ss.mk r0 s0) = .ok .bk (Ss.mk r0 s0) := id rfl
@[simp] theorem k_sCnt  (r0 : List Sl) (s0 : List AV) : sCnt (Ss.mk r0 s0) = .ok .ct (Ss.mk r0 s0) := id rfl
@[simp] theorem k_sAsgOw (i : Nat) (e : M AV) (r0 : List Sl) (s0 : List AV) : sAsgOw i e (Ss.mk r0 s0) = (e (Ss.mk r0 s0)).bind fun d s1 => if i < s1.r.length then .ok .nx ⟨setSl s1.r i (.ow d), s1.s⟩ else .bad := id rfl
@[simp] theorem k_eCall (n : Nat) (f : Fn) (ds : List AV) (a : M (List AV)) (r0 : List Sl) (s0 : List AV) : eCall n f ds a (Ss.mk r0 s0) = (a (Ss.mk r0 s0)).bind fun xs s1 => if xs.length + ds.length = n then back s1.r (f (xs ++ ds) s1.s) else .bad := id rfl
@[simp] theorem k_sRaise (c : Str) (r0 : List Sl) (s0 : List AV) : sRaise c (Ss.mk r0 s0) = .err c (Ss.mk r0 s0) := id rfl
@[simp] theorem k_iOf (m : M AV) (r0 : List Sl) (s0 : List AV) : iOf m (Ss.mk r0 s0) = (m (Ss.mk r0 s0)).bind fun x s1 => ofO (itemsOf x) s1 := id rfl
@[simp] theorem k_iArg (f : List AV → Option (List AV)) (m : M (List AV)) (r0 : List Sl) (s0 : List AV) : iArg f m (Ss.mk r0 s0) = (m (Ss.mk r0 s0)).bind fun xs s1 => ofO (f xs) s1 := id rfl
@[simp] theorem k_sFor (mi : M (List AV)) (t : Tg) (body : M Fl) (r0 : List Sl) (s0 : List AV) : sFor mi t body (Ss.mk r0 s0) = (mi (Ss.mk r0 s0)).bind fun ds s1 => forM t body ds s1 := id rfl
@[simp] theorem k_tTrue  (r0 : List Sl) (s0 : List AV) : tTrue (Ss.mk r0 s0) = .ok true (Ss.mk r0 s0) := id rfl
@[simp] theorem k_lcM (mi : M (List AV)) (t : Tg) (tt : M Bool) (te : M AV) (vs : List Nat) (r0 : List Sl) (s0 : List AV) : lcM mi t tt te vs (Ss.mk r0 s0) = (mi (Ss.mk r0 s0)).bind fun ds s1 => compM t tt te vs ds [] (s1.wipe vs) := id rfl
@[simp] theorem k_eLc (o : Bool) (m : M (List AV)) (r0 : List Sl) (s0 : List AV) : eLc o m (Ss.mk r0 s0) = (m (Ss.mk r0 s0)).bind fun xs s1 => .ok (.lst o xs) s1 := id rfl
@[simp] theorem k_eB (f : List AV → List AV → Option AV) (a : M (List AV)) (r0 : List Sl) (s0 : List AV) : eB f a (Ss.mk r0 s0) = (a (Ss.mk r0 s0)).bind fun xs s1 => ofO (f s1.s xs) s1 := id rfl
@[simp] theorem k_eBP (f : List AV → List AV → Option AV) (a : Ss → Option (List AV)) (r0 : List Sl) (s0 : List AV) : eBP f a (Ss.mk r0 s0) = match a (Ss.mk r0 s0) with
  | some xs => ofO (f s0 xs) (Ss.mk r0 s0)
  | none => .bad := id rfl
@[simp] theorem k_pNil  (r0 : List Sl) (s0 : List AV) : pNil (Ss.mk r0 s0) = some [] := id rfl
@[simp] theorem k_pCons (a : Ss → Option AV) (r : Ss → Option (List AV)) (r0 : List Sl) (s0 : List AV) : pCons a r (Ss.mk r0 s0) = (a (Ss.mk r0 s0)).bind fun x => (r (Ss.mk r0 s0)).map (x :: ·) := id rfl
@[simp] theorem k_pVar (i : Nat) (r0 : List Sl) (s0 : List AV) : pVar i (Ss.mk r0 s0) = match getSl r0 i with
  | .im d => some d
  | .ow d => some d
  | .no => none := id rfl
@[simp] theorem k_pC (d : AV) (r0 : List Sl) (s0 : List AV) : pC d (Ss.mk r0 s0) = some d := id rfl
@[simp] theorem k_p2 (f : AV → AV → Option AV) (a b : Ss → Option AV) (r0 : List Sl) (s0 : List AV) : p2 f a b (Ss.mk r0 s0) = (a (Ss.mk r0 s0)).bind fun x => (b (Ss.mk r0 s0)).bind fun y => f x y := id rfl
@[simp] theorem k_eP (m : Ss → Option AV) (r0 : List Sl) (s0 : List AV) : eP m (Ss.mk r0 s0) = match m (Ss.mk r0 s0) with
  | some d => bif imm d then .ok d (Ss.mk r0 s0) else .bad
  | none => .bad := id rfl
@[simp] theorem k_e2P (f : AV → AV → Option AV) (a b : Ss → Option AV) (r0 : List Sl) (s0 : List AV) : e2P f a b (Ss.mk r0 s0) = match p2 f a b (Ss.mk r0 s0) with
  | some d => .ok d (Ss.mk r0 s0)
  | none => .bad := id rfl
@[simp] theorem k_eIsi (n : String) (m : M AV) (r0 : List Sl) (s0 : List AV) : eIsi n m (Ss.mk r0 s0) = (m (Ss.mk r0 s0)).bind fun x s1 => bif okT x then .ok (.bl (isT n x)) s1 else .bad := id rfl
@[simp] theorem k_eIx (a b : M AV) (r0 : List Sl) (s0 : List AV) : eIx a b (Ss.mk r0 s0) = (a (Ss.mk r0 s0)).bind fun x s1 => (b s1).bind fun y s2 => match ixA s2.s x y with
  | some d => bif imm d then .ok d s2 else .bad
  | none => .bad := id rfl
@[simp] theorem k_pIx (a b : Ss → Option AV) (r0 : List Sl) (s0 : List AV) : pIx a b (Ss.mk r0 s0) = (a (Ss.mk r0 s0)).bind fun x => (b (Ss.mk r0 s0)).bind fun y => ixA s0 x y := id rfl
@[simp] theorem k_eSl (a : M AV) (lo hi : Option (M AV)) (r0 : List Sl) (s0 : List AV) : eSl a lo hi (Ss.mk r0 s0) = (a (Ss.mk r0 s0)).bind fun x s1 => (oPart lo s1).bind fun l s2 => (oPart hi s2).bind fun u s3 => ofO (slA x l u) s3 := id rfl
@[simp] theorem k_eApp (i : Nat) (m : M AV) (r0 : List Sl) (s0 : List AV) : eApp i m (Ss.mk r0 s0) = match ownL (getSl r0 i) with
  | none => .bad
  | some _ => (m (Ss.mk r0 s0)).bind fun d s1 => match ownL (getSl s1.r i) with
    | none => .bad
    | some xs => if xs.length < 16777216 then .ok .non (putL i (xs ++ [d]) s1) else .bad := id rfl
@[simp] theorem k_ePop (i : Nat) (m : M AV) (r0 : List Sl) (s0 : List AV) : ePop i m (Ss.mk r0 s0) = match ownL (getSl r0 i) with
  | none => .bad
  | some _ => (m (Ss.mk r0 s0)).bind fun d s1 => match ownL (getSl s1.r i) with
    | none => .bad
    | some xs => match popA xs d with
      | some (y, ys) => .ok y (putL i ys s1)
      | none => .bad := id rfl
@[simp] theorem k_sSetB (i : Nat) (mk mv : M AV) (r0 : List Sl) (s0 : List AV) : sSetB i mk mv (Ss.mk r0 s0) = (mv (Ss.mk r0 s0)).bind fun d s1 => bif isOw (getSl s1.r i) then (mk s1).bind fun y s2 => storeB i y d s2 else .bad := id rfl
@[simp] theorem k_pFld (C f : Str) (m : Ss → Option AV) (r0 : List Sl) (s0 : List AV) : pFld C f m (Ss.mk r0 s0) = (m (Ss.mk r0 s0)).bind fun x => fldA s0 C f x := id rfl
@[simp] theorem k_sFld (C f : Str) (mo : Ss → Option AV) (mv : M AV) (r0 : List Sl) (s0 : List AV) : sFld C f mo mv (Ss.mk r0 s0) = (mv (Ss.mk r0 s0)).bind fun d s1 => match (mo s1).bind fun x => putFld C f x d s1 with
  | some s2 => .ok .nx s2
  | none => .bad := id rfl
@[simp] theorem k_mAlt {α : Type} (a b : M α) (r0 : List Sl) (s0 : List AV) : mAlt a b (Ss.mk r0 s0) = match a (Ss.mk r0 s0) with
  | .bad => b (Ss.mk r0 s0)
  | r => r := id rfl
@[simp] theorem k_sSetP (w : Bool) (fo : Option (Str × Str)) (mo mk : Ss → Option AV) (mv : M AV) (r0 : List Sl) (s0 : List AV) : sSetP w fo mo mk mv (Ss.mk r0 s0) = (mv (Ss.mk r0 s0)).bind fun d s1 => match (mo s1).bind locOf with
  | some l => (match mk s1 with
    | some y => (match (getPl s1.s l fo).bind fun z => setZ w z y d with
      | some z' => .ok .nx ⟨s1.r, setPl s1.s l fo z'⟩
      | none => .bad)
    | none => .bad)
  | none => .bad := id rfl
@[simp] theorem k_sAug (i : Nat) (m : M AV) (r0 : List Sl) (s0 : List AV) : sAug i m (Ss.mk r0 s0) = match getSl r0 i with
  | .im (.int a) => (m (Ss.mk r0 s0)).bind fun d s1 => match d with
    | .int b => .ok .nx ⟨setSl s1.r i (.im (.int (a + b))), s1.s⟩
    | _ => .bad
  | _ => .bad := id rfl
@[simp] theorem k_sFAug (C f : Str) (mo mv : M AV) (r0 : List Sl) (s0 : List AV) : sFAug C f mo mv (Ss.mk r0 s0) = (mo (Ss.mk r0 s0)).bind fun x s1 => match fldA s1.s C f x with
  | some (.int a) => (mv s1).bind fun d s2 => match d with
    | .int b => (match putFld C f x (.int (a + b)) s2 with
      | some s3 => .ok .nx s3
      | none => .bad)
    | _ => .bad
  | _ => .bad := id rfl
@[simp] theorem k_sAugP (fo : Option (Str × Str)) (mo mk me : Ss → Option AV) (r0 : List Sl) (s0 : List AV) : sAugP fo mo mk me (Ss.mk r0 s0) = match (mo (Ss.mk r0 s0)).bind locOf with
  | some l => (match mk (Ss.mk r0 s0), me (Ss.mk r0 s0) with
    | some y, some d => (match (getPl s0 l fo).bind fun z => augZ z y d with
      | some z' => .ok .nx ⟨r0, setPl s0 l fo z'⟩
      | none => .bad)
    | _, _ => .bad)
  | none => .bad := id rfl
@[simp] theorem k_sAugB (i : Nat) (mk me : Ss → Option AV) (r0 : List Sl) (s0 : List AV) : sAugB i mk me (Ss.mk r0 s0) = match ownL (getSl r0 i) with
  | some xs => (match mk (Ss.mk r0 s0), me (Ss.mk r0 s0) with
    | some y, some d => (match augZ (.lst true xs) y d with
      | some (.lst _ ys) => .ok .nx (putL i ys (Ss.mk r0 s0))
      | _ => .bad)
    | _, _ => .bad)
  | none => .bad := id rfl
@[simp] theorem k_eProm (m : M AV) (r0 : List Sl) (s0 : List AV) : eProm m (Ss.mk r0 s0) = (m (Ss.mk r0 s0)).bind fun d s1 => bif ownA d then .ok (.loc s1.s.length) ⟨s1.r, s1.s ++ [d]⟩ else .bad := id rfl
@[simp] theorem k_eMeth (C nm : Str) (n : Nat) (f : Fn) (ds : List AV) (mo : M AV) (ma : M (List AV)) (r0 : List Sl) (s0 : List AV) : eMeth C nm n f ds mo ma (Ss.mk r0 s0) = (mo (Ss.mk r0 s0)).bind fun x s1 => bif clsOk s1.s C nm x then (ma s1).bind fun xs s2 => if 1 + (xs.length + ds.length) = n then back s2.r (f (x :: (xs ++ ds)) s2.s) else .bad else .bad := id rfl
@[simp] theorem k_eMake (C : Str) (n : Nat) (f : Fn) (ds : List AV) (ma : M (List AV)) (r0 : List Sl) (s0 : List AV) : eMake C n f ds ma (Ss.mk r0 s0) = (ma (Ss.mk r0 s0)).bind fun xs s1 => if 1 + (xs.length + ds.length) = n then mkBack s1.r s1.s.length (f (.loc s1.s.length :: (xs ++ ds)) (s1.s ++ [.ins C [] []])) else .bad := id rfl
@[simp] theorem k_eLn (m : M (List AV)) (r0 : List Sl) (s0 : List AV) : eLn m (Ss.mk r0 s0) = (m (Ss.mk r0 s0)).bind fun xs s1 => .ok (.nst xs) s1 := id rfl
@[simp] theorem k_xI (m : M AV) (r0 : List Sl) (s0 : List AV) : xI m (Ss.mk r0 s0) = (m (Ss.mk r0 s0)).bind fun d s1 => .ok (.im d) s1 := id rfl
@[simp] theorem k_xO (m : M AV) (r0 : List Sl) (s0 : List AV) : xO m (Ss.mk r0 s0) = (m (Ss.mk r0 s0)).bind fun d s1 => .ok (.ow d) s1 := id rfl
@[simp] theorem k_sPar (i j : Nat) (ma mb : M Sl) (r0 : List Sl) (s0 : List AV) : sPar i j ma mb (Ss.mk r0 s0) = (ma (Ss.mk r0 s0)).bind fun x s1 => bif isNo x then .bad else (mb s1).bind fun y s2 => bif isNo y then .bad else if i < s2.r.length ∧ j < s2.r.length then .ok .nx ⟨setSl (setSl s2.r j y) i x, s2.s⟩ else .bad := id rfl
@[simp] theorem k_sPar3 (i j l : Nat) (ma mb mc : M Sl) (r0 : List Sl) (s0 : List AV) : sPar3 i j l ma mb mc (Ss.mk r0 s0) = (ma (Ss.mk r0 s0)).bind fun x s1 => bif isNo x then .bad else (mb s1).bind fun y s2 => bif isNo y then .bad else (mc s2).bind fun z s3 => bif isNo z then .bad else if i < s3.r.length ∧ j < s3.r.length ∧ l < s3.r.length then .ok .nx ⟨setSl (setSl (setSl s3.r l z) j y) i x, s3.s⟩ else .bad := id rfl
@[simp] theorem k_sAsgG (t : Tg) (m : M AV) (r0 : List Sl) (s0 : List AV) : sAsgG t m (Ss.mk r0 s0) = (m (Ss.mk r0 s0)).bind fun d s1 => match t d s1 with
  | some s2 => .ok .nx s2
  | none => .bad := id rfl
@[simp] theorem k_eDnew  (r0 : List Sl) (s0 : List AV) : eDnew (Ss.mk r0 s0) = .ok (.dct true [] []) (Ss.mk r0 s0) := id rfl
@[simp] theorem k_pGet (a b c : Ss → Option AV) (r0 : List Sl) (s0 : List AV) : pGet a b c (Ss.mk r0 s0) = (a (Ss.mk r0 s0)).bind fun x => (b (Ss.mk r0 s0)).bind fun k => (c (Ss.mk r0 s0)).bind fun d => getD' s0 x k d := id rfl
@[simp] theorem k_eIsC (C : Str) (Ds : List Str) (m : M AV) (r0 : List Sl) (s0 : List AV) : eIsC C Ds m (Ss.mk r0 s0) = (m (Ss.mk r0 s0)).bind fun x s1 => bif okT x then .ok (.bl false) s1 else match clsA s1.s x with
  | some D => if D = C then .ok (.bl true) s1 else if D ∈ Ds then .ok (.bl false) s1 else .bad
  | none => .bad := id rfl
@[simp] theorem k_eFrz (m : M AV) (r0 : List Sl) (s0 : List AV) : eFrz m (Ss.mk r0 s0) = (m (Ss.mk r0 s0)).bind fun d s1 => ofO (frz d) s1 := id rfl
@[simp] theorem k_pAlt (a b : Ss → Option AV) (r0 : List Sl) (s0 : List AV) : pAlt a b (Ss.mk r0 s0) = match a (Ss.mk r0 s0) with
  | some d => some d
  | none => b (Ss.mk r0 s0) := id rfl
@[simp] theorem k_sTry (U : List Str) (mb : M Fl) (hs : List (List Str × M Fl)) (r0 : List Sl) (s0 : List AV) : sTry U mb hs (Ss.mk r0 s0) = match mb (Ss.mk r0 s0) with
  | .err c s1 => if c ∈ U then (match pickH c hs with
    | some h => capX (h s1)
    | none => .err c s1) else .bad
  | r => r := id rfl
@[simp] theorem k_eLend (fo : Option (Str × Str)) (mo mk : Ss → Option AV) (r0 : List Sl) (s0 : List AV) : eLend fo mo mk (Ss.mk r0 s0) = match (mo (Ss.mk r0 s0)).bind locOf with
  | some l => (match mk (Ss.mk r0 s0) with
    | some (.int k) => (match getPl s0 l fo with
      | some (.nst rows) => (match ixN rows.length k with
        | some j => (match rows[j]? with
          | some d => bif ownA d then .ok (.loc s0.length) ⟨r0, setPl s0 l fo (.nst (rows.set j (.loc s0.length))) ++ [d]⟩ else .bad
          | none => .bad)
        | none => .bad)
      | _ => .bad)
    | _ => .bad)
  | none => .bad := id rfl
@[simp] theorem k_sUnl (fo : Option (Str × Str)) (io ik ir : Nat) (mb : M Fl) (r0 : List Sl) (s0 : List AV) : sUnl fo io ik ir mb (Ss.mk r0 s0) = match mb (Ss.mk r0 s0) with
  | .ok f s => .ok f (unlS fo io ik ir s)
  | .err c s => .err c (unlS fo io ik ir s)
  | .bad => .bad := id rfl
@[simp] theorem k_eSetd (i : Nat) (mk mv : M AV) (r0 : List Sl) (s0 : List AV) : eSetd i mk mv (Ss.mk r0 s0) = match ownD (getSl r0 i) with
  | none => .bad
  | some _ => (mk (Ss.mk r0 s0)).bind fun y s1 => (mv s1).bind fun d s2 => match ownD (getSl s2.r i), keyA y with
    | some (ks, xs), some k => if ks.length < 16777216 then (match getK ks xs k with
      | some x => .ok x s2
      | none => .ok d (putD i (ks ++ [k]) (xs ++ [d]) s2)) else .bad
    | _, _ => .bad := id rfl
@[simp] theorem k_eBM (f : List AV → List AV → Option AV) (mo me : M AV) (r0 : List Sl) (s0 : List AV) : eBM f mo me (Ss.mk r0 s0) = (mo (Ss.mk r0 s0)).bind fun x s1 => bif isL x then (me s1).bind fun y s2 => ofO (f s2.s [x, y]) s2 else .bad := id rfl
@[simp] theorem k_sPut2 (i j : Nat) (ki kj : Ss → Option AV) (ma mb : M AV) (r0 : List Sl) (s0 : List AV) : sPut2 i j ki kj ma mb (Ss.mk r0 s0) = (ma (Ss.mk r0 s0)).bind fun x s1 => (mb s1).bind fun y s2 => match gIx i ki x s2 with
  | some s3 => (match gIx j kj y s3 with
    | some s4 => .ok .nx s4
    | none => .bad)
  | none => .bad := id rfl
@[simp] theorem k_eIsX (i : Nat) (b : Bool) (r0 : List Sl) (s0 : List AV) : eIsX i b (Ss.mk r0 s0) = match getSl r0 i with
  | .im (.loc 0) => .ok (.bl b) (Ss.mk r0 s0)
  | _ => .bad := id rfl
@[simp] theorem k_sTryAs (U cs : List Str) (n : Nat) (keep : List Bool) (mb : M Fl) (mh : Str → M Fl) (r0 : List Sl) (s0 : List AV) : sTryAs U cs n keep mb mh (Ss.mk r0 s0) = match mb (Ss.mk r0 s0) with
  | .err c s1 => if c ∈ U then (if c ∈ cs then (match mh c ⟨hxS keep n s1.r, [.ded]⟩ with
    | .ok (.rt d) _ => bif plainA d then .ok (.rt d) s1 else .bad
    | _ => .bad) else .err c s1) else .bad
  | r => r := id rfl
@[simp] theorem k_eThk (g : Thk) (r0 : List Sl) (s0 : List AV) : eThk g (Ss.mk r0 s0) = back r0 (g s0) := id rfl
@[simp] theorem k_eSaid (mf : Thk → Fn) (me : M AV) (r0 : List Sl) (s0 : List AV) : eSaid mf me (Ss.mk r0 s0) = back r0 (mf (runL me r0) [.ded] s0) := id rfl
@[simp] theorem k_eCallK (np n m : Nat) (f : Fn) (ss : List Src) (ds : List AV) (ma mk : M (List AV)) (r0 : List Sl) (s0 : List AV) : eCallK np n m f ss ds ma mk (Ss.mk r0 s0) = (ma (Ss.mk r0 s0)).bind fun xs s1 => (mk s1).bind fun zs s2 => if xs.length = n ∧ zs.length = m ∧ (srcs xs zs ds ss).length = np then back s2.r (f (srcs xs zs ds ss) s2.s) else .bad := id rfl
@[simp] theorem k_eMethK (C nm : Str) (np n m : Nat) (f : Fn) (ss : List Src) (ds : List AV) (mo : M AV) (ma mk : M (List AV)) (r0 : List Sl) (s0 : List AV) : eMethK C nm np n m f ss ds mo ma mk (Ss.mk r0 s0) = (mo (Ss.mk r0 s0)).bind fun x s1 => bif clsOk s1.s C nm x then (ma s1).bind fun xs s2 => (mk s2).bind fun zs s3 => if xs.length = n ∧ zs.length = m ∧ (srcs (x :: xs) zs ds ss).length = np then back s3.r (f (srcs (x :: xs) zs ds ss) s3.s) else .bad else .bad := id rfl
@[simp] theorem k_eMakeK (C : Str) (np n m : Nat) (f : Fn) (ss : List Src) (ds : List AV) (ma mk : M (List AV)) (r0 : List Sl) (s0 : List AV) : eMakeK C np n m f ss ds ma mk (Ss.mk r0 s0) = (ma (Ss.mk r0 s0)).bind fun xs s1 => (mk s1).bind fun zs s2 => if xs.length = n ∧ zs.length = m ∧ (srcs (.loc s2.s.length :: xs) zs ds ss).length = np then mkBack s2.r s2.s.length (f (srcs (.loc s2.s.length :: xs) zs ds ss) (s2.s ++ [.ins C [] []])) else .bad := id rfl
@[simp] theorem k_eSc (mi : M (List AV)) (t : Tg) (tt : M Bool) (te : M AV) (vs : List Nat) (r0 : List Sl) (s0 : List AV) : eSc mi t tt te vs (Ss.mk r0 s0) = (mi (Ss.mk r0 s0)).bind fun ds s1 => (compS t tt te vs ds [] (s1.wipe vs)).bind fun ks s2 => .ok (.set ks) s2 := id rfl
@[simp] theorem k_eLenS (m : M AV) (r0 : List Sl) (s0 : List AV) : eLenS m (Ss.mk r0 s0) = (m (Ss.mk r0 s0)).bind fun d s1 => match d with
  | .set ks => if ks.length < 1000 then .ok (.int ks.length) s1 else .bad
  | _ => .bad := id rfl
@[simp] theorem k_eCpN (C f : Str) (mo : Ss → Option AV) (r0 : List Sl) (s0 : List AV) : eCpN C f mo (Ss.mk r0 s0) = match pFld C f mo (Ss.mk r0 s0) with
  | some (.nst xs) => bif xs.all rowOk && decide (xs.length < 16777216) then .ok (.nst xs) (Ss.mk r0 s0) else .bad
  | _ => .bad := id rfl
@[simp] theorem k_sAt2 (C f g : Str) (mo mq : Ss → Option AV) (ma mb : M AV) (r0 : List Sl) (s0 : List AV) : sAt2 C f g mo mq ma mb (Ss.mk r0 s0) = (ma (Ss.mk r0 s0)).bind fun x s1 => (mb s1).bind fun y s2 => match (mo s2).bind fun z => putFld C f z x s2 with
  | some s3 => (match (mq s3).bind fun z => putFld C g z y s3 with
    | some s4 => .ok .nx s4
    | none => .bad)
  | none => .bad := id rfl
@[simp] theorem k_sAt3 (C f g k : Str) (mo mq mr : Ss → Option AV) (ma mb mc : M AV) (r0 : List Sl) (s0 : List AV) : sAt3 C f g k mo mq mr ma mb mc (Ss.mk r0 s0) = (ma (Ss.mk r0 s0)).bind fun x s1 => (mb s1).bind fun y s2 => (mc s2).bind fun w s3 => match (mo s3).bind fun z => putFld C f z x s3 with
  | some s4 => (match (mq s4).bind fun z => putFld C g z y s4 with
    | some s5 => (match (mr s5).bind fun z => putFld C k z w s5 with
      | some s6 => .ok .nx s6
      | none => .bad)
    | none => .bad)
  | none => .bad := id rfl
@[simp] theorem k_eIxD (mo me : M AV) (r0 : List Sl) (s0 : List AV) : eIxD mo me (Ss.mk r0 s0) = (mo (Ss.mk r0 s0)).bind fun x s1 => match x with
  | .tud xs => (me s1).bind fun y s2 => if okA (.tup xs) && okA y then ofO (((dats xs).findIdx? fun w => PyData.eqv w (dat y)).map fun j => AV.int (j : Nat)) s2 else .bad
  | _ => .bad := id rfl
@[simp] theorem k_eOrS (a b : M AV) (r0 : List Sl) (s0 : List AV) : eOrS a b (Ss.mk r0 s0) = (a (Ss.mk r0 s0)).bind fun x s1 => (ofO (strB x) s1).bind fun c s2 => bif c then .ok x s2 else b s2 := id rfl
end Fk
/-! ## what a run is wanted to give -/
namespace Fk
open PySem PySem.Spec PyProof.Rows L2
/-- a structure, so that nothing unfolds it: else the elaborator runs the whole run -/
structure WpR {α β : Type} (x : Res α β) (Q : α → β → Prop) (E : Str → β → Prop) : Prop where
  out : match x with
    | .ok a s => Q a s
    | .err c s => E c s
    | .bad => False
abbrev noE {β : Type} : Str → β → Prop := fun _ _ => False
section
variable {α β γ : Type}
@[simp] theorem WpR_ok (a : α) (s : β) (Q : α → β → Prop) (E : Str → β → Prop) : WpR (.ok a s) Q E = Q a s := propext ⟨fun h => h.out, fun h => ⟨h⟩⟩
@[simp] theorem WpR_err (c : Str) (s : β) (Q : α → β → Prop) (E : Str → β → Prop) : WpR (.err c s : Res α β) Q E = E c s := propext ⟨fun h => h.out, fun h => ⟨h⟩⟩
@[simp] theorem WpR_bad (Q : α → β → Prop) (E : Str → β → Prop) : WpR (.bad : Res α β) Q E = False := propext ⟨fun h => h.out, fun h => h.elim⟩
@[simp] theorem bind_assoc {δ : Type} (x : Res α γ) (k : α → γ → Res β γ) (j : β → γ → Res δ γ) : (x.bind k).bind j = x.bind fun a s => (k a s).bind j := by cases x <;> rfl
theorem wpB {x : Res α γ} {k : α → γ → Res β γ} {Q : β → γ → Prop} {E : Str → γ → Prop} (h : WpR x (fun a s => WpR (k a s) Q E) E) : WpR (x.bind k) Q E := by
  cases x with
  | ok a s => exact h.out
  | err c s => exact ⟨h.out⟩
  | bad => exact h.out.elim
theorem wp_mono {x : Res α β} {Q Q' : α → β → Prop} {E E' : Str → β → Prop} (h : WpR x Q E) (hq : ∀ a s, Q a s → Q' a s) (he : ∀ c s, E c s → E' c s) : WpR x Q' E' := by
  cases x with
  | ok a s => exact ⟨hq a s h.out⟩
  | err c s => exact ⟨he c s h.out⟩
  | bad => exact h.out.elim
theorem wp_of {x : Res α β} {a : α} {s : β} {Q : α → β → Prop} {E : Str → β → Prop} (h : x = .ok a s) (q : Q a s) : WpR x Q E := by rw [h]; exact ⟨q⟩
theorem wp_ex {x : Res α β} {Q : α → β → Prop} (h : WpR x Q noE) : ∃ a s, x = .ok a s ∧ Q a s := by
  cases x with
  | ok a s => exact ⟨a, s, rfl, h.out⟩
  | err c s => exact h.out.elim
  | bad => exact h.out.elim
end
/-! rows of small words, by what is handed in -/
@[simp] theorem imm_non : imm .non = true := rfl
@[simp] theorem imm_bl (b : Bool) : imm (.bl b) = true := rfl
@[simp] theorem imm_int (i : Int) : imm (.int i) = true := rfl
@[simp] theorem imm_str (x : Str) : imm (.str x) = true := rfl
@[simp] theorem imm_tup (xs : List AV) : imm (.tup xs) = true := rfl
@[simp] theorem imm_lst (o : Bool) (xs : List AV) : imm (.lst o xs) = !o := rfl
@[simp] theorem imm_dct (o : Bool) (ks : List Key) (xs : List AV) : imm (.dct o ks xs) = !o := rfl
@[simp] theorem imm_loc (l : Nat) : imm (.loc l) = true := rfl
@[simp] theorem imm_scr (xs : List AV) : imm (.scr xs) = true := rfl
@[simp] theorem itm_lst (o : Bool) (xs : List AV) : itemsOf (.lst o xs) = some xs := rfl
@[simp] theorem itm_tup (xs : List AV) : itemsOf (.tup xs) = some xs := rfl
@[simp] theorem itm_scr (xs : List AV) : itemsOf (.scr xs) = some xs := rfl
@[simp] theorem isNo_im (d : AV) : isNo (.im d) = false := rfl
@[simp] theorem isNo_ow (d : AV) : isNo (.ow d) = false := rfl
@[simp] theorem frz_lst (o : Bool) (xs : List AV) : Fk.frz (.lst o xs) = some (.lst false xs) := rfl
@[simp] theorem frz_dct (o : Bool) (ks : List Key) (xs : List AV) : Fk.frz (.dct o ks xs) = some (.dct false ks xs) := rfl
@[simp] theorem loc_loc (l : Nat) : locOf (.loc l) = some l := rfl
@[simp] theorem wipe_nil (r : List Sl) : wipeSl r [] = r := rfl
@[simp] theorem wipe_cons (r : List Sl) (v : Nat) (vs : List Nat) : wipeSl r (v :: vs) = setSl (wipeSl r vs) v .no := rfl
@[simp] theorem ss_wipe (r : List Sl) (s : List AV) (vs : List Nat) : (Ss.mk r s).wipe vs = ⟨wipeSl r vs, s⟩ := rfl
/-- a call within a run -/
theorem wpC {r : List Sl} {x : Res AV (List AV)} {β : Type} {k : AV → Ss → Res β Ss} {Q : β → Ss → Prop} {E : Str → Ss → Prop} (h : WpR x (fun a S => WpR (k a ⟨r, S⟩) Q E) (fun c S => E c ⟨r, S⟩)) : WpR ((back r x).bind k) Q E := by
  cases x with
  | ok a s => exact h.out
  | err c s => exact ⟨h.out⟩
  | bad => exact h.out.elim
theorem wpC' {r : List Sl} {x : Res AV (List AV)} {Q : AV → Ss → Prop} {E : Str → Ss → Prop} (h : WpR x (fun a S => Q a ⟨r, S⟩) (fun c S => E c ⟨r, S⟩)) : WpR (back r x) Q E := by
  cases x with
  | ok a s => exact ⟨h.out⟩
  | err c s => exact ⟨h.out⟩
  | bad => exact h.out.elim
@[simp] theorem mkBack_ok (r : List Sl) (l : Nat) (S : List AV) : mkBack r l (.ok .non S) = .ok (.loc l) ⟨r, S⟩ := rfl
@[simp] theorem mkBack_err (r : List Sl) (l : Nat) (c : Str) (S : List AV) : mkBack r l (.err c S) = .err c ⟨r, S⟩ := rfl
/-- the end of a def -/
def retR : Res Fl Ss → Res AV (List AV)
  | .ok (.rt d) st => .ok d st.s
  | .ok .nx st => .ok .non st.s
  | .err c st => .err c st.s
  | _ => .bad
@[simp] theorem retR_rt (d : AV) (st : Ss) : retR (.ok (.rt d) st) = .ok d st.s := rfl
@[simp] theorem retR_nx (st : Ss) : retR (.ok .nx st) = .ok .non st.s := rfl
@[simp] theorem retR_err (c : Str) (st : Ss) : retR (.err c st) = .err c st.s := rfl
theorem fnM_ret (n : Nat) (body : M Fl) (xs S : List AV) : fnM n body xs S = retR (body ⟨xs.map Sl.im ++ List.replicate n .no, S⟩) := rfl
theorem wpF {n : Nat} {body : M Fl} {xs S : List AV} {Q : AV → List AV → Prop} {E : Str → List AV → Prop} (h : WpR (body ⟨xs.map Sl.im ++ List.replicate n .no, S⟩) (fun f st => match f with
    | .rt d => Q d st.s
    | .nx => Q .non st.s
    | _ => False) (fun c st => E c st.s)) : WpR (fnM n body xs S) Q E := by
  rw [fnM_ret]
  cases e : body ⟨xs.map Sl.im ++ List.replicate n .no, S⟩ with
  | ok f st =>
    rw [e] at h
    cases f with
    | rt d => exact ⟨h.out⟩
    | nx => exact ⟨h.out⟩
    | bk => exact h.out.elim
    | ct => exact h.out.elim
  | err c st => rw [e] at h; exact ⟨h.out⟩
  | bad => rw [e] at h; exact h.out.elim
/-- what comes behind a statement -/
def afS (b : M Fl) (Q : Fl → Ss → Prop) (E : Str → Ss → Prop) : Fl → Ss → Prop
  | .nx, s => WpR (b s) Q E
  | .rt d, s => Q (.rt d) s
  | .bk, s => Q .bk s
  | .ct, s => Q .ct s
@[simp] theorem afS_nx (b : M Fl) (Q : Fl → Ss → Prop) (E : Str → Ss → Prop) (s : Ss) : afS b Q E .nx s = WpR (b s) Q E := rfl
@[simp] theorem afS_rt (b : M Fl) (Q : Fl → Ss → Prop) (E : Str → Ss → Prop) (d : AV) (s : Ss) : afS b Q E (.rt d) s = Q (.rt d) s := rfl
@[simp] theorem afS_bk (b : M Fl) (Q : Fl → Ss → Prop) (E : Str → Ss → Prop) (s : Ss) : afS b Q E .bk s = Q .bk s := rfl
@[simp] theorem afS_ct (b : M Fl) (Q : Fl → Ss → Prop) (E : Str → Ss → Prop) (s : Ss) : afS b Q E .ct s = Q .ct s := rfl
theorem wpS {a b : M Fl} {st : Ss} {Q : Fl → Ss → Prop} {E : Str → Ss → Prop} (h : WpR (a st) (afS b Q E) E) : WpR (sSeq a b st) Q E := by
  show WpR ((a st).bind _) Q E
  refine wpB (wp_mono h (fun f s q => ?_) fun _ _ q => q)
  cases f with
  | nx => exact q
  | rt d => exact ⟨q⟩
  | bk => exact ⟨q⟩
  | ct => exact ⟨q⟩
/-- one of two ways -/
def altR {α β : Type} (x y : Res α β) : Res α β := match x with
  | .bad => y
  | r => r
@[simp] theorem altR_ok {α β : Type} (a : α) (s : β) (y : Res α β) : altR (.ok a s) y = .ok a s := rfl
@[simp] theorem altR_err {α β : Type} (c : Str) (s : β) (y : Res α β) : altR (.err c s) y = .err c s := rfl
@[simp] theorem altR_bad {α β : Type} (y : Res α β) : altR .bad y = y := rfl
/-- a comprehension whose items turn nothing -/
theorem wpL {t : Tg} {tt : M Bool} {te : M AV} {vs : List Nat} {st : Ss} {Q : List AV → Ss → Prop} {E : Str → Ss → Prop} {ds : List AV} (p : AV → Bool) (g : AV → AV)
    (h : ∀ d ∈ ds, ∃ s0, t d st = some s0 ∧ WpR (tt s0) (fun b s1 => b = p d ∧ (b = false → s1.wipe vs = st) ∧ (b = true → WpR (te s1) (fun x s2 => x = g d ∧ s2.wipe vs = st) noE)) noE)
    (hl : ds.length ≤ 16777216) (hQ : Q ((ds.filter p).map g) st) : WpR (compM t tt te vs ds [] st) Q E := by
  have key : ∀ (ds acc : List AV), (∀ d ∈ ds, ∃ s0, t d st = some s0 ∧ WpR (tt s0) (fun b s1 => b = p d ∧ (b = false → s1.wipe vs = st) ∧ (b = true → WpR (te s1) (fun x s2 => x = g d ∧ s2.wipe vs = st) noE)) noE) →
      acc.length + ds.length ≤ 16777216 → compM t tt te vs ds acc st = .ok (acc ++ (ds.filter p).map g) st := by
    intro ds
    induction ds with
    | nil => intro acc _ _; simp [compM]
    | cons d ds ih =>
      intro acc h hl
      have hl2 : acc.length + (ds.length + 1) ≤ 16777216 := hl
      obtain ⟨s0, e1, w⟩ := h d (by simp)
      obtain ⟨b, s1, e2, rfl, h3, h4⟩ := wp_ex w
      unfold compM
      rw [e1]
      simp only [e2]
      cases c : p d with
      | false =>
        simp only
        rw [h3 c, ih acc (fun d hd => h d (by simp [hd])) (by omega), List.filter_cons, c]
        rfl
      | true =>
        obtain ⟨x, s2, e5, rfl, e6⟩ := wp_ex (h4 c)
        simp only [e5]
        rw [if_pos (by omega), e6, ih (acc ++ [g d]) (fun d hd => h d (by simp [hd])) (by simp; omega), List.filter_cons, c]
        simp
  rw [key ds [] h (by simpa using hl)]
  exact ⟨hQ⟩
/-- .. by what stays -/
theorem wpLI {t : Tg} {tt : M Bool} {te : M AV} {vs : List Nat} {st : Ss} {Q : List AV → Ss → Prop} {E : Str → Ss → Prop} {ds : List AV} (I : Nat → List AV → Ss → Prop) (h0 : I 0 [] st)
    (hb : ∀ (j : Nat) d acc st, ds[j]? = some d → acc.length ≤ j → I j acc st → ∃ s0, t d st = some s0 ∧ WpR (tt s0) (fun b s1 => (b = false → I (j + 1) acc (s1.wipe vs)) ∧ (b = true → WpR (te s1) (fun x s2 => I (j + 1) (acc ++ [x]) (s2.wipe vs)) noE)) noE)
    (hl : ds.length ≤ 16777216) (hQ : ∀ acc st, acc.length ≤ ds.length → I ds.length acc st → Q acc st) : WpR (compM t tt te vs ds [] st) Q E := by
  have key : ∀ (n : Nat) (acc : List AV) (st : Ss) (k : Nat), k + n = ds.length → acc.length ≤ k → I k acc st → WpR (compM t tt te vs (ds.drop k) acc st) Q E := by
    intro n
    induction n with
    | zero =>
      intro acc st k hk ha hI
      have e : k = ds.length := by omega
      subst e
      rw [List.drop_length]
      exact ⟨hQ _ _ ha hI⟩
    | succ n ih =>
      intro acc st k hk ha hI
      have hk2 : k < ds.length := by omega
      rw [List.drop_eq_getElem_cons hk2]
      obtain ⟨s0, e1, w⟩ := hb k _ acc st (List.getElem?_eq_getElem hk2) ha hI
      obtain ⟨b, s1, e2, h3, h4⟩ := wp_ex w
      unfold compM
      rw [e1]
      simp only [e2]
      cases b with
      | false => exact ih acc _ (k + 1) (by omega) (by omega) (h3 rfl)
      | true =>
        obtain ⟨x, s2, e5, h5⟩ := wp_ex (h4 rfl)
        simp only [e5]
        rw [if_pos (by omega)]
        exact ih (acc ++ [x]) _ (k + 1) (by omega) (by simp; omega) h5
  exact key ds.length [] st 0 (by omega) (by simp) h0
/-- a loop by what stays -/
theorem wpO {t : Tg} {body : M Fl} {st : Ss} {Q : Fl → Ss → Prop} {E : Str → Ss → Prop} {ds : List AV} (I : Nat → Ss → Prop) (h0 : I 0 st)
    (hb : ∀ (j : Nat) d st, ds[j]? = some d → I j st → ∃ s0, t d st = some s0 ∧ WpR (body s0) (fun f s => match f with
      | .nx => I (j + 1) s
      | .ct => I (j + 1) s
      | .bk => Q .nx s
      | .rt d => Q (.rt d) s) E)
    (hQ : ∀ st, I ds.length st → Q .nx st) : WpR (forM t body ds st) Q E := by
  have key : ∀ (n : Nat) (st : Ss) (k : Nat), k + n = ds.length → I k st → WpR (forM t body (ds.drop k) st) Q E := by
    intro n
    induction n with
    | zero =>
      intro st k hk hI
      have e : k = ds.length := by omega
      subst e
      rw [List.drop_length]
      exact ⟨hQ _ hI⟩
    | succ n ih =>
      intro st k hk hI
      have hk2 : k < ds.length := by omega
      rw [List.drop_eq_getElem_cons hk2]
      obtain ⟨s0, e1, w⟩ := hb k _ st (List.getElem?_eq_getElem hk2) hI
      unfold forM
      rw [e1]
      simp only
      cases e : body s0 with
      | bad => rw [e] at w; exact w.out.elim
      | err c s => rw [e] at w; exact ⟨w.out⟩
      | ok f s =>
        rw [e] at w
        cases f with
        | nx => exact ih s (k + 1) (by omega) w.out
        | ct => exact ih s (k + 1) (by omega) w.out
        | bk => exact ⟨w.out⟩
        | rt d => exact ⟨w.out⟩
  exact key ds.length st 0 (by omega) h0
end Fk
/-! ## values whose text is short -/
namespace Fk
open PySem PySem.Spec PyProof.Rows L2
structure Sh (k n : Nat) (x : AV) : Prop where
  pl : pl x = true
  sw : Sw k n (dat x)
structure Shs (k n : Nat) (xs : List AV) : Prop where
  pl : pls xs = true
  sw : SwAll k n (dats xs)
theorem sh_non {k : Nat} : Sh k 4 .non := ⟨by simp [Fk.pl], by simp only [dat]; exact sw_none⟩
theorem sh_bl {k : Nat} (b : Bool) : Sh k 5 (.bl b) := ⟨by simp [Fk.pl], by simp only [dat]; exact sw_bool b⟩
theorem sh_int {k : Nat} {i : Int} (h : i.natAbs < 2 ^ 128) : Sh k 129 (.int i) := ⟨by simp [Fk.pl], by simp only [dat]; exact sw_int h⟩
theorem sh_str {k : Nat} {x : Str} (ok : PyData.strOk x = true) : Sh k (10 * x.length + 2) (.str x) := ⟨by simp [Fk.pl], by simp only [dat]; exact sw_str ok⟩
theorem shs_nil {k : Nat} : Shs k 0 [] := ⟨by simp [pls], by simp only [dats]; exact swa_nil⟩
theorem shs_cons {k n m : Nat} {x : AV} {xs : List AV} (h : Sh k n x) (r : Shs k m xs) : Shs k (n + 2 + m) (x :: xs) := ⟨by simp [pls, h.pl, r.pl], by simp only [dats]; exact swa_cons h.sw r.sw⟩
theorem sh_tup {k n : Nat} {xs : List AV} (h : Shs k n xs) : Sh (k + 1) (n + 3) (.tup xs) := ⟨by simp [Fk.pl, h.pl], by simp only [dat]; exact sw_tup h.sw⟩
theorem sh_lst {k n : Nat} {o : Bool} {xs : List AV} (h : Shs k n xs) : Sh (k + 1) (n + 3) (.lst o xs) := ⟨by simp [Fk.pl, h.pl], by simp only [dat]; exact sw_lst h.sw⟩
theorem Sw.mono {k k' n n' : Nat} {d : PyData} (h : Sw k n d) (hk : k ≤ k') (hn : n ≤ n') : Sw k' n' d := ⟨h.lay, Nat.le_trans h.dep hk, h.shw, Nat.le_trans h.len hn⟩
theorem Sh.mono {k k' n n' : Nat} {x : AV} (h : Sh k n x) (hk : k ≤ k') (hn : n ≤ n') : Sh k' n' x := ⟨h.pl, h.sw.mono hk hn⟩
theorem shs_all {k n : Nat} : ∀ {xs : List AV}, (∀ x ∈ xs, Sh k n x) → Shs k ((n + 2) * xs.length) xs
  | [], _ => shs_nil
  | x :: xs, h => by
    have e := shs_cons (h x (by simp)) (shs_all (xs := xs) fun y hy => h y (by simp [hy]))
    have : n + 2 + (n + 2) * xs.length = (n + 2) * (x :: xs).length := by
      rw [List.length_cons, Nat.mul_succ, Nat.add_comm]
    rw [← this]
    exact e
theorem fRepr_ok {k n : Nat} {x : AV} {S : List AV} (h : Sh k n x) (hk : k ≤ 60) (hn : n ≤ 16000000) : fRepr S [x] = some (.str (dat x).shown) := by
  unfold fRepr
  have h1 : (dat x).depth ≤ 60 := Nat.le_trans h.sw.dep hk
  have h2 : (dat x).hasDict = false := PyData.hasDict_of_canLay _ h.sw.lay
  have h3 : (dat x).shown.length ≤ 16777216 := Nat.le_trans h.sw.len (Nat.le_trans hn (by decide))
  have h0 : isMt x = false := by
    have := h.pl
    cases x <;> first | rfl | (simp [Fk.pl] at this)
  simp [h0, h.pl, h.sw.shw, h1, h2, h3]
theorem Sh.okA {k n : Nat} {x : AV} (h : Sh k n x) (hk : k ≤ 60) : okA x = true := by
  unfold Fk.okA
  rw [h.pl, h.sw.shaped hk]
  rfl
end Fk
namespace Fk
/-- a map that goes with sums without carrying -/
def Lin (f : Nat → Nat) : Prop := ∀ a b, f (a ^^^ b) = f a ^^^ f b
theorem Lin.zero {f : Nat → Nat} (h : Lin f) : f 0 = 0 := by
  have := h 0 0
  rw [Nat.xor_self, Nat.xor_self] at this
  exact this
theorem Lin.id : Lin fun a => a := fun _ _ => rfl
theorem Lin.comp {f g : Nat → Nat} (hf : Lin f) (hg : Lin g) : Lin fun a => f (g a) := fun a b => by
  show f (g (a ^^^ b)) = _
  rw [hg, hf]
theorem Lin.and (m : Nat) {f : Nat → Nat} (hf : Lin f) : Lin fun a => f a &&& m := fun a b => by
  show f (a ^^^ b) &&& m = _
  rw [hf, Nat.and_xor_distrib_right]
theorem Lin.mod (k : Nat) {f : Nat → Nat} (hf : Lin f) : Lin fun a => f a % 2 ^ k := fun a b => by
  show f (a ^^^ b) % 2 ^ k = _
  rw [hf, Nat.xor_mod_two_pow]
/-- runs_of: (first, many) -/
def runsGo : Nat → Nat → Nat → List (Nat × Nat)
  | 0, _, _ => []
  | n + 1, left, check => if 0 < left then (check + 1, min (check - 1) left) :: runsGo n (left - min (check - 1) left) (2 * check) else []
def runs (w : Nat) : List (Nat × Nat) := runsGo 8 w 2
def putX : Nat → Nat → Nat → Nat
  | 0, _, _ => 0
  | n + 1, c, x => ((x >>> c) % 2 ^ 1) <<< (2 ^ c) ^^^ putX n (c + 1) x
section
variable {w n : Nat} (h1 : 1 ≤ w) (h2 : w ≤ 57) (hn : n < 2 ^ w)
include h1 h2 hn
end
/-- opened_by -/
inductive Op | good (n : Nat) | mended (n b : Nat) | spoilt
  deriving DecidableEq
section
variable {w n : Nat} (h1 : 1 ≤ w) (h2 : w ≤ 57) (hn : n < 2 ^ w)
include h1 h2 hn
end
end Fk
namespace Fk
section
variable {w n : Nat} (h1 : 1 ≤ w) (h2 : w ≤ 57) (hn : n < 2 ^ w)
include h1 h2 hn
end
end Fk
/-! ## a number read bit by bit; all words of small widths -/
namespace Fk
end Fk
/-! ## fields of pages, as numbers -/
namespace Fk
structure F5 where
  k : Nat
  p : Nat
  n : Nat
  g : Nat
  d : Nat
  deriving DecidableEq
def okF (f : F5) : Prop := f.k < 4 ∧ f.p ≤ 15 ∧ f.n ≤ 16383 ∧ f.g ≤ 16383 ∧ f.d ≤ 63 ∧ (f.k = 3 → f.p = 0 ∧ f.d = 0) ∧ (f.k ≠ 3 → (f.g = 0 ∨ f.k = 2) ∧ (f.d = 0 ∨ f.k ≠ 1))
instance (f : F5) : Decidable (okF f) := by unfold okF; exact inferInstance
end Fk
/-! ## plain facts of the evaluator's functions -/
namespace Fk
open PySem PySem.Spec PyProof.Rows L2
@[simp] theorem setSl0 (a b : Sl) (r : List Sl) : setSl (a :: r) 0 b = b :: r := rfl
@[simp] theorem setSlS (a b : Sl) (r : List Sl) (n : Nat) : setSl (a :: r) (n + 1) b = a :: setSl r n b := rfl
theorem ixN_nn {n : Nat} {k : Int} (h : 0 ≤ k) : ixN n k = if k < n then some k.toNat else none := by
  unfold ixN
  rw [if_pos h]
theorem atI_nn {α : Type} {xs : List α} {k : Int} (h : 0 ≤ k) : atI xs k = xs[k.toNat]? := by
  unfold atI
  rw [ixN_nn h]
  by_cases c : k < xs.length
  · rw [if_pos c]; rfl
  · rw [if_neg c, List.getElem?_eq_none (by omega)]; rfl
theorem atI_nat {α : Type} {xs : List α} {k : Nat} : atI xs (k : Int) = xs[k]? := by rw [atI_nn (by omega)]; simp
theorem setS_self (S : List AV) (l : Nat) (d : AV) : (S.set l d)[l]? = (S[l]?).map fun _ => d := by
  by_cases h : l < S.length
  · rw [List.getElem?_set_self h, List.getElem?_eq_getElem h]; rfl
  · rw [List.getElem?_eq_none (by rw [List.length_set]; omega), List.getElem?_eq_none (by omega)]; rfl
def iA (n : Nat) : AV := .int n
def nA : AV → Nat
  | .int n => n.toNat
  | _ => 0
@[simp] theorem nA_iA (n : Nat) : nA (iA n) = n := by simp [nA, iA]
theorem rng_nat {n : Nat} (h : n ≤ 1000) : rng1 [.int n] = some ((List.range n).map iA) := by
  have h1 : (-(2 ^ 62) ≤ (n : Int) ∧ (n : Int) < 2 ^ 62) := by omega
  have h2 : rng1 [.int n] = if -(2 ^ 62) ≤ (n : Int) ∧ (n : Int) < 2 ^ 62 then some (rngL 0 n) else none := rfl
  rw [h2, if_pos h1]
  unfold rngL
  simp [iA]
theorem filter_tt (xs : List AV) : xs.filter (fun _ => true) = xs := by simp
theorem asIs_ints : ∀ ws : List Int, asIs (ws.map AV.int) = some ws
  | [] => rfl
  | w :: ws => by simp [asIs, asIs_ints ws]
theorem f_min2 (S : List AV) (i j : Int) : fMin2 S [.int i, .int j] = some (.int (min i j)) := by
  have h : fMin2 S [.int i, .int j] = some (.int (if j < i then j else i)) := rfl
  rw [h]
  congr 2
  split <;> omega
theorem f_max2 (S : List AV) (i j : Int) : fMax2 S [.int i, .int j] = some (.int (max i j)) := by
  have h : fMax2 S [.int i, .int j] = some (.int (if j > i then j else i)) := rfl
  rw [h]
  congr 2
  split <;> omega
theorem asBs_bls : ∀ bs : List Bool, asBs (bs.map AV.bl) = some bs
  | [] => rfl
  | b :: bs => by simp [asBs, asBs_bls bs]
theorem f_all (S : List AV) (o : Bool) (bs : List Bool) : fAll S [.lst o (bs.map AV.bl)] = some (.bl (bs.all id)) := by
  unfold fAll lsOf
  simp only [Option.bind_some, asBs_bls, Option.map_some]
theorem zipL_ints : ∀ (xs ys : List Int), zipL (xs.map AV.int) (ys.map AV.int) = (xs.zip ys).map fun p => AV.tup [.int p.1, .int p.2]
  | [], _ => by simp [zipL]
  | _ :: _, [] => by simp [zipL]
  | x :: xs, y :: ys => by simp [zipL, zipL_ints xs ys]
theorem keysI_map : ∀ ks : List Int, keysI (ks.map Sum.inl) = some ks
  | [] => rfl
  | k :: ks => by simp [keysI, keysI_map ks]
theorem a_sub {a b : Nat} (h : b ≤ a) : oSub (.int a) (.int b) = some (.int ((a - b : Nat) : Int)) := by
  have h2 : oSub (.int a) (.int b) = some (.int ((a : Int) - b)) := rfl
  rw [h2]
  congr 2
  omega
end Fk
namespace Fk
open PySem PySem.Spec PyProof.Rows L2
end Fk
/-! ## seals -/
namespace Fk
open PySem PySem.Spec PyProof.Rows L2
section
variable {S : List AV}
theorem x_is_within {a lo hi : Int} : m_is_within [.int a, .int lo, .int hi] S = .ok (.bl (decide (lo ≤ a) && decide (a ≤ hi))) S := by
  by_cases h : lo ≤ a <;> simp [h, m_is_within, m_is_whole, fnM, okT, isT, asB, oLe, oNot]
end
end Fk
/-! ## pages -/
namespace Fk
open PySem PySem.Spec PyProof.Rows L2
section
variable {S : List AV}
theorem i_str {x : Str} : isT "str" (.str x) = true := by rfl
end
end Fk
/-! ## numbers of fields, words -/
namespace Fk
open PySem PySem.Spec PyProof.Rows L2
section
variable {S : List AV}
end
end Fk
namespace Fk
open PySem PySem.Spec PyProof.Rows L2
section
variable {S : List AV}
end
end Fk
/-! ## flash -/
namespace Fk
open PySem PySem.Spec PyProof.Rows L2
/-- what a page holds -/
inductive Cl where
  | bk | tn | wd (n : Nat)
  deriving DecidableEq
def Cl.av : Cl → AV
  | .bk => .non
  | .tn => .str "torn"
  | .wd n => .int n
inductive Flt where
  | fine | cut | bad | bit (i : Nat)
  deriving DecidableEq
def Flt.av : Flt → AV
  | .fine => .tup [.str "fine"]
  | .cut => .tup [.str "cut"]
  | .bad => .tup [.str "bad"]
  | .bit i => .tup [.str "bit", .int i]
structure Fsh where
  cells : List (List Cl)
  worn : List Nat
  failed : List Bool
  faults : List (Nat × Flt)
  count : Nat
  power : Bool
def fshK : List Str := ["cells", "worn", "failed", "faults", "count", "power"]
def rowA (r : List Cl) : AV := .lst true (r.map Cl.av)
def Fsh.fd (F : Fsh) : AV := .dct false (F.faults.map fun p => .inl (p.1 : Int)) (F.faults.map fun p => p.2.av)
def Fsh.av (F : Fsh) : AV := .ins "Flash" fshK [.nst (F.cells.map rowA), .lst true (F.worn.map iA), .lst true (F.failed.map AV.bl), F.fd, .int F.count, .bl F.power]
/-- the fault of a step -/
def Fsh.ft (F : Fsh) : Flt := ((F.faults.find? fun p => decide (p.1 = F.count)).map (·.2)).getD .fine
theorem imm_ft (f : Flt) : imm f.av = true := by cases f <;> rfl
section
variable {S : List AV} {l : Nat} {F : Fsh}
variable {C : AV}
end
end Fk
/-! ## flash: write -/
namespace Fk
open PySem PySem.Spec PyProof.Rows L2
section
variable {S : List AV} {l : Nat} {F : Fsh}
/-- what is turned: the object at l alone, and what is new -/
structure Up (S : List AV) (l : Nat) (x : AV) (S' : List AV) : Prop where
  at_ : S'[l]? = some x
  len : S.length ≤ S'.length
  keep : ∀ i, i ≠ l → i < S.length → S'[i]? = S[i]?
theorem Up.set {x : AV} (h : l < S.length) : Up S l x (S.set l x) := ⟨by simp [h], by simp, fun i hi _ => by rw [List.getElem?_set_ne (fun z => hi z.symm)]⟩
theorem Up.app {x : AV} {S' T : List AV} (u : Up S l x S') (hl : l < S.length) : Up S l x (S' ++ T) :=
  ⟨by rw [List.getElem?_append_left (Nat.lt_of_lt_of_le hl u.len)]; exact u.at_, by simp; have := u.len; omega, fun i hi h => by rw [List.getElem?_append_left (Nat.lt_of_lt_of_le h u.len)]; exact u.keep i hi h⟩
theorem Up.tr {x y : AV} {S1 S2 : List AV} (u : Up S l x S1) (v : Up S1 l y S2) : Up S l y S2 :=
  ⟨v.at_, Nat.le_trans u.len v.len, fun i hi h => by rw [v.keep i hi (Nat.lt_of_lt_of_le h u.len), u.keep i hi h]⟩
theorem Up.refl {x : AV} (h : S[l]? = some x) : Up S l x S := ⟨h, Nat.le_refl _, fun _ _ _ => rfl⟩
theorem Up.oth {x y : AV} {S' : List AV} {i : Nat} (u : Up S l x S') (h : S[i]? = some y) (hi : i ≠ l) : S'[i]? = some y := by
  rw [u.keep i hi (List.getElem?_eq_some_iff.mp h).1, h]
theorem lt_at {x : AV} (h : S[l]? = some x) : l < S.length := (List.getElem?_eq_some_iff.mp h).1
section
variable {x y z : AV} (hl : l < S.length)
include hl
end
end
end Fk
/-! ## flash: wipe at once; weathers; making -/
namespace Fk
open PySem PySem.Spec PyProof.Rows L2
theorem wp_eq {α β : Type} {x : Res α β} {v : α} {s : β} (h : WpR x (fun a t => a = v ∧ t = s) noE) : x = .ok v s := by
  obtain ⟨a, t, e, rfl, rfl⟩ := wp_ex h
  exact e
section
variable {S : List AV} {l : Nat} {F : Fsh}
def Fsh.wi (F : Fsh) (b : Nat) : Res Bool Fsh := match F.cells[b]?, F.failed[b]?, F.worn[b]? with
  | some r, some fb, some n => if F.power = false then .err "Off" F else if fb then .err "Bad" F else match F.ft with
    | .cut => .err "Off" { F with count := F.count + 1, cells := F.cells.set b (List.replicate r.length .tn), power := false }
    | .bad => .ok false { F with count := F.count + 1, failed := F.failed.set b true }
    | _ => .ok true { F with count := F.count + 1, cells := F.cells.set b (List.replicate r.length .bk), worn := F.worn.set b (n + 1) }
  | _, _, _ => .bad
/-! ### weathers -/
def okFt : Flt → Prop
  | .fine => False
  | .bit i => i ≤ 46
  | _ => True
def wAs (ws : List (Nat × Flt)) : List AV := ws.map fun p => .tup [.int p.1, p.2.av]
structure okW (ws : List (Nat × Flt)) : Prop where
  len : ws.length ≤ 40
  each : ∀ p ∈ ws, p.1 ≤ 9999 ∧ okFt p.2
  rise : (ws.map (·.1)).Pairwise (· < ·)
theorem sl_one (o : Bool) (xs : List AV) : slA (.lst o xs) (some 1) none = some (.lst false (xs.drop 1)) := by
  show some (AV.lst false (cutA _ _ _)) = _
  have e1 : HT.sIx xs.length 0 (some 1) = min 1 xs.length := HT.sIx_nat _ _ 1
  unfold cutA
  rw [e1, HT.sIx_none]
  congr 2
  cases xs with
  | nil => rfl
  | cons n ns =>
    simp
end
end Fk
/-! ## flash: making -/
namespace Fk
open PySem PySem.Spec PyProof.Rows L2
section
variable {S : List AV} {l : Nat} {F : Fsh}
end
end Fk
/-! ## draws, frames -/
namespace Fk
open PySem PySem.Spec PyProof.Rows L2
/-- what is kept: all but the objects of L -/
structure Fr (L : List Nat) (S S' : List AV) : Prop where
  len : S.length ≤ S'.length
  keep : ∀ i, i ∉ L → i < S.length → S'[i]? = S[i]?
theorem Fr.refl (L : List Nat) (S : List AV) : Fr L S S := ⟨Nat.le_refl _, fun _ _ _ => rfl⟩
theorem Fr.tr {L : List Nat} {S S1 S2 : List AV} (a : Fr L S S1) (b : Fr L S1 S2) : Fr L S S2 := ⟨Nat.le_trans a.len b.len, fun i hi h => by rw [b.keep i hi (Nat.lt_of_lt_of_le h a.len), a.keep i hi h]⟩
theorem Fr.mono {L L' : List Nat} {S S1 : List AV} (a : Fr L S S1) (h : ∀ i ∈ L, i ∈ L') : Fr L' S S1 := ⟨a.len, fun i hi => a.keep i fun z => hi (h i z)⟩
theorem Fr.oth {L : List Nat} {S S' : List AV} {i : Nat} {y : AV} (u : Fr L S S') (h : S[i]? = some y) (hi : i ∉ L) : S'[i]? = some y := by rw [u.keep i hi (lt_at h), h]
theorem Up.fr {S S' : List AV} {l : Nat} {x : AV} (u : Up S l x S') : Fr [l] S S' := ⟨u.len, fun i hi => u.keep i (by simpa using hi)⟩
theorem Fr.app (L : List Nat) (S T : List AV) : Fr L S (S ++ T) := ⟨by simp, fun i _ h => by rw [List.getElem?_append_left h]⟩
theorem x_choice {a b c n : Int} {l : Nat} {S : List AV} (hS : S[l]? = some (.lst true [.int a, .int b, .int c])) (hb : 0 ≤ b) (hb2 : b < 2 ^ 40) (hn : 0 < n) (hn2 : n < 2 ^ 63) : ∃ r a' b' c', 0 ≤ r ∧ r < n ∧ 0 ≤ b' ∧ b' < 2 ^ 40 ∧ m__law_choice [.loc l, .int n] S = .ok (.int r) (S.set l (.lst true [.int a', .int b', .int c'])) := by
  have hn3 : n < 18446744073709551616 := by omega
  unfold m__law_choice
  by_cases h : 0 < a
  · refine ⟨a % n, a / n, b, c, Int.emod_nonneg _ (by omega), Int.emod_lt_of_pos _ hn, hb, hb2, ?_⟩
    simp [h, hS, hn, hn3, fnM, ixA, deref, itA, seqA, atI_nn, ixN_nn, oGt, imm, oMod, oFdv, locOf, getPl, setPl, setZ, setIx, asI]
  · have h1 : ∀ z : Int, 0 ≤ z % 2147483647 ∧ z % 2147483647 < 2147483647 := fun z => ⟨Int.emod_nonneg _ (by omega), Int.emod_lt_of_pos _ (by omega)⟩
    have h2 : ∀ z : Int, 0 ≤ z % 2147483629 ∧ z % 2147483629 < 2147483629 := fun z => ⟨Int.emod_nonneg _ (by omega), Int.emod_lt_of_pos _ (by omega)⟩
    have cm : ∀ x y : Int, 0 ≤ x → x < 2147483647 → cMul x y = true := fun x y p q => by
      unfold cMul
      simp
      omega
    have cm2 : ∀ x y : Int, 0 ≤ y → y < 2147483647 → cMul x y = true := fun x y p q => by
      unfold cMul
      simp
      omega
    obtain ⟨b1, eb1⟩ : ∃ z, z = (b * 48271 + 29 + (c + 1)) % 2147483647 := ⟨_, rfl⟩
    obtain ⟨z1, ez1⟩ : ∃ z, z = (b1 * b1 + 39373 * b1 + 7) % 2147483629 := ⟨_, rfl⟩
    have p1 := h1 (b * 48271 + 29 + (c + 1))
    have p2 := h2 (b1 * b1 + 39373 * b1 + 7)
    rw [← eb1] at p1
    rw [← ez1] at p2
    refine ⟨(z1 * z1 + 50021 * z1) % 2147483587 / 8 % n, a, b1, c + 1, Int.emod_nonneg _ (by omega), Int.emod_lt_of_pos _ hn, p1.1, by omega, ?_⟩
    have c1 := cm2 b 48271 (by omega) (by omega)
    have c2 := cm b1 b1 p1.1 p1.2
    have c3 := cm 39373 b1 (by omega) (by omega)
    have c4 := cm z1 z1 p2.1 (by omega)
    have c5 := cm 50021 z1 (by omega) (by omega)
    simp [h, hS, hn, hn3, fnM, ixA, deref, itA, seqA, atI_nn, ixN_nn, oGt, imm, oMod, oFdv, locOf, getPl, setPl, setZ, setIx, asI, oAdd, oMul, setS_self, c1, c2, c3, c4, c5, ← eb1, ← ez1]
/-- the draws' row at l -/
def Dr (S : List AV) (l : Nat) : Prop := ∃ a b c : Int, S[l]? = some (.lst true [.int a, .int b, .int c]) ∧ 0 ≤ b ∧ b < 2 ^ 40
theorem Dr.fr {L : List Nat} {S S' : List AV} {l : Nat} (h : Dr S l) (f : Fr L S S') (hl : l ∉ L) : Dr S' l := by
  obtain ⟨a, b, c, e, r⟩ := h
  exact ⟨a, b, c, f.oth e hl, r⟩
theorem Dr.lt {S : List AV} {l : Nat} (h : Dr S l) : l < S.length := by
  obtain ⟨a, b, c, e, r⟩ := h
  exact lt_at e
theorem w_choice {S : List AV} {l : Nat} {n : Int} {Q : AV → List AV → Prop} {E : Str → List AV → Prop} (h : Dr S l) (hn : 0 < n) (hn2 : n < 2 ^ 40) (k : ∀ (r : Nat) (S' : List AV), (r : Int) < n → Dr S' l → Fr [l] S S' → Q (.int r) S') : WpR (m__law_choice [.loc l, .int n] S) Q E := by
  obtain ⟨a, b, c, e, h0, h1⟩ := h
  obtain ⟨r, a', b', c', p1, p2, p3, p4, p5⟩ := x_choice e h0 h1 hn (by omega)
  obtain ⟨r, rfl⟩ := Int.eq_ofNat_of_zero_le p1
  have u : Up S l (.lst true [.int a', .int b', .int c']) _ := Up.set (lt_at e)
  exact wp_of p5 (k r _ p2 ⟨a', b', c', u.at_, p3, p4⟩ u.fr)
theorem x_cell {ns : List Int} {k : Nat} {S : List AV} : ∃ c : Int, m__law_cell_at [.scr (ns.map AV.int), .int k] S = .ok (.int c) S := by
  by_cases h : k < ns.length
  · refine ⟨ns[k], ?_⟩
    have h2 : (k : Int) < ns.length := by omega
    have e : (ns.map AV.int)[k]? = some (.int ns[k]) := by simp [h]
    have g3 : ixA S (.scr (ns.map AV.int)) (.int k) = some (.int ns[k]) := by simp [ixA, deref, itA, seqA, atI_nn, h]
    simp (implicitDefEqProofs := false) [m__law_cell_at, fnM, fLen, deref, lenA, oLt, h2, g3, imm]
    try omega
  · refine ⟨0, ?_⟩
    have h2 : ¬ (k : Int) < ns.length := by omega
    simp (implicitDefEqProofs := false) [m__law_cell_at, fnM, fLen, deref, lenA, oLt, h2]
    try omega
theorem x_state {ns : List Int} {k : Nat} {S : List AV} : ∃ z : AV, m__law_state [.scr (ns.map AV.int), .int k] S = .ok (.loc S.length) (S ++ [z]) ∧ Dr (S ++ [z]) S.length := by
  obtain ⟨c, e⟩ := x_cell (ns := ns) (k := k) (S := S)
  have hm : 0 ≤ c % 2147483629 ∧ c % 2147483629 < 2147483629 := ⟨Int.emod_nonneg _ (by omega), Int.emod_lt_of_pos _ (by omega)⟩
  refine ⟨.lst true [.int (max 0 (c - 10 ^ 18)), .int (c % 2147483629 + 1), .int 0], ?_, _, _, _, by simp; exact ⟨rfl, rfl, rfl⟩, by omega, by omega⟩
  simp (implicitDefEqProofs := false) [m__law_state, fnM, e, oPow, cPow, oSub, fMax2, oMod, oAdd, ownA]
  split <;> omega
theorem w_state {ns : List Int} {k : Nat} {S : List AV} {Q : AV → List AV → Prop} {E : Str → List AV → Prop} (h : ∀ S' : List AV, Dr S' S.length → Fr [] S S' → Q (.loc S.length) S') : WpR (m__law_state [.scr (ns.map AV.int), .int k] S) Q E := by
  obtain ⟨z, e, d⟩ := x_state (ns := ns) (k := k) (S := S)
  exact wp_of e (h _ d (Fr.app _ _ _))
end Fk
/-! ## dicts by numbers, plainly -/
namespace Fk
open PySem PySem.Spec PyProof.Rows L2
@[simp] theorem g_N (i : Nat) (d : AV) (r : List Sl) (s : List AV) : gN i d ⟨r, s⟩ = some ⟨setSl r i (.im d), s⟩ := rfl
@[simp] theorem g_nil (st : Ss) : gNil' [] st = some st := rfl
@[simp] theorem g_cons (t : Tg) (u : List AV → Ss → Option Ss) (d : AV) (ds : List AV) (st : Ss) : gCons' t u (d :: ds) st = (t d st).bind fun s1 => u ds s1 := rfl
@[simp] theorem g_T (n : Nat) (u : List AV → Ss → Option Ss) (xs : List AV) (st : Ss) (h : xs.length = n) : gT n u (.tup xs) st = u xs st := by
  unfold gT
  simp [h]
@[simp] theorem nis_non : oNis .non .non = some (.bl false) := rfl
@[simp] theorem is_non : oIs .non .non = some (.bl true) := rfl
section
variable {α : Type} (e : α → AV)
def dk (ps : List (Nat × α)) : List Key := ps.map fun p => .inl (p.1 : Int)
def dv (ps : List (Nat × α)) : List AV := ps.map fun p => e p.2
def upN : List (Nat × α) → Nat → α → List (Nat × α)
  | [], k, v => [(k, v)]
  | p :: ps, k, v => if p.1 = k then (k, v) :: ps else p :: upN ps k v
def lkN (ps : List (Nat × α)) (k : Nat) : Option α := (ps.find? fun p => decide (p.1 = k)).map (·.2)
theorem key_eq (a b : Nat) : ((.inl (a : Int) : Key) = .inl (b : Int)) ↔ a = b := ⟨fun h => by injection h with h; omega, fun h => by rw [h]⟩
theorem get_dk : ∀ (ps : List (Nat × α)) (k : Nat), getK (dk ps) (dv e ps) (.inl (k : Int)) = (lkN ps k).map e
  | [], k => rfl
  | p :: ps, k => by
    have ih := get_dk ps k
    simp only [dk, dv, lkN, List.map_cons, getK, key_eq, List.find?_cons] at ih ⊢
    by_cases h : p.1 = k
    · simp [h]
    · rw [if_neg h, ih]
      simp [h]
theorem has_dk : ∀ (ps : List (Nat × α)) (k : Nat), hasK (dk ps) (.inl (k : Int)) = (lkN ps k).isSome
  | [], k => rfl
  | p :: ps, k => by
    have ih := has_dk ps k
    simp only [dk, lkN, hasK, List.map_cons, List.any_cons, key_eq, List.find?_cons] at ih ⊢
    by_cases h : p.1 = k
    · simp [h]
    · rw [ih]
      simp [h]
theorem upN_keys : ∀ (ps : List (Nat × α)) (k : Nat) (v : α), (lkN ps k).isSome = true → (upN ps k v).map (·.1) = ps.map (·.1)
  | [], k, v, h => by cases h
  | p :: ps, k, v, h => by
    simp only [upN]
    by_cases c : p.1 = k
    · simp [c]
    · rw [if_neg c, List.map_cons, upN_keys ps k v (by simpa [lkN, List.find?_cons, c] using h)]
      rfl
theorem upN_new : ∀ (ps : List (Nat × α)) (k : Nat) (v : α), lkN ps k = none → upN ps k v = ps ++ [(k, v)]
  | [], k, v, h => rfl
  | p :: ps, k, v, h => by
    simp only [upN]
    by_cases c : p.1 = k
    · simp [lkN, List.find?_cons, c] at h
    · rw [if_neg c, upN_new ps k v (by simpa [lkN, List.find?_cons, c] using h)]
      rfl
theorem upd_no : ∀ (ps : List (Nat × α)) (k : Nat) (d : AV), k ∉ ps.map (·.1) → updA (.inl (k : Int)) d (dk ps) (dv e ps) = dv e ps
  | [], k, d, _ => rfl
  | p :: ps, k, d, nd => by
    have h : ¬ p.1 = k ∧ k ∉ ps.map (·.1) := by
      simp only [List.map_cons, List.mem_cons, not_or] at nd
      exact ⟨fun z => nd.1 z.symm, nd.2⟩
    have ih := upd_no ps k d h.2
    simp only [dk, dv, List.map_cons, updA, key_eq] at ih ⊢
    rw [if_neg h.1, ih]
theorem upd_dk : ∀ (ps : List (Nat × α)) (k : Nat) (v : α), (ps.map (·.1)).Nodup → (lkN ps k).isSome = true → updA (.inl (k : Int)) (e v) (dk ps) (dv e ps) = dv e (upN ps k v)
  | [], k, v, _, h => by cases h
  | p :: ps, k, v, nd, h => by
    obtain ⟨n1, n2⟩ := List.nodup_cons.mp nd
    by_cases c : p.1 = k
    · have e2 := upd_no e ps k (e v) (by rw [← c]; exact n1)
      simp only [dk, dv, List.map_cons, updA, upN, key_eq, if_pos c] at e2 ⊢
      rw [e2]
    · have ih := upd_dk ps k v n2 (by simpa [lkN, List.find?_cons, c] using h)
      simp only [dk, dv, List.map_cons, updA, upN, key_eq, if_neg c] at ih ⊢
      rw [ih]
theorem put_dk (ps : List (Nat × α)) (k : Nat) (v : α) (nd : (ps.map (·.1)).Nodup) : putKA (dk ps) (dv e ps) (.inl (k : Int)) (e v) = (dk (upN ps k v), dv e (upN ps k v)) := by
  unfold putKA
  rw [has_dk]
  cases h : lkN ps k with
  | none =>
    rw [upN_new ps k v h]
    simp [dk, dv]
  | some w =>
    have hs : (lkN ps k).isSome = true := by rw [h]; rfl
    rw [upd_dk e ps k v nd hs]
    have ek : dk (upN ps k v) = dk ps := by
      have := upN_keys ps k v hs
      unfold dk
      have e1 : ∀ qs : List (Nat × α), (qs.map fun p => (.inl (p.1 : Int) : Key)) = (qs.map (·.1)).map fun (n : Nat) => (.inl (n : Int) : Key) := fun qs => by simp
      rw [e1, e1 ps, this]
    rw [ek]
    rfl
theorem nd_upN (ps : List (Nat × α)) (k : Nat) (v : α) (nd : (ps.map (·.1)).Nodup) : ((upN ps k v).map (·.1)).Nodup := by
  cases h : lkN ps k with
  | some w => rw [upN_keys ps k v (by rw [h]; rfl)]; exact nd
  | none =>
    rw [upN_new ps k v h, List.map_append, List.nodup_append]
    refine ⟨nd, by simp, fun a ha b hb => ?_⟩
    have : b = k := by simpa using hb
    subst this
    rintro rfl
    obtain ⟨p, hp, rfl⟩ := List.mem_map.mp ha
    simp only [lkN, Option.map_eq_none_iff, List.find?_eq_none] at h
    exact h p hp (by simp)
theorem len_upN (ps : List (Nat × α)) (k : Nat) (v : α) : (upN ps k v).length ≤ ps.length + 1 := by
  induction ps with
  | nil => simp [upN]
  | cons p ps ih =>
    simp only [upN]
    split <;> simp
    exact ih
theorem mem_upN {ps : List (Nat × α)} {k : Nat} {v : α} {q : Nat × α} (h : q ∈ upN ps k v) : q = (k, v) ∨ q ∈ ps := by
  induction ps with
  | nil => simpa [upN] using h
  | cons p ps ih =>
    simp only [upN] at h
    split at h
    · rcases List.mem_cons.mp h with h | h
      · exact .inl h
      · exact .inr (by simp [h])
    · rcases List.mem_cons.mp h with h | h
      · exact .inr (by simp [h])
      · exact (ih h).imp id fun z => by simp [z]
theorem lk_mem {ps : List (Nat × α)} {k : Nat} {v : α} (h : lkN ps k = some v) : (k, v) ∈ ps := by
  simp only [lkN, Option.map_eq_some_iff] at h
  obtain ⟨p, h1, rfl⟩ := h
  have := List.find?_some h1
  have h2 := List.mem_of_find?_eq_some h1
  have e : p.1 = k := by simpa using this
  rw [← e]
  exact h2
theorem lk_of {ps : List (Nat × α)} {k : Nat} (h : k ∈ ps.map (·.1)) : ∃ v, lkN ps k = some v := by
  cases e : lkN ps k with
  | some v => exact ⟨v, rfl⟩
  | none =>
    obtain ⟨p, hp, rfl⟩ := List.mem_map.mp h
    simp only [lkN, Option.map_eq_none_iff, List.find?_eq_none] at e
    exact (e p hp (by simp)).elim
theorem keysI_dk (ps : List (Nat × α)) : keysI (dk ps) = some (ps.map fun p => (p.1 : Int)) := by
  have := keysI_map (ps.map fun p => (p.1 : Int))
  rw [List.map_map] at this
  exact this
/-- the sorted rows of a dict -/
def srN (ps : List (Nat × α)) : List (Nat × α) := (srtI (ps.map fun p => (p.1 : Int))).filterMap fun k => (lkN ps k.toNat).map fun v => (k.toNat, v)
theorem srN_eq (ps : List (Nat × α)) (d : α) : srN ps = (srtI (ps.map fun p => (p.1 : Int))).map fun k => (k.toNat, (lkN ps k.toNat).getD d) := by
  unfold srN
  have h : ∀ k ∈ srtI (ps.map fun p => (p.1 : Int)), k.toNat ∈ ps.map (·.1) := fun k hk => by
    have := (srtI_perm _).mem_iff.mp hk
    obtain ⟨p, hp, rfl⟩ := List.mem_map.mp this
    exact List.mem_map.mpr ⟨p, hp, by simp⟩
  generalize srtI (ps.map fun p => (p.1 : Int)) = ks at h
  induction ks with
  | nil => rfl
  | cons k ks ih =>
    obtain ⟨v, hv⟩ := lk_of (h k (by simp))
    rw [List.filterMap_cons, hv, List.map_cons, hv]
    simp only [Option.map_some, Option.getD_some]
    rw [ih fun k hk => h k (by simp [hk])]
theorem srN_mem {ps : List (Nat × α)} {q : Nat × α} (h : q ∈ srN ps) : q ∈ ps := by
  simp only [srN, List.mem_filterMap, Option.map_eq_some_iff] at h
  obtain ⟨k, _, v, hv, rfl⟩ := h
  exact lk_mem hv
theorem srN_len (ps : List (Nat × α)) : (srN ps).length = ps.length := by
  cases ps with
  | nil => rfl
  | cons p ps => rw [srN_eq (p :: ps) p.2, List.length_map, (srtI_perm _).length_eq, List.length_map]
theorem srN_rise (ps : List (Nat × α)) (nd : (ps.map (·.1)).Nodup) : ((srN ps).map (·.1)).Pairwise (· < ·) := by
  cases ps with
  | nil => simp [srN, srtI]
  | cons p ps =>
    rw [srN_eq (p :: ps) p.2, List.map_map]
    generalize hq : p :: ps = qs at nd
    have h1 := srtI_srt (qs.map fun p => (p.1 : Int))
    have h2 : (srtI (qs.map fun p => (p.1 : Int))).Nodup := (srtI_perm _).nodup_iff.mpr (by
      rw [List.Nodup, List.pairwise_map] at nd ⊢
      exact nd.imp fun h => by omega)
    have h3 : ∀ k ∈ srtI (qs.map fun p => (p.1 : Int)), 0 ≤ k := fun k hk => by
      have := (srtI_perm _).mem_iff.mp hk
      obtain ⟨p, hp, rfl⟩ := List.mem_map.mp this
      omega
    rw [List.pairwise_map]
    exact (List.pairwise_and_iff.mpr ⟨h1, h2⟩).imp_of_mem fun ha hb ⟨a, b⟩ => by
      have := h3 _ ha
      have := h3 _ hb
      simp only [Function.comp]
      omega
end
theorem rng_mem {n : Nat} {j : Nat} {d : AV} (h : ((List.range n).map iA)[j]? = some d) : d = .int j ∧ j < n := by
  rw [List.getElem?_map] at h
  cases e : (List.range n)[j]? with
  | none => rw [e] at h; cases h
  | some m =>
    rw [e] at h
    have := List.getElem?_eq_some_iff.mp e
    obtain ⟨hl, hm⟩ := this
    simp at hl hm
    subst hm
    cases h
    exact ⟨rfl, hl⟩
end Fk
/-! ## plans, fields, weathers drawn -/
namespace Fk
open PySem PySem.Spec PyProof.Rows L2
structure Pln where
  b : Nat
  p : Nat
  q : Nat
  s : Bool
  c : Bool
def Pln.av (P : Pln) : AV := .tup [.int P.b, .int P.p, .int P.q, .bl P.s, .bl P.c]
theorem ix_l (S : List AV) (o : Bool) (xs : List AV) (r : Nat) : ixA S (.lst o xs) (.int r) = xs[r]? := by simp [ixA, deref, itA, seqA, atI_nat]
theorem ix_t (S : List AV) (xs : List AV) (r : Nat) : ixA S (.tup xs) (.int r) = xs[r]? := by simp [ixA, deref, itA, seqA, atI_nat]
section
variable {S : List AV} {l : Nat} {Q : AV → List AV → Prop} {E : Str → List AV → Prop}
end
end Fk
-- base: k14
/-! ## fields of any kind drawn; seals (k14's) -/
namespace Fk
open PySem PySem.Spec PyProof.Rows L2
section
variable {S : List AV} {l : Nat} {Q : AV → List AV → Prop} {E : Str → List AV → Prop}
end
end Fk
-- base: k05
/-! ## plain data, how much they weigh -/
namespace Fk
open PySem PySem.Spec PyProof.Rows L2
mutual
def wt : AV → Nat
  | .tup xs => wts xs + 3
  | .lst _ xs => wts xs + 3
  | .str z => 10 * z.length + 2
  | _ => 129
def wts : List AV → Nat
  | [] => 0
  | x :: xs => wt x + 2 + wts xs
end
mutual
def dpt : AV → Nat
  | .tup xs => dpts xs + 1
  | .lst _ xs => dpts xs + 1
  | _ => 0
def dpts : List AV → Nat
  | [] => 0
  | x :: xs => max (dpt x) (dpts xs)
end
mutual
/-- plain data without dicts, nothing owned -/
def gd : AV → Bool
  | .non => true
  | .bl _ => true
  | .int i => decide (i.natAbs < 2 ^ 128)
  | .str z => PyData.strOk z
  | .tup xs => gds xs
  | .lst o xs => !o && gds xs
  | _ => false
def gds : List AV → Bool
  | [] => true
  | x :: xs => gd x && gds xs
end
mutual
theorem sh_gd : ∀ (x : AV) (k : Nat), gd x = true → dpt x ≤ k → Sh k (wt x) x
  | .non, k, _, _ => sh_non.mono (Nat.le_refl _) (by simp [wt])
  | .bl b, k, _, _ => (sh_bl b).mono (Nat.le_refl _) (by simp [wt])
  | .int i, k, h, _ => by
    have : i.natAbs < 2 ^ 128 := by simpa [gd] using h
    exact (sh_int this).mono (Nat.le_refl _) (by simp [wt])
  | .str z, k, h, _ => by
    have : PyData.strOk z = true := by simpa [gd] using h
    simpa [wt] using sh_str (k := k) this
  | .tup xs, k, h, hd => by
    have h1 : gds xs = true := by simpa [gd] using h
    have h2 : dpts xs + 1 ≤ k := by simpa [dpt] using hd
    obtain ⟨j, rfl⟩ : ∃ j, k = j + 1 := ⟨k - 1, by omega⟩
    have := sh_tup (shs_gd xs j h1 (by omega))
    simpa [wt] using this
  | .lst o xs, k, h, hd => by
    have h1 : o = false ∧ gds xs = true := by simpa [gd] using h
    have h2 : dpts xs + 1 ≤ k := by simpa [dpt] using hd
    obtain ⟨j, rfl⟩ : ∃ j, k = j + 1 := ⟨k - 1, by omega⟩
    have := sh_lst (o := o) (shs_gd xs j h1.2 (by omega))
    simpa [wt] using this
  | .dct _ _ _, _, h, _ => by simp [gd] at h
  | .scr _, _, h, _ => by simp [gd] at h
  | .nst _, _, h, _ => by simp [gd] at h
  | .ndc _ _, _, h, _ => by simp [gd] at h
  | .ins _ _ _, _, h, _ => by simp [gd] at h
  | .loc _, _, h, _ => by simp [gd] at h
  | .ded, _, h, _ => by simp [gd] at h
  | .set _, _, h, _ => by simp [gd] at h
  | .tud _, _, h, _ => by simp [gd] at h
theorem shs_gd : ∀ (xs : List AV) (k : Nat), gds xs = true → dpts xs ≤ k → Shs k (wts xs) xs
  | [], k, _, _ => by simpa [wts] using shs_nil (k := k)
  | x :: xs, k, h, hd => by
    have h1 : gd x = true ∧ gds xs = true := by simpa [gds] using h
    have h2 : max (dpt x) (dpts xs) ≤ k := by simpa [dpts] using hd
    have := shs_cons (sh_gd x k h1.1 (by omega)) (shs_gd xs k h1.2 (by omega))
    simpa [wts] using this
end
/-- a thing -/
structure Td (k n : Nat) (x : AV) : Prop where
  g : gd x = true
  d : dpt x ≤ k
  w : wt x ≤ n
structure Tds (k n : Nat) (xs : List AV) : Prop where
  g : gds xs = true
  d : dpts xs ≤ k
  w : wts xs ≤ n
section
variable {x : AV} {xs ys : List AV} {k n m : Nat}
theorem Td.sh (h : Td k n x) : Sh k n x := (sh_gd x k h.g h.d).mono (Nat.le_refl _) h.w
theorem Td.mono {k' n' : Nat} (h : Td k n x) (hk : k ≤ k') (hn : n ≤ n') : Td k' n' x := ⟨h.g, Nat.le_trans h.d hk, Nat.le_trans h.w hn⟩
theorem Td.imm (h : Td k n x) : imm x = true := by
  have := h.g
  cases x <;> simp_all [gd]
theorem Td.okT (h : Td k n x) : okT x = true := by
  have := h.g
  cases x <;> simp_all [gd, Fk.okT]
theorem Td.tup (h : Td k n (.tup xs)) : 1 ≤ k ∧ 3 ≤ n ∧ Tds (k - 1) (n - 3) xs := by
  have h1 : gds xs = true := by simpa [gd] using h.g
  have h2 : dpts xs + 1 ≤ k := by simpa [dpt] using h.d
  have h3 : wts xs + 3 ≤ n := by simpa [wt] using h.w
  exact ⟨by omega, by omega, h1, by omega, by omega⟩
theorem Tds.tup (h : Tds k n xs) : Td (k + 1) (n + 3) (.tup xs) := ⟨by simpa [gd] using h.g, by have := h.d; simpa [dpt] using this, by have := h.w; simpa [wt] using this⟩
theorem Tds.lst (h : Tds k n xs) : Td (k + 1) (n + 3) (.lst false xs) := ⟨by simpa [gd] using h.g, by have := h.d; simpa [dpt] using this, by have := h.w; simpa [wt] using this⟩
theorem gds_app : ∀ (xs ys : List AV), gds (xs ++ ys) = (gds xs && gds ys)
  | [], ys => by simp [gds]
  | x :: xs, ys => by simp [gds, gds_app xs ys, Bool.and_assoc]
theorem dpts_app : ∀ (xs ys : List AV), dpts (xs ++ ys) = max (dpts xs) (dpts ys)
  | [], ys => by simp [dpts]
  | x :: xs, ys => by simp only [List.cons_append, dpts, dpts_app xs ys]; omega
theorem wts_app : ∀ (xs ys : List AV), wts (xs ++ ys) = wts xs + wts ys
  | [], ys => by simp [wts]
  | x :: xs, ys => by simp [wts, wts_app xs ys]; omega
theorem wts_len : ∀ (xs : List AV), 2 * xs.length ≤ wts xs
  | [] => by simp
  | x :: xs => by have := wts_len xs; simp [wts]; omega
theorem Tds.app (h : Tds k n xs) (g : Tds k m ys) : Tds k (n + m) (xs ++ ys) := ⟨by rw [gds_app, h.g, g.g]; rfl, by rw [dpts_app]; have := h.d; have := g.d; omega, by rw [wts_app]; have := h.w; have := g.w; omega⟩
theorem Tds.nil : Tds k 0 [] := ⟨rfl, by simp [dpts], by simp [wts]⟩
theorem Tds.cons (h : Td k n x) (g : Tds k m xs) : Tds k (n + 2 + m) (x :: xs) := ⟨by simp [gds, h.g, g.g], by have := h.d; have := g.d; simp [dpts]; omega, by have := h.w; have := g.w; simp [wts]; omega⟩
theorem Tds.mono {k' n' : Nat} (h : Tds k n xs) (hk : k ≤ k') (hn : n ≤ n') : Tds k' n' xs := ⟨h.g, Nat.le_trans h.d hk, Nat.le_trans h.w hn⟩
theorem Tds.take (h : Tds k n xs) (i : Nat) : Tds k n (xs.take i) := by
  have h1 := h.g
  have h2 := h.d
  have h3 := h.w
  rw [← List.take_append_drop i xs] at h1 h2 h3
  rw [gds_app] at h1
  rw [dpts_app] at h2
  rw [wts_app] at h3
  exact ⟨(Bool.and_eq_true_iff.mp h1).1, by omega, by omega⟩
theorem Tds.drop (h : Tds k n xs) (i : Nat) : Tds k n (xs.drop i) := by
  have h1 := h.g
  have h2 := h.d
  have h3 := h.w
  rw [← List.take_append_drop i xs] at h1 h2 h3
  rw [gds_app] at h1
  rw [dpts_app] at h2
  rw [wts_app] at h3
  exact ⟨(Bool.and_eq_true_iff.mp h1).2, by omega, by omega⟩
theorem Tds.mem : ∀ {xs : List AV}, Tds k n xs → ∀ x ∈ xs, Td k n x
  | y :: ys, h, x, hx => by
    have h1 : gd y = true ∧ gds ys = true := by simpa [gds] using h.g
    have h2 : max (dpt y) (dpts ys) ≤ k := by simpa [dpts] using h.d
    have h3 : wt y + 2 + wts ys ≤ n := by simpa [wts] using h.w
    rcases List.mem_cons.mp hx with rfl | hx
    · exact ⟨h1.1, by omega, by omega⟩
    · exact Tds.mem (xs := ys) ⟨h1.2, by omega, by omega⟩ x hx
/-- one in the midst, apart from the others -/
theorem Tds.split {i : Nat} (h : Tds k n xs) (hi : xs[i]? = some x) : ∃ a b c, a + (b + 2 + c) ≤ n ∧ Tds k a (xs.take i) ∧ Td k b x ∧ Tds k c (xs.drop (i + 1)) := by
  obtain ⟨hl, e⟩ := List.getElem?_eq_some_iff.mp hi
  have e1 : xs = xs.take i ++ (x :: xs.drop (i + 1)) := by
    conv => lhs; rw [← List.take_append_drop i xs]
    rw [List.drop_eq_getElem_cons hl, e]
  have h1 := h.g
  have h2 := h.d
  have h3 := h.w
  rw [e1] at h1 h2 h3
  rw [gds_app] at h1
  rw [dpts_app] at h2
  rw [wts_app] at h3
  simp only [gds, dpts, wts, Bool.and_eq_true] at h1 h2 h3
  exact ⟨wts (xs.take i), wt x, wts (xs.drop (i + 1)), by omega, ⟨h1.1, by omega, Nat.le_refl _⟩, ⟨h1.2.1, by omega, Nat.le_refl _⟩, h1.2.2, by omega, Nat.le_refl _⟩
theorem eq_tnil (h : Td k n (.tup xs)) (hk : k ≤ 50) : oEq (.tup xs) (.tup []) = some (.bl xs.isEmpty) := by
  have o1 := h.sh.okA (by omega)
  have o2 : okA (.tup []) = true := by decide +kernel
  have e : eqA (.tup xs) (.tup []) = if okA (.tup xs) && okA (.tup []) then some (PyData.eqv (dat (.tup xs)) (dat (.tup []))) else none := rfl
  unfold oEq
  rw [e, o1, o2]
  cases xs with
  | nil => rfl
  | cons x xs => rfl
theorem sl_to (xs : List AV) (i : Nat) : slA (.tup xs) none (some (i : Int)) = some (.tup (xs.take i)) := by
  show some (AV.tup (cutA xs none (some (i : Int)))) = _
  unfold cutA
  rw [HT.sIx_nat, HT.sIx_none]
  simp only [List.drop_zero, Nat.sub_zero]
  congr 2
  rw [List.take_eq_take_iff]
  omega
theorem sl_from (xs : List AV) (i : Nat) : slA (.tup xs) (some (i : Int)) none = some (.tup (xs.drop i)) := by
  show some (AV.tup (cutA xs (some (i : Int)) none)) = _
  unfold cutA
  rw [HT.sIx_nat, HT.sIx_none]
  congr 2
  by_cases h : i ≤ xs.length
  · rw [Nat.min_eq_left h, List.take_of_length_le (by simp)]
  · rw [Nat.min_eq_right (by omega), List.drop_eq_nil_of_le (by omega), List.drop_eq_nil_of_le (by omega), List.take_nil]
theorem sl_mid (xs : List AV) (i : Nat) : slA (.tup xs) (some (i : Int)) (some ((i + 1 : Nat) : Int)) = some (.tup ((xs.drop i).take 1)) := by
  show some (AV.tup (cutA xs (some (i : Int)) (some ((i + 1 : Nat) : Int)))) = _
  unfold cutA
  rw [HT.sIx_nat, HT.sIx_nat]
  congr 2
  by_cases h : i < xs.length
  · rw [Nat.min_eq_left (by omega), Nat.min_eq_left (by omega)]
    congr 1
    omega
  · rw [Nat.min_eq_right (by omega), Nat.min_eq_right (by omega), List.drop_eq_nil_of_le (by omega), List.drop_eq_nil_of_le (by omega), List.take_nil, List.take_nil]
end
end Fk
-- base: k05
/-! ## fields known of anything -/
namespace Fk
open PySem PySem.Spec PyProof.Rows L2
/-- a whole number within bounds -/
def wI (x : AV) (m : Int) : Bool := match x with
  | .int i => decide (0 ≤ i) && decide (i ≤ m)
  | _ => false
def isI (x : AV) : Bool := match x with
  | .int _ => true
  | _ => false
section
variable {S : List AV} {x : AV} {xs : List AV} {k n : Nat}
theorem x_is_wholeA (h : okT x = true) : m_is_whole [x] S = .ok (.bl (isI x)) S := by
  unfold m_is_whole
  rw [fnM_ret]
  cases x with
  | non | bl | int | str | tup | lst | dct => simp (implicitDefEqProofs := false) [okT, isT, isI, asB, oNot]
  | _ => cases h
theorem x_wholeA (h : okT x = true) : m__law_whole [x] S = .ok (.bl (isI x)) S := x_is_wholeA h
theorem x_withinA (h : okT x = true) (m : Int) : m_is_within [x, .int 0, .int m] S = .ok (.bl (wI x m)) S := by
  cases x with
  | int i =>
    rw [x_is_within]
    rfl
  | non | bl | str | tup | lst | dct =>
    have w := x_is_wholeA (S := S) h
    unfold m_is_within
    rw [fnM_ret]
    simp (implicitDefEqProofs := false) [w, isI, wI, asB]
  | _ => cases h
def iv : AV → Int
  | .int i => i
  | _ => 0
theorem wI_int {m : Int} (h : wI x m = true) : x = .int (iv x) := by
  cases x <;> first | rfl | cases h
theorem isI_int (h : isI x = true) : x = .int (iv x) := by
  cases x <;> first | rfl | cases h
theorem ln_tup (xs : List AV) : ∀ S, fLen S [.tup xs] = some (.int xs.length) := fun S => by simp [fLen, deref, lenA]
theorem nes (a b : Str) : oNe (.str a) (.str b) = some (.bl (!decide (a = b))) := by simp [oNe, eqA]
theorem eqi (a b : Int) : oEq (.int a) (.int b) = some (.bl (decide (a = b))) := by simp [oEq, eqA]
theorem nei (a b : Int) : oNe (.int a) (.int b) = some (.bl (!decide (a = b))) := by simp [oNe, eqA]
/-- a kind that is no text is none -/
theorem eq_str (h : Td k n x) (hk : k ≤ 50) (hs : isT "str" x = false) (z : Str) (hz : PyData.strOk z = true) : oEq x (.str z) = some (.bl false) := by
  have o1 := h.sh.okA (by omega)
  have o2 : okA (.str z) = true := (sh_str (k := 0) hz).okA (by omega)
  have e : eqA x (.str z) = if okA x && okA (.str z) then some (PyData.eqv (dat x) (dat (.str z))) else none := by
    cases x <;> first | rfl | (simp [isT] at hs)
  unfold oEq
  rw [e, o1, o2]
  have g := h.g
  cases x <;> first | (simp [isT] at hs; done) | (simp [gd] at g; done) | simp [dat, PyData.eqv]
end
end Fk
-- base: k05
/-! ## fields known of anything, by the law -/
namespace Fk
open PySem PySem.Spec PyProof.Rows L2
section
variable {S : List AV} {x : AV} {xs : List AV} {k n : Nat}
end
end Fk
-- base: k05
/-! ## things drawn -/
namespace Fk
open PySem PySem.Spec PyProof.Rows L2
def tdB (k n : Nat) (x : AV) : Bool := gd x && (decide (dpt x ≤ k) && decide (wt x ≤ n))
theorem tdB_ok {k n : Nat} {x : AV} (h : tdB k n x = true) : Td k n x := by
  unfold tdB at h
  simp only [Bool.and_eq_true, decide_eq_true_eq] at h
  exact ⟨h.1, h.2.1, h.2.2⟩
theorem tdB_all {k n : Nat} {xs : List AV} (h : xs.all (tdB k n) = true) : ∀ x ∈ xs, Td k n x := fun x hx => tdB_ok (List.all_eq_true.mp h x hx)
def isMtD (x : AV) : Prop := x = .dct false [] [] ∨ x = .dct false [.inl 0] [.int 1]
def oddE : List AV := [.non, .bl true, .bl false, .int (-1), .int (10 ^ 29), .str "", .str "read", .str "write", .str "bit", .tup [], .lst false [], .dct false [] [], .tup [.int 0], .lst false [.int 0], .tup [.non], .dct false [.inl 0] [.int 1], .tup [.str "read"], .tup [.str "cut"], .tup [.tup [.int 0, .int 1]], .int 16384]
theorem oddE_len : oddE.length = 20 := rfl
theorem oddE_td : ∀ d ∈ oddE, Td 3 400 d ∨ isMtD d := by
  have h1 : (oddE.take 11).all (tdB 3 400) = true := by decide +kernel
  have h2 : ((oddE.drop 12).take 3).all (tdB 3 400) = true := by decide +kernel
  have h3 : (oddE.drop 16).all (tdB 3 400) = true := by decide +kernel
  have e : oddE = oddE.take 11 ++ (.dct false [] [] :: ((oddE.drop 12).take 3 ++ (.dct false [.inl 0] [.int 1] :: oddE.drop 16))) := rfl
  intro d hd
  rw [e] at hd
  rcases List.mem_append.mp hd with z | z
  · exact .inl (tdB_all h1 d z)
  · rcases List.mem_cons.mp z with z | z
    · exact .inr (.inl z)
    · rcases List.mem_append.mp z with z | z
      · exact .inl (tdB_all h2 d z)
      · rcases List.mem_cons.mp z with z | z
        · exact .inr (.inr z)
        · exact .inl (tdB_all h3 d z)
theorem imm_isMt {d : AV} (h : isMtD d) : imm d = true := by rcases h with rfl | rfl <;> rfl
section
variable {S : List AV} {l : Nat} {Q : AV → List AV → Prop} {E : Str → List AV → Prop}
theorem w_oddE (hD : Dr S l) (k : ∀ d S', d ∈ oddE → Dr S' l → Fr [l] S S' → Q d S') : WpR (m__law_odd [.loc l] S) Q E := by
  unfold m__law_odd
  refine wpF ?_
  refine wpS (wp_of (a := .nx) (s := ⟨[.im (.loc l), .im (.lst false (oddE.take 16))], S⟩) (by kernel_rfl) ?_)
  rw [afS_nx]
  have ad : oAdd (.lst false (oddE.take 16)) (.lst false [.tup [.str "read"], .tup [.str "cut"], .tup [.tup [.int 0, .int 1]], .int 16384]) = some (.lst false oddE) := by kernel_rfl
  generalize oddE.take 16 = L1 at ad
  simp (implicitDefEqProofs := false) [-k_sSeq, Ss.wipe, -k_sTry, ad]
  refine wpC (w_choice hD (by omega) (by omega) fun r S1 hr D1 f1 => ?_)
  have i1 := ix_l S1 false oddE r
  obtain ⟨d, e⟩ : ∃ d, oddE[r]? = some d := ⟨_, List.getElem?_eq_getElem (by rw [oddE_len]; omega)⟩
  rw [e] at i1
  have hd : d ∈ oddE := List.mem_of_getElem? e
  have im : imm d = true := (oddE_td d hd).elim Td.imm imm_isMt
  have kk := k d S1 hd D1 f1
  generalize oddE = L at *
  simp (implicitDefEqProofs := false) [-k_sSeq, Ss.wipe, -k_sTry, i1, im]
  exact kk
def oddS : List AV := [.non, .str "", .str "bit", .str "cut", .str "write", .int (-1), .int 0, .int 1, .int 16, .int 64, .int 16384, .int (10 ^ 29), .tup [], .tup [.str "bad"], .lst false [], .bl true, .bl false]
theorem oddS_len : oddS.length = 17 := rfl
theorem oddS_td : ∀ d ∈ oddS, Td 1 200 d := tdB_all (by decide +kernel)
theorem lt2 (n : Nat) (m : Nat) : oLt (.int n) (.int m) = some (.bl (decide (n < m))) := by
  show some (AV.bl (decide ((n : Int) < m))) = _
  congr 2
  rw [decide_eq_decide]
  omega
theorem add_tupB (xs ys : List AV) (h : xs.length + ys.length ≤ 16777216) : oAdd (.tup xs) (.tup ys) = some (.tup (xs ++ ys)) := by
  have e : oAdd (.tup xs) (.tup ys) = if xs.length + ys.length ≤ 16777216 then some (.tup (xs ++ ys)) else none := rfl
  rw [e, if_pos h]
/-- something otherwise -/
theorem w_bentR : ∀ (m : Nat) {S : List AV} {Q : AV → List AV → Prop} {E : Str → List AV → Prop} {k n : Nat} {x : AV}, Td k n x → k < m → k ≤ 40 → n ≤ 1000000 → Dr S l → (∀ d S', Td (k + 1) (2 * n + 700) d → Dr S' l → Fr [l] S S' → Q d S') → WpR (mR__law_bent m [.loc l, x] S) Q E
  | 0, S, Q, E, k, n, x, _, h, _, _, _, _ => by omega
  | m + 1, S, Q, E, k, n, x, T, hk, hk2, hn, hD, kk => by
    rw [mR__law_bent.eq_2]
    refine wpF ?_
    refine wpS ?_
    simp (implicitDefEqProofs := false) [-k_sSeq, Ss.wipe, -k_sTry]
    refine wpC (w_choice hD (by omega) (by omega) fun way S1 hw D1 f1 => ?_)
    simp (implicitDefEqProofs := false) [-k_sSeq, Ss.wipe, -k_sTry]
    have ok := T.okT
    have im := T.imm
    have lt : oLt (.int way) (.int 2) = some (.bl (decide (way < 2))) := lt2 way 2
    have lt4 : oLt (.int way) (.int 4) = some (.bl (decide (way < 4))) := lt2 way 4
    by_cases ht : isT "tuple" x = true
    · obtain ⟨xs, rfl⟩ : ∃ xs, x = .tup xs := by
        cases x <;> first | exact ⟨_, rfl⟩ | (simp [isT] at ht)
      have en := eq_tnil T (by omega)
      by_cases hx : xs.isEmpty = true
      · rw [hx] at en
        refine wpS ?_
        simp (implicitDefEqProofs := false) [-k_sSeq, Ss.wipe, -k_sTry, ok, ht, en]
        refine wpS (wp_of (a := .nx) (s := ⟨[.im (.loc l), .im (.tup xs), .im (.int way), .im (.lst false oddS), .no], S1⟩) (by kernel_rfl) ?_)
        rw [afS_nx]
        simp (implicitDefEqProofs := false) [-k_sSeq, Ss.wipe, -k_sTry]
        refine wpC (w_choice D1 (by omega) (by omega) fun r S2 hr D2 f2 => ?_)
        have i1 := ix_l S2 false oddS r
        obtain ⟨d, e⟩ : ∃ d, oddS[r]? = some d := ⟨_, List.getElem?_eq_getElem (by rw [oddS_len]; omega)⟩
        rw [e] at i1
        have hd := oddS_td d (List.mem_of_getElem? e)
        have im := hd.imm
        generalize oddS = L at *
        simp (implicitDefEqProofs := false) [-k_sSeq, Ss.wipe, -k_sTry, i1, im]
        exact kk d S2 (hd.mono (by omega) (by omega)) D2 (f1.tr f2)
      have hx' : xs.isEmpty = false := by simpa using hx
      rw [hx'] at en
      by_cases hw2 : way < 2
      · rw [decide_eq_true hw2] at lt
        refine wpS ?_
        simp (implicitDefEqProofs := false) [-k_sSeq, Ss.wipe, -k_sTry, ok, ht, en, lt]
        refine wpS (wp_of (a := .nx) (s := ⟨[.im (.loc l), .im (.tup xs), .im (.int way), .im (.lst false oddS), .no], S1⟩) (by kernel_rfl) ?_)
        rw [afS_nx]
        simp (implicitDefEqProofs := false) [-k_sSeq, Ss.wipe, -k_sTry]
        refine wpC (w_choice D1 (by omega) (by omega) fun r S2 hr D2 f2 => ?_)
        have i1 := ix_l S2 false oddS r
        obtain ⟨d, e⟩ : ∃ d, oddS[r]? = some d := ⟨_, List.getElem?_eq_getElem (by rw [oddS_len]; omega)⟩
        rw [e] at i1
        have hd := oddS_td d (List.mem_of_getElem? e)
        have im := hd.imm
        generalize oddS = L at *
        simp (implicitDefEqProofs := false) [-k_sSeq, Ss.wipe, -k_sTry, i1, im]
        exact kk d S2 (hd.mono (by omega) (by omega)) D2 (f1.tr f2)
      rw [decide_eq_false hw2] at lt
      refine wpS ?_
      simp (implicitDefEqProofs := false) [-k_sSeq, Ss.wipe, -k_sTry, ok, ht, en, lt]
      obtain ⟨k1, n3, Ts⟩ := T.tup
      have lpos : 0 < xs.length := by
        cases xs with
        | nil => cases hx'
        | cons x xs => simp
      have ll : 2 * xs.length ≤ n := by
        have h1 := wts_len xs
        have h2 := Ts.w
        omega
      have ln := ln_tup xs
      refine wpS ?_
      simp (implicitDefEqProofs := false) [-k_sSeq, Ss.wipe, -k_sTry, ln]
      refine wpC (w_choice D1 (by omega) (by omega) fun at_ S2 ha D2 f2 => ?_)
      have ha : at_ < xs.length := by omega
      obtain ⟨y, hy⟩ : ∃ y, xs[at_]? = some y := ⟨_, List.getElem?_eq_getElem ha⟩
      obtain ⟨a, b, c, habc, Ta, Tb, Tc⟩ := Ts.split hy
      have st := sl_to xs at_
      have sf : slA (.tup xs) (some ((at_ : Int) + 1)) none = some (.tup (xs.drop (at_ + 1))) := sl_from xs (at_ + 1)
      have sm : slA (.tup xs) (some (at_ : Int)) (some ((at_ : Int) + 1)) = some (.tup ((xs.drop at_).take 1)) := sl_mid xs at_
      have ad1 : oAdd (.int at_) (.int 1) = some (.int ((at_ : Int) + 1)) := rfl
      have ix : ∀ S', ixA S' (.tup xs) (.int at_) = some y := fun S' => by rw [ix_t]; exact hy
      have imy := Tb.imm
      simp (implicitDefEqProofs := false) [-k_sSeq, Ss.wipe, -k_sTry]
      refine wpS ?_
      by_cases hw4 : way < 4
      · rw [decide_eq_true hw4] at lt4
        have ih := w_bentR m (S := S2) (Q := fun d S' => Td (k - 1 + 1) (2 * b + 700) d ∧ Dr S' l ∧ Fr [l] S2 S') (E := noE) Tb (by omega) (by omega) (by omega) D2 (fun d S' h1 h2 h3 => ⟨h1, h2, h3⟩)
        obtain ⟨d, S3, e3, Td3, D3, f3⟩ := wp_ex ih
        have imd := Td3.imm
        have g1 := add_tupB (xs.take at_) [d] (by simp; omega)
        have g2 := add_tupB (xs.take at_ ++ [d]) (xs.drop (at_ + 1)) (by simp; omega)
        have R : Td (k + 1) (2 * n + 700) (.tup (xs.take at_ ++ [d] ++ xs.drop (at_ + 1))) := (((Ta.mono (k' := k) (by omega) (Nat.le_refl _)).app ((Tds.cons (Td3.mono (k' := k) (by omega) (Nat.le_refl _)) Tds.nil))).app (Tc.mono (k' := k) (by omega) (Nat.le_refl _))).tup.mono (by omega) (by omega)
        have K2 := kk _ S3 R D3 ((f1.tr f2).tr f3)
        simp (implicitDefEqProofs := false) [-k_sSeq, Ss.wipe, -k_sTry, lt4, oPart, asI, st, ix, e3, imd, g1, ad1, sf, g2, imy]
        rw [List.append_assoc] at K2
        exact K2
      · rw [decide_eq_false hw4] at lt4
        have hl2 : xs.length ≤ 500000 := by omega
        have fl : ∀ S', fL true fList S' [.tup xs] = some (.lst true xs) := fun _ => rfl
        have g1 := add_tupB (xs.take at_) (xs.drop (at_ + 1)) (by simp; omega)
        have g2 := add_tupB xs ((xs.drop at_).take 1) (by simp; omega)
        have R1 : Td (k + 1) (2 * n + 700) (.tup (xs.take at_ ++ xs.drop (at_ + 1))) := (((Ta.mono (k' := k) (by omega) (Nat.le_refl _)).app (Tc.mono (k' := k) (by omega) (Nat.le_refl _)))).tup.mono (by omega) (by omega)
        have R2 : Td (k + 1) (2 * n + 700) (.lst false xs) := Ts.lst.mono (by omega) (by omega)
        have R3 : Td (k + 1) (2 * n + 700) (.tup (xs ++ (xs.drop at_).take 1)) := (Ts.app ((Ts.drop at_).take 1)).tup.mono (by omega) (by omega)
        have sb : oSub (.int way) (.int 4) = some (.int ((way - 4 : Nat) : Int)) := a_sub (a := way) (b := 4) (by omega)
        obtain ⟨w, hw3⟩ : ∃ w, way - 4 = w := ⟨_, rfl⟩
        rw [hw3] at sb
        have i1 := fun S' => ix_l S' false [.tup (xs.take at_ ++ xs.drop (at_ + 1)), .lst false xs, .tup (xs ++ (xs.drop at_).take 1)] w
        have hw5 : w = 0 ∨ w = 1 ∨ w = 2 := by omega
        obtain ⟨d, hd, R⟩ : ∃ d, ([.tup (xs.take at_ ++ xs.drop (at_ + 1)), .lst false xs, .tup (xs ++ (xs.drop at_).take 1)] : List AV)[w]? = some d ∧ Td (k + 1) (2 * n + 700) d := by
          rcases hw5 with rfl | rfl | rfl
          · exact ⟨_, rfl, R1⟩
          · exact ⟨_, rfl, R2⟩
          · exact ⟨_, rfl, R3⟩
        rw [hd] at i1
        have imd := R.imm
        have K2 := kk _ S2 R D2 (f1.tr f2)
        simp (implicitDefEqProofs := false) [-k_sSeq, Ss.wipe, -k_sTry, lt4, oPart, asI, st, ad1, sf, sm, g1, g2, fl, sb, i1, imd]
        exact K2
    · have ht' : isT "tuple" x = false := by simpa using ht
      refine wpS ?_
      simp (implicitDefEqProofs := false) [-k_sSeq, Ss.wipe, -k_sTry, ok, ht']
      refine wpS (wp_of (a := .nx) (s := ⟨[.im (.loc l), .im x, .im (.int way), .im (.lst false oddS), .no], S1⟩) (by kernel_rfl) ?_)
      rw [afS_nx]
      simp (implicitDefEqProofs := false) [-k_sSeq, Ss.wipe, -k_sTry]
      refine wpC (w_choice D1 (by omega) (by omega) fun r S2 hr D2 f2 => ?_)
      have i1 := ix_l S2 false oddS r
      obtain ⟨d, e⟩ : ∃ d, oddS[r]? = some d := ⟨_, List.getElem?_eq_getElem (by rw [oddS_len]; omega)⟩
      rw [e] at i1
      have hd := oddS_td d (List.mem_of_getElem? e)
      have im := hd.imm
      generalize oddS = L at *
      simp (implicitDefEqProofs := false) [-k_sSeq, Ss.wipe, -k_sTry, i1, im]
      exact kk d S2 (hd.mono (by omega) (by omega)) D2 (f1.tr f2)
theorem w_bent {k n : Nat} {x : AV} (T : Td k n x) (hk : k ≤ 5) (hn : n ≤ 1000000) (hD : Dr S l) (kk : ∀ d S', Td 6 (2 * n + 700) d → Dr S' l → Fr [l] S S' → Q d S') : WpR (m__law_bent [.loc l, x] S) Q E :=
  w_bentR 6 T (by omega) (by omega) hn hD (fun d S' h => kk d S' (h.mono (by omega) (Nat.le_refl _)))
end
end Fk
-- base: k05
/-! ## law k05 -/
namespace Fk
open PySem PySem.Spec PyProof.Rows L2
theorem add_lstV (xs ys : List AV) (h : xs.length + ys.length ≤ 1000) : oAdd (.lst false xs) (.lst false ys) = some (.lst false (xs ++ ys)) := by
  have e : oAdd (.lst false xs) (.lst false ys) = if xs.length + ys.length ≤ 16777216 then some (.lst false (xs ++ ys)) else none := rfl
  rw [e, if_pos (by omega)]
theorem x_sameV {S : List AV} {x : AV} {k n : Nat} (h : Sh k n x) (hk : k ≤ 60) (hn : n ≤ 16000000) (hi : imm x = true) : m__law_same [x, x] S = .ok (.bl true) S := by
  have fr := fRepr_ok (S := S) h hk hn
  have q : ∀ z : Str, oEq (.str z) (.str z) = some (.bl true) := fun z => by simp [oEq, eqA]
  unfold m__law_same
  rw [fnM_ret]
  generalize (dat x).shown = z at fr
  simp (implicitDefEqProofs := false) [fr, q]
def Tgh (x : AV) : Prop := Td 6 100000 x ∨ isMtD x
theorem rp_mt {x : AV} (h : isMtD x) : ∃ t : Str, ∀ S, fRepr S [x] = some (.str t) := by
  rcases h with rfl | rfl
  · exact ⟨"{}", fun _ => by kernel_rfl⟩
  · exact ⟨"{0: 1}", fun _ => by kernel_rfl⟩
theorem Tgh.rp {x : AV} (h : Tgh x) : ∃ t : Str, ∀ S, fRepr S [x] = some (.str t) := by
  rcases h with h | h
  · exact ⟨_, fun S => fRepr_ok h.sh (by omega) (by omega)⟩
  · exact rp_mt h
theorem Tgh.imm {x : AV} (h : Tgh x) : imm x = true := h.elim Td.imm imm_isMt
theorem td_app {L1 L2 : List AV} (h1 : ∀ x ∈ L1, Tgh x) (h2 : ∀ x ∈ L2, Tgh x) : ∀ x ∈ L1 ++ L2, Tgh x := fun x hx => (List.mem_append.mp hx).elim (h1 x) (h2 x)
theorem tg_of {k n : Nat} {x : AV} (h : Td k n x) (hk : k ≤ 6) (hn : n ≤ 100000) : Tgh x := .inl (h.mono hk hn)
theorem tg_all {L : List AV} (h : L.all (tdB 6 100000) = true) : ∀ x ∈ L, Tgh x := fun x hx => .inl (tdB_all h x hx)
theorem td_int {i : Int} (h : i.natAbs < 2 ^ 128) : Td 0 129 (.int i) := ⟨by simpa [gd] using h, by simp [dpt], by simp [wt]⟩
section
variable {S : List AV} {l : Nat} {Q : AV → List AV → Prop} {E : Str → List AV → Prop}
end
end Fk
-- base: k09
/-! ## weathers known of anything -/
namespace Fk
open PySem PySem.Spec PyProof.Rows L2
/-- a fault, a row, a weather -/
def isFl : AV → Bool
  | .tup [.str z] => decide (z = "cut") || decide (z = "bad")
  | .tup [.str z, y] => decide (z = "bit") && wI y 46
  | _ => false
def isR2 : AV → Bool
  | .tup [_, _] => true
  | _ => false
def r0 : AV → AV
  | .tup (a :: _) => a
  | _ => .non
def r1 : AV → AV
  | .tup (_ :: f :: _) => f
  | _ => .non
def rowW (x : AV) : Bool := isR2 x && (wI (r0 x) 9999 && isFl (r1 x))
def upI : List Int → Bool
  | a :: b :: r => decide (a < b) && upI (b :: r)
  | _ => true
def isW : AV → Bool
  | .tup xs => decide (xs.length ≤ 40) && (xs.all rowW && upI (xs.map fun x => iv (r0 x)))
  | _ => false
def cutB : AV → Str → Bool
  | .tup [.str y], z => decide (y = z)
  | _, _ => false
def bitB : AV → Bool
  | .tup [.str z, y] => decide (z = "bit") && wI y 46
  | _ => false
theorem upI_pw : ∀ {ns : List Int}, upI ns = true ↔ ns.Pairwise (· < ·)
  | [] => by simp [upI]
  | [a] => by simp [upI]
  | a :: b :: r => by
    simp only [upI, Bool.and_eq_true, decide_eq_true_eq, upI_pw (ns := b :: r)]
    constructor
    · rintro ⟨h1, h2⟩
      refine List.pairwise_cons.mpr ⟨fun z hz => ?_, h2⟩
      rcases List.mem_cons.mp hz with rfl | hz
      · exact h1
      · have := (List.pairwise_cons.mp h2).1 z hz; omega
    · intro h
      obtain ⟨h1, h2⟩ := List.pairwise_cons.mp h
      exact ⟨h1 b (by simp), h2⟩
theorem upI_srt (ns : List Int) : upI ns = decide (ns = srtU ns) := by
  rw [Bool.eq_iff_iff, upI_pw, decide_eq_true_eq]
  constructor
  · intro h
    exact up_uniq h (srtU_up ns) fun k => (srtU_mem k ns).symm
  · intro h
    rw [h]
    exact srtU_up ns
theorem upI_zip : ∀ ns : List Int, upI ns = (ns.zip (ns.drop 1)).all fun p => decide (p.1 < p.2)
  | [] => rfl
  | [a] => rfl
  | a :: b :: r => by
    show (decide (a < b) && upI (b :: r)) = _
    rw [upI_zip (b :: r)]
    rfl
section
variable {S : List AV} {x : AV} {xs : List AV} {k n : Nat}
theorem x_risesA {ns : List Int} (hl : ns.length ≤ 1000) : m_rises [.lst false (ns.map AV.int)] S = .ok (.bl (upI ns)) S := by
  have ez : zipA [.lst false (ns.map AV.int), .lst false ((ns.map AV.int).drop 1)] = some ((ns.zip (ns.drop 1)).map fun p => AV.tup [.int p.1, .int p.2]) := by
    show some (zipL _ _) = _
    rw [← List.map_drop, zipL_ints]
  have es := sl_one false (ns.map AV.int)
  have zl : (ns.zip (ns.drop 1)).length ≤ 1000 := by simp; omega
  rw [upI_zip]
  generalize (ns.map AV.int).drop 1 = ys at es ez
  generalize ns.map AV.int = xs at es ez ⊢
  generalize ns.zip (ns.drop 1) = zs at ez zl
  refine wp_eq ?_
  unfold m_rises
  refine wpF ?_
  simp (implicitDefEqProofs := false) [-k_sSeq, Ss.wipe, -k_sTry, oPart, asI, es, ez, Ss.wipe, wipeSl]
  refine wpB (wpL (fun _ => true) (fun d => match d with
    | .tup [.int a, .int b] => .bl (decide (a < b))
    | _ => .non) (fun d hd => ?_) (by simp; omega) ?_)
  · obtain ⟨p, hp, rfl⟩ := List.mem_map.mp hd
    refine ⟨_, rfl, ?_⟩
    simp (implicitDefEqProofs := false) [-k_sSeq, Ss.wipe, -k_sTry, oLt, Ss.wipe, wipeSl]
  · have c1 : (((zs.map fun p => AV.tup [.int p.1, .int p.2]).filter fun _ => true).map fun d => (match d with
      | .tup [.int a, .int b] => AV.bl (decide (a < b))
      | _ => .non)) = (zs.map fun p => decide (p.1 < p.2)).map AV.bl := by
      rw [filter_tt, List.map_map, List.map_map]
      rfl
    rw [c1]
    have fa := fun S' => f_all S' false (zs.map fun p => decide (p.1 < p.2))
    have e2 : ((zs.map fun p => decide (p.1 < p.2)).all id) = zs.all fun p => decide (p.1 < p.2) := by rw [List.all_map]; rfl
    rw [e2] at fa
    generalize (zs.map fun p => decide (p.1 < p.2)).map AV.bl = L at fa ⊢
    simp (implicitDefEqProofs := false) [-k_sSeq, Ss.wipe, -k_sTry, fa]
/-- == with ("cut",), ("bad",) -/
theorem eq_t1' (h : Td k n x) (hk : k ≤ 50) (z : Str) (hz : PyData.strOk z = true) : oEq x (.tup [.str z]) = some (.bl (cutB x z)) := by
  have o1 := h.sh.okA (by omega)
  have o2 : okA (.tup [.str z]) = true := (sh_tup (shs_cons (sh_str (k := 0) hz) shs_nil)).okA (by omega)
  have e : eqA x (.tup [.str z]) = if okA x && okA (.tup [.str z]) then some (PyData.eqv (dat x) (dat (.tup [.str z]))) else none := by
    cases x <;> rfl
  unfold oEq
  rw [e, o1, o2]
  simp only [Bool.and_self, if_pos, Option.map_some]
  congr 2
  have g := h.g
  cases x with
  | tup xs =>
    match xs with
    | [] => simp [cutB, dat, dats, PyData.eqv, PyData.eqvAll]
    | [.str y] =>
      simp only [cutB, dat, dats, PyData.eqv, PyData.eqvAll, Bool.and_true]
      by_cases c : y = z
      · subst c; simp
      · simp [c]
    | [.non] => simp [cutB, dat, dats, PyData.eqv, PyData.eqvAll]
    | [.bl _] => simp [cutB, dat, dats, PyData.eqv, PyData.eqvAll]
    | [.int _] => simp [cutB, dat, dats, PyData.eqv, PyData.eqvAll]
    | [.tup _] => simp [cutB, dat, dats, PyData.eqv, PyData.eqvAll]
    | [.lst _ _] => simp [cutB, dat, dats, PyData.eqv, PyData.eqvAll]
    | a :: b :: r => cases a <;> simp [cutB, dat, dats, PyData.eqv, PyData.eqvAll]
    | [.dct _ _ _] => simp [gd, gds] at g
    | [.scr _] => simp [gd, gds] at g
    | [.nst _] => simp [gd, gds] at g
    | [.ndc _ _] => simp [gd, gds] at g
    | [.ins _ _ _] => simp [gd, gds] at g
    | [.loc _] => simp [gd, gds] at g
    | [.ded] => simp [gd, gds] at g
    | [.set _] => simp [gd, gds] at g
    | [.tud _] => simp [gd, gds] at g
  | _ => first | (simp [gd] at g; done) | simp [cutB, dat, dats, PyData.eqv]
theorem isFl_cut (h : cutB x "cut" = true ∨ cutB x "bad" = true) : isFl x = true := by
  unfold cutB at h
  split at h
  · rename_i y
    simpa [isFl] using h
  · simp at h
/-- what is no ("cut",), no ("bad",) -/
theorem isFl_2 (h1 : cutB x "cut" = false) (h2 : cutB x "bad" = false) : isFl x = bitB x := by
  cases x with
  | tup xs =>
    match xs with
    | [] => rfl
    | [a] =>
      cases a with
      | str y =>
        have h1' : decide (y = "cut") = false := h1
        have h2' : decide (y = "bad") = false := h2
        show (decide (y = "cut") || decide (y = "bad")) = false
        rw [h1', h2']
        rfl
      | _ => rfl
    | [a, b] => cases a <;> rfl
    | a :: b :: c :: r => cases a <;> rfl
  | _ => rfl
theorem sub47 : oSub (.int 47) (.int 1) = some (.int 46) := rfl
theorem x_is_faultA (h : Td k n x) (hk : k ≤ 50) : m_is_fault [x] S = .ok (.bl (isFl x)) S := by
  have ok := h.okT
  have im := h.imm
  have q1 := eq_t1' h hk "cut" (by decide +kernel)
  have q2 := eq_t1' h hk "bad" (by decide +kernel)
  cases c1 : cutB x "cut" with
  | true =>
    rw [c1] at q1
    rw [isFl_cut (.inl c1)]
    unfold m_is_fault
    rw [fnM_ret]
    simp (implicitDefEqProofs := false) [q1, asB]
  | false =>
    cases c2 : cutB x "bad" with
    | true =>
      rw [c1] at q1
      rw [c2] at q2
      rw [isFl_cut (.inr c2)]
      unfold m_is_fault
      rw [fnM_ret]
      simp (implicitDefEqProofs := false) [q1, q2, asB]
    | false =>
      rw [c1] at q1
      rw [c2] at q2
      rw [isFl_2 c1 c2]
      cases x with
      | tup xs =>
        obtain ⟨_, _, T⟩ := h.tup
        by_cases hl : xs.length = 2
        · obtain ⟨a, y, rfl⟩ : ∃ a b, xs = [a, b] := by
            match xs, hl with
            | [a, b], _ => exact ⟨a, b, rfl⟩
          have ta := T.mem a (by simp)
          have ty := T.mem y (by simp)
          have n2 : oNe (.int 2) (.int 2) = some (.bl false) := by kernel_rfl
          have lX : ∀ S', fLen S' [.tup [a, y]] = some (.int 2) := fun _ => rfl
          have i0 : ∀ S', ixA S' (.tup [a, y]) (.int 0) = some a := fun S' => ix_t S' _ 0
          have i1 : ∀ S', ixA S' (.tup [a, y]) (.int 1) = some y := fun S' => ix_t S' _ 1
          have ima := ta.imm
          have imy := ty.imm
          have oka := ta.okT
          have w := x_withinA (S := S) ty.okT 46
          have it : isT "tuple" (.tup [a, y]) = true := rfl
          by_cases hs : isT "str" a = true
          · obtain ⟨z, rfl⟩ : ∃ z, a = .str z := by
              cases a <;> first | exact ⟨_, rfl⟩ | (simp [isT] at hs)
            have nz := nes z "bit"
            have oks : okT (.str z) = true := rfl
            have eb : bitB (.tup [.str z, y]) = (decide (z = "bit") && wI y 46) := rfl
            rw [eb]
            unfold m_is_fault
            rw [fnM_ret]
            generalize AV.tup [.str z, y] = X at *
            cases c3 : decide (z = "bit") with
            | true =>
              rw [c3] at nz
              simp (implicitDefEqProofs := false) [q1, q2, ok, it, lX, n2, i0, i1, nz, asB, i_str, imy, sub47, w, oks]
            | false =>
              rw [c3] at nz
              simp (implicitDefEqProofs := false) [q1, q2, ok, it, lX, n2, i0, i1, nz, asB, i_str, imy, sub47, w, oks]
          · have hs' : isT "str" a = false := by simpa using hs
            have eb : bitB (.tup [a, y]) = false := by
              cases a <;> first | rfl | (simp [isT] at hs)
            rw [eb]
            unfold m_is_fault
            rw [fnM_ret]
            generalize AV.tup [a, y] = X at *
            simp (implicitDefEqProofs := false) [q1, q2, ok, it, lX, n2, i0, i1, asB, ima, oka, hs']
        · have ln := ln_tup xs
          have nl := nei xs.length 2
          rw [decide_eq_false (by omega)] at nl
          have it : isT "tuple" (.tup xs) = true := rfl
          have e : bitB (.tup xs) = false := by
            match xs, hl with
            | [], _ => rfl
            | [a], _ => cases a <;> rfl
            | [_, _], h => exact absurd rfl h
            | a :: _ :: _ :: _, _ => cases a <;> rfl
          rw [e]
          unfold m_is_fault
          rw [fnM_ret]
          generalize AV.tup xs = X at *
          simp (implicitDefEqProofs := false) [q1, q2, ok, it, ln, nl, asB]
      | _ =>
        first
          | (have := h.g; simp [gd] at this; done)
          | (unfold m_is_fault
             rw [fnM_ret]
             simp (implicitDefEqProofs := false) [q1, q2, okT, isT, asB, bitB])
end
end Fk
-- base: k09
/-! ## weathers known of anything, by the program and by the law -/
namespace Fk
open PySem PySem.Spec PyProof.Rows L2
theorem inA_eq (x a b : AV) (hx : okA x = true) (hab : okA (.tup [a, b]) = true) : oIn x (.tup [a, b]) = some (.bl (PyData.eqv (dat a) (dat x) || PyData.eqv (dat b) (dat x))) := by
  have e : inA x (.tup [a, b]) = if okA x && okA (.tup [a, b]) then some ((dats [a, b]).any fun w => PyData.eqv w (dat x)) else none := by
    cases x <;> rfl
  unfold oIn
  rw [e, hx, hab]
  simp [dats]
theorem eqv_comm1 {x : AV} {k n : Nat} (h : Td k n x) (z : Str) : PyData.eqv (dat (.tup [.str z])) (dat x) = cutB x z := by
  have g := h.g
  cases x with
  | tup xs =>
    match xs with
    | [] => simp [cutB, dat, dats, PyData.eqv, PyData.eqvAll]
    | [.str y] =>
      simp only [cutB, dat, dats, PyData.eqv, PyData.eqvAll, Bool.and_true]
      by_cases c : y = z
      · subst c; simp
      · have c2 : ¬ z = y := fun e => c e.symm
        simp [c, c2]
    | [.non] => simp [cutB, dat, dats, PyData.eqv, PyData.eqvAll]
    | [.bl _] => simp [cutB, dat, dats, PyData.eqv, PyData.eqvAll]
    | [.int _] => simp [cutB, dat, dats, PyData.eqv, PyData.eqvAll]
    | [.tup _] => simp [cutB, dat, dats, PyData.eqv, PyData.eqvAll]
    | [.lst _ _] => simp [cutB, dat, dats, PyData.eqv, PyData.eqvAll]
    | a :: b :: r => cases a <;> simp [cutB, dat, dats, PyData.eqv, PyData.eqvAll]
    | [.dct _ _ _] => simp [gd, gds] at g
    | [.scr _] => simp [gd, gds] at g
    | [.nst _] => simp [gd, gds] at g
    | [.ndc _ _] => simp [gd, gds] at g
    | [.ins _ _ _] => simp [gd, gds] at g
    | [.loc _] => simp [gd, gds] at g
    | [.ded] => simp [gd, gds] at g
    | [.set _] => simp [gd, gds] at g
    | [.tud _] => simp [gd, gds] at g
  | _ => first | (simp [gd] at g; done) | simp [cutB, dat, dats, PyData.eqv]
section
variable {S : List AV} {x : AV} {xs : List AV} {k n : Nat}
/-- a first place that is no text isn't a text's -/
theorem ne_bit (h : Td k n x) (hk : k ≤ 50) : oNe x (.str "bit") = some (.bl (match x with
    | .str z => !decide (z = "bit")
    | _ => true)) := by
  by_cases hs : isT "str" x = true
  · obtain ⟨z, rfl⟩ : ∃ z, x = .str z := by
      cases x <;> first | exact ⟨_, rfl⟩ | (simp [isT] at hs)
    exact nes z "bit"
  · have hs' : isT "str" x = false := by simpa using hs
    have e := eq_str h hk hs' "bit" (by decide +kernel)
    have e2 : oNe x (.str "bit") = some (.bl true) := by
      unfold oEq at e
      unfold oNe
      obtain ⟨b, eb, ec⟩ := Option.map_eq_some_iff.mp e
      rw [eb]
      cases ec
      rfl
    rw [e2]
    cases x <;> first | rfl | (simp [isT] at hs)
theorem x_law_faultA (h : Td k n x) (hk : k ≤ 50) : m__law_is_fault [x] S = .ok (.bl (isFl x)) S := by
  have ok := h.okT
  have im := h.imm
  have q := inA_eq x (.tup [.str "cut"]) (.tup [.str "bad"]) (h.sh.okA (by omega)) (by decide +kernel)
  rw [eqv_comm1 h, eqv_comm1 h] at q
  cases c1 : (cutB x "cut" || cutB x "bad") with
  | true =>
    rw [c1] at q
    rw [isFl_cut (by simpa using c1)]
    unfold m__law_is_fault
    rw [fnM_ret]
    simp (implicitDefEqProofs := false) [q, im]
  | false =>
    rw [c1] at q
    simp only [Bool.or_eq_false_iff] at c1
    rw [isFl_2 c1.1 c1.2]
    cases x with
    | tup xs =>
      obtain ⟨_, _, T⟩ := h.tup
      by_cases hl : xs.length = 2
      · obtain ⟨a, y, rfl⟩ : ∃ a b, xs = [a, b] := by
          match xs, hl with
          | [a, b], _ => exact ⟨a, b, rfl⟩
        have ta := T.mem a (by simp)
        have ty := T.mem y (by simp)
        have n2 : oNe (.int 2) (.int 2) = some (.bl false) := by kernel_rfl
        have lX : ∀ S', fLen S' [.tup [a, y]] = some (.int 2) := fun _ => rfl
        have i0 : ∀ S', ixA S' (.tup [a, y]) (.int 0) = some a := fun S' => ix_t S' _ 0
        have i1 : ∀ S', ixA S' (.tup [a, y]) (.int 1) = some y := fun S' => ix_t S' _ 1
        have ima := ta.imm
        have imy := ty.imm
        have w := x_wholeA (S := S) ty.okT
        have it : isT "tuple" (.tup [a, y]) = true := rfl
        have nz := ne_bit ta (by omega)
        have im0 : imm (.int 0) = true := rfl
        by_cases hs : ∃ z, a = .str z ∧ z = "bit"
        · obtain ⟨z, rfl, rfl⟩ := hs
          have eb : bitB (.tup [.str "bit", y]) = wI y 46 := by
            show (decide (("bit" : Str) = "bit") && wI y 46) = _
            rw [decide_eq_true rfl, Bool.true_and]
          rw [eb]
          have nz2 : oNe (.str "bit") (.str "bit") = some (.bl false) := by kernel_rfl
          unfold m__law_is_fault
          rw [fnM_ret]
          generalize hX : AV.tup [.str "bit", y] = X at *
          cases c2 : isI y with
          | false =>
            rw [c2] at w
            have : wI y 46 = false := by
              cases y <;> first | rfl | cases c2
            rw [this]
            simp (implicitDefEqProofs := false) [q, ok, it, lX, n2, i0, i1, nz2, asB, imy, w, im]
          | true =>
            rw [c2] at w
            obtain ⟨i, rfl⟩ : ∃ i, y = .int i := ⟨_, isI_int c2⟩
            have e46 : wI (.int i) 46 = (decide (0 ≤ i) && decide (i < 47)) := by
              show (decide (0 ≤ i) && decide (i ≤ 46)) = _
              congr 1
              rw [decide_eq_decide]
              omega
            rw [e46]
            have l1 : oLe (.int 0) (.int i) = some (.bl (decide (0 ≤ i))) := rfl
            have l2 : oLt (.int i) (.int 47) = some (.bl (decide (i < 47))) := rfl
            generalize decide (0 ≤ i) = u1 at *
            generalize decide (i < 47) = u2 at *
            cases u1 <;> cases u2 <;> simp (implicitDefEqProofs := false) [q, ok, it, lX, n2, i0, i1, nz2, asB, w, im, l1, l2]
        · have eb : bitB (.tup [a, y]) = false := by
            cases a with
            | str z =>
              show (decide (z = "bit") && wI y 46) = false
              rw [decide_eq_false fun e => hs ⟨z, rfl, e⟩, Bool.false_and]
            | _ => rfl
          have nz2 : oNe a (.str "bit") = some (.bl true) := by
            rw [nz]
            cases a with
            | str z =>
              show some (AV.bl (!decide (z = "bit"))) = _
              rw [decide_eq_false fun e => hs ⟨z, rfl, e⟩]
              rfl
            | _ => rfl
          rw [eb]
          unfold m__law_is_fault
          rw [fnM_ret]
          generalize hX : AV.tup [a, y] = X at *
          simp (implicitDefEqProofs := false) [q, ok, it, lX, n2, i0, i1, nz2, asB, ima, im]
      · have ln := ln_tup xs
        have nl := nei xs.length 2
        rw [decide_eq_false (by omega)] at nl
        have it : isT "tuple" (.tup xs) = true := rfl
        have e : bitB (.tup xs) = false := by
          match xs, hl with
          | [], _ => rfl
          | [a], _ => cases a <;> rfl
          | [_, _], h => exact absurd rfl h
          | a :: _ :: _ :: _, _ => cases a <;> rfl
        rw [e]
        unfold m__law_is_fault
        rw [fnM_ret]
        generalize AV.tup xs = X at *
        simp (implicitDefEqProofs := false) [q, ok, it, ln, nl, asB, im]
    | _ =>
      first
        | (have := h.g; simp [gd] at this; done)
        | (unfold m__law_is_fault
           rw [fnM_ret]
           simp (implicitDefEqProofs := false) [q, okT, isT, asB, bitB])
/-! rows -/
theorem isR2_of (h : Td k n x) : okT x = true ∧ imm x = true ∧ (isR2 x = true → ∃ a f, x = .tup [a, f] ∧ Td k n a ∧ Td k n f) ∧ (isR2 x = false → isT "tuple" x = false ∨ ∃ ys, x = .tup ys ∧ ys.length ≠ 2) := by
  refine ⟨h.okT, h.imm, fun e => ?_, fun e => ?_⟩
  · cases x with
    | tup ys =>
      match ys, e with
      | [a, f], _ =>
        obtain ⟨_, _, T⟩ := h.tup
        exact ⟨a, f, rfl, (T.mem a (by simp)).mono (by omega) (by omega), (T.mem f (by simp)).mono (by omega) (by omega)⟩
    | _ => cases e
  · cases x with
    | tup ys =>
      refine .inr ⟨ys, rfl, fun hl => ?_⟩
      match ys, hl with
      | [a, f], _ => cases e
    | _ => exact .inl rfl
def bR (p : AV → Bool) (x : AV) : AV := .bl (p x)
theorem all_bR (p : AV → Bool) (xs : List AV) (S : List AV) : fAll S [.lst false ((xs.filter fun _ => true).map (bR p))] = some (.bl (xs.all p)) := by
  have e : (xs.filter fun _ => true).map (bR p) = (xs.map p).map AV.bl := by
    rw [filter_tt, List.map_map]
    rfl
  rw [e, f_all, List.all_map]
  rfl
theorem isW_f1 (h : xs.all isR2 = false) : isW (.tup xs) = false := by
  show (decide (xs.length ≤ 40) && (xs.all rowW && _)) = false
  have : xs.all rowW = false := by
    rw [Bool.eq_false_iff]
    intro q
    rw [Bool.eq_false_iff] at h
    refine h (List.all_eq_true.mpr fun y hy => ?_)
    have := List.all_eq_true.mp q y hy
    unfold rowW at this
    exact (Bool.and_eq_true_iff.mp this).1
  rw [this, Bool.false_and, Bool.and_false]
def rowV (x : AV) : Bool := wI (r0 x) 9999 && isFl (r1 x)
theorem all_rowV (h : xs.all isR2 = true) : xs.all rowW = xs.all rowV := by
  rw [Bool.eq_iff_iff, List.all_eq_true, List.all_eq_true]
  have h2 := List.all_eq_true.mp h
  constructor
  · intro q y hy
    have := q y hy
    unfold rowW at this
    rw [h2 y hy, Bool.true_and] at this
    exact this
  · intro q y hy
    unfold rowW
    rw [h2 y hy, Bool.true_and]
    exact q y hy
theorem gt40 (n : Nat) : oGt (.int n) (.int 40) = some (.bl (!decide (n ≤ 40))) := by
  show some (AV.bl (decide ((40 : Int) < n))) = _
  congr 2
  by_cases h : n ≤ 40
  · simp [h]; omega
  · simp [h]; omega
theorem x_is_weatherA (h : Td k n x) (hk : k ≤ 50) : m_is_weather [x] S = .ok (.bl (isW x)) S := by
  have ok := h.okT
  have im := h.imm
  by_cases ht : isT "tuple" x = true
  · obtain ⟨xs, rfl⟩ : ∃ xs, x = .tup xs := by
      cases x <;> first | exact ⟨_, rfl⟩ | (simp [isT] at ht)
    obtain ⟨_, _, T⟩ := h.tup
    have ln := ln_tup xs
    have g := gt40 xs.length
    by_cases hl : xs.length ≤ 40
    rotate_left
    · rw [decide_eq_false hl] at g
      have e : isW (.tup xs) = false := by
        show (decide (xs.length ≤ 40) && _) = false
        rw [decide_eq_false hl, Bool.false_and]
      rw [e]
      unfold m_is_weather
      rw [fnM_ret]
      generalize AV.tup xs = X at *
      simp (implicitDefEqProofs := false) [ok, ht, ln, g, asB]
    rw [decide_eq_true hl] at g
    have hT : ∀ d ∈ xs, Td k n d := fun d hd => (T.mem d hd).mono (by omega) (by omega)
    have itm : itemsOf (.tup xs) = some xs := rfl
    have a1 := all_bR isR2 xs
    have a2 := all_bR rowV xs
    have n2 : oEq (.int 2) (.int 2) = some (.bl true) := by kernel_rfl
    refine wp_eq ?_
    unfold m_is_weather
    refine wpF ?_
    have eW : isW (.tup xs) = (decide (xs.length ≤ 40) && (xs.all rowW && upI (xs.map fun x => iv (r0 x)))) := rfl
    have eF := isW_f1 (xs := xs)
    generalize hX : AV.tup xs = X at ln itm ok ht im eW eF
    refine wpS ?_
    simp (implicitDefEqProofs := false) [-k_sSeq, Ss.wipe, -k_sTry, ok, ht, ln, g, asB]
    refine wpS ?_
    simp (implicitDefEqProofs := false) [-k_sSeq, Ss.wipe, -k_sTry, itm]
    refine wpB (wpL (fun _ => true) (bR isR2) (fun d hd => ?_) (by omega) ?_)
    · obtain ⟨okd, imd, h1, h2⟩ := isR2_of (hT d hd)
      refine ⟨_, rfl, ?_⟩
      cases c : isR2 d with
      | true =>
        obtain ⟨a, f, rfl, _, _⟩ := h1 c
        have lX : ∀ S', fLen S' [.tup [a, f]] = some (.int 2) := fun _ => rfl
        have it : isT "tuple" (.tup [a, f]) = true := rfl
        have eb : bR isR2 (.tup [a, f]) = .bl true := rfl
        rw [eb]
        generalize AV.tup [a, f] = Y at *
        simp (implicitDefEqProofs := false) [-k_sSeq, Ss.wipe, -k_sTry, okd, it, lX, n2, Ss.wipe, wipeSl, asB]
      | false =>
        have eb : bR isR2 d = .bl false := by unfold bR; rw [c]
        rw [eb]
        rcases h2 c with z | ⟨ys, rfl, hy⟩
        · simp (implicitDefEqProofs := false) [-k_sSeq, Ss.wipe, -k_sTry, okd, z, Ss.wipe, wipeSl, asB]
        · have ly := ln_tup ys
          have ny := eqi ys.length 2
          rw [decide_eq_false (by omega)] at ny
          have it : isT "tuple" (.tup ys) = true := rfl
          generalize AV.tup ys = Y at *
          simp (implicitDefEqProofs := false) [-k_sSeq, Ss.wipe, -k_sTry, okd, it, ly, ny, Ss.wipe, wipeSl, asB]
    generalize (xs.filter fun _ => true).map (bR isR2) = L1 at a1 ⊢
    cases cr : xs.all isR2 with
    | false =>
      rw [cr] at a1
      rw [eF cr]
      simp (implicitDefEqProofs := false) [-k_sSeq, Ss.wipe, -k_sTry, a1]
    | true =>
      rw [cr] at a1
      have hr := List.all_eq_true.mp cr
      rw [all_rowV cr, decide_eq_true hl, Bool.true_and] at eW
      simp (implicitDefEqProofs := false) [-k_sSeq, Ss.wipe, -k_sTry, a1]
      refine wpS ?_
      simp (implicitDefEqProofs := false) [-k_sSeq, Ss.wipe, -k_sTry, itm]
      refine wpB (wpL (fun _ => true) (bR rowV) (fun d hd => ?_) (by omega) ?_)
      · obtain ⟨okd, imd, h1, h2⟩ := isR2_of (hT d hd)
        obtain ⟨a, f, rfl, ta, tf⟩ := h1 (hr d hd)
        have w := x_withinA (S := S) ta.okT 9999
        have wf := x_is_faultA (S := S) tf hk
        have eb : bR rowV (.tup [a, f]) = .bl (wI a 9999 && isFl f) := rfl
        rw [eb]
        have ima := ta.imm
        have imf := tf.imm
        cases c1 : wI a 9999 with
        | true =>
          rw [c1] at w
          exact ⟨_, rfl, by simp (implicitDefEqProofs := false) [gT, gCons', gNil', gN, w, wf, ima, imf, Ss.wipe, wipeSl, asB]⟩
        | false =>
          rw [c1] at w
          exact ⟨_, rfl, by simp (implicitDefEqProofs := false) [gT, gCons', gNil', gN, w, wf, ima, imf, Ss.wipe, wipeSl, asB]⟩
      generalize (xs.filter fun _ => true).map (bR rowV) = L2 at a2 ⊢
      cases cv : xs.all rowV with
      | false =>
        rw [cv] at a2
        rw [cv, Bool.false_and] at eW
        rw [eW]
        simp (implicitDefEqProofs := false) [-k_sSeq, Ss.wipe, -k_sTry, a2]
      | true =>
        rw [cv] at a2
        rw [cv, Bool.true_and] at eW
        rw [eW]
        have hv := List.all_eq_true.mp cv
        have hi : ∀ d ∈ xs, r0 d = .int (iv (r0 d)) := fun d hd => by
          have := hv d hd
          unfold rowV at this
          exact wI_int (Bool.and_eq_true_iff.mp this).1
        have xr := x_risesA (S := S) (ns := xs.map fun x => iv (r0 x)) (by simp; omega)
        have em : (xs.filter fun _ => true).map r0 = (xs.map fun x => iv (r0 x)).map AV.int := by
          rw [filter_tt, List.map_map]
          exact List.map_congr_left fun d hd => hi d hd
        simp (implicitDefEqProofs := false) [-k_sSeq, Ss.wipe, -k_sTry, a2, itm]
        refine wpB (wpL (fun _ => true) r0 (fun d hd => ?_) (by omega) ?_)
        · obtain ⟨okd, imd, h1, h2⟩ := isR2_of (hT d hd)
          obtain ⟨a, f, rfl, ta, tf⟩ := h1 (hr d hd)
          have ima := ta.imm
          exact ⟨_, rfl, by simp (implicitDefEqProofs := false) [gT, gCons', gNil', gN, ima, Ss.wipe, wipeSl, r0]⟩
        · rw [em]
          generalize (xs.map fun x => iv (r0 x)).map AV.int = L3 at xr ⊢
          simp (implicitDefEqProofs := false) [-k_sSeq, Ss.wipe, -k_sTry, xr]
  · have ht' : isT "tuple" x = false := by simpa using ht
    have e : isW x = false := by
      cases x <;> first | rfl | (simp [isT] at ht)
    rw [e]
    unfold m_is_weather
    rw [fnM_ret]
    simp (implicitDefEqProofs := false) [ok, ht', asB]
end
end Fk
-- base: k09
/-! ## weathers known of anything, by the law -/
namespace Fk
open PySem PySem.Spec PyProof.Rows L2
section
variable {S : List AV} {x : AV} {xs : List AV} {k n : Nat}
/-- a row whose first place is whole -/
def rowI (x : AV) : Bool := isR2 x && isI (r0 x)
def noR (x : AV) : Bool := !rowI x
def rngI (x : AV) : Bool := match x with
  | .int i => decide (0 ≤ i) && decide (i < 10000)
  | _ => false
def noG (x : AV) : Bool := !rngI x
theorem ne_nilE (L : List AV) (hL : okA (.lst false L) = true) : oNe (.lst false L) (.lst false []) = some (.bl (!L.isEmpty)) := by
  have e : eqA (.lst false L) (.lst false []) = if okA (.lst false L) && okA (.lst false []) then some (PyData.eqv (dat (.lst false L)) (dat (.lst false []))) else none := rfl
  have o2 : okA (.lst false []) = true := by decide +kernel
  unfold oNe
  rw [e, hL, o2]
  cases L with
  | nil => rfl
  | cons a L => rfl
theorem filt_e {α : Type} (p : α → Bool) (xs : List α) : (xs.filter p).isEmpty = xs.all fun x => !p x := by
  induction xs with
  | nil => rfl
  | cons x xs ih =>
    rw [List.filter_cons]
    cases h : p x <;> simp [h, ih]
theorem ok_ints (ns : List Int) (h : ∀ i ∈ ns, i.natAbs < 2 ^ 128) : okA (.lst false (ns.map AV.int)) = true := by
  have s := sh_lst (o := false) (shs_all (k := 0) (n := 129) (xs := ns.map AV.int) fun x hx => by
    obtain ⟨i, hi, rfl⟩ := List.mem_map.mp hx
    exact sh_int (h i hi))
  exact s.okA (by omega)
theorem eqv_ints : ∀ (a b : List Int), PyData.eqv (dat (.lst false (a.map AV.int))) (dat (.lst false (b.map AV.int))) = decide (a = b) := by
  have key : ∀ (a b : List Int), PyData.eqvAll (dats (a.map AV.int)) (dats (b.map AV.int)) = decide (a = b) := by
    intro a
    induction a with
    | nil => intro b; cases b <;> simp [dats, PyData.eqvAll]
    | cons x a ih =>
      intro b
      cases b with
      | nil => simp [dats, PyData.eqvAll]
      | cons y b =>
        simp only [List.map_cons, dats, PyData.eqvAll, ih b, dat, PyData.eqv]
        by_cases h : x = y
        · subst h; simp
        · simp [h]
  intro a b
  simp only [dat, PyData.eqv]
  exact key a b
theorem ne_ints (a b : List Int) (ha : ∀ i ∈ a, i.natAbs < 2 ^ 128) (hb : ∀ i ∈ b, i.natAbs < 2 ^ 128) : oNe (.lst false (a.map AV.int)) (.lst false (b.map AV.int)) = some (.bl (!decide (a = b))) := by
  have e : eqA (.lst false (a.map AV.int)) (.lst false (b.map AV.int)) = if okA (.lst false (a.map AV.int)) && okA (.lst false (b.map AV.int)) then some (PyData.eqv (dat (.lst false (a.map AV.int))) (dat (.lst false (b.map AV.int)))) else none := rfl
  unfold oNe
  rw [e, ok_ints a ha, ok_ints b hb, eqv_ints]
  rfl
theorem isW_f2 (h : xs.all rowI = false) : isW (.tup xs) = false := by
  show (decide (xs.length ≤ 40) && (xs.all rowW && _)) = false
  have : xs.all rowW = false := by
    rw [Bool.eq_false_iff]
    intro q
    rw [Bool.eq_false_iff] at h
    refine h (List.all_eq_true.mpr fun y hy => ?_)
    have := List.all_eq_true.mp q y hy
    unfold rowW at this
    simp only [Bool.and_eq_true] at this
    unfold rowI
    rw [this.1, Bool.true_and]
    cases hr : r0 y with
    | int i => rfl
    | _ => rw [hr] at this; exact absurd this.2.1 (by simp [wI])
  rw [this, Bool.false_and, Bool.and_false]
theorem x_are_faultsA (h : Td k n x) (hk : k ≤ 50) : m__law_are_faults [x] S = .ok (.bl (isW x)) S := by
  have ok := h.okT
  have im := h.imm
  by_cases ht : isT "tuple" x = true
  · obtain ⟨xs, rfl⟩ : ∃ xs, x = .tup xs := by
      cases x <;> first | exact ⟨_, rfl⟩ | (simp [isT] at ht)
    obtain ⟨_, _, T⟩ := h.tup
    have ln := ln_tup xs
    have g := gt40 xs.length
    by_cases hl : xs.length ≤ 40
    rotate_left
    · rw [decide_eq_false hl] at g
      have e : isW (.tup xs) = false := by
        show (decide (xs.length ≤ 40) && _) = false
        rw [decide_eq_false hl, Bool.false_and]
      rw [e]
      unfold m__law_are_faults
      rw [fnM_ret]
      generalize AV.tup xs = X at *
      simp (implicitDefEqProofs := false) [ok, ht, ln, g, asB]
    rw [decide_eq_true hl] at g
    have hT : ∀ d ∈ xs, Td k n d := fun d hd => (T.mem d hd).mono (by omega) (by omega)
    have itm : itemsOf (.tup xs) = some xs := rfl
    have n2 : oNe (.int 2) (.int 2) = some (.bl false) := by kernel_rfl
    refine wp_eq ?_
    unfold m__law_are_faults
    refine wpF ?_
    have eW : isW (.tup xs) = (decide (xs.length ≤ 40) && (xs.all rowW && upI (xs.map fun x => iv (r0 x)))) := rfl
    have eF := isW_f2 (xs := xs)
    generalize hX : AV.tup xs = X at ln itm ok ht im eW eF
    refine wpS ?_
    simp (implicitDefEqProofs := false) [-k_sSeq, Ss.wipe, -k_sTry, ok, ht, ln, g, asB]
    refine wpS ?_
    simp (implicitDefEqProofs := false) [-k_sSeq, Ss.wipe, -k_sTry, itm]
    refine wpB (wpL noR (fun _ => .int 1) (fun d hd => ?_) (by omega) ?_)
    · obtain ⟨okd, imd, h1, h2⟩ := isR2_of (hT d hd)
      refine ⟨_, rfl, ?_⟩
      cases c : isR2 d with
      | true =>
        obtain ⟨a, f, rfl, ta, _⟩ := h1 c
        have lX : ∀ S', fLen S' [.tup [a, f]] = some (.int 2) := fun _ => rfl
        have it : isT "tuple" (.tup [a, f]) = true := rfl
        have i0 : ∀ S', ixA S' (.tup [a, f]) (.int 0) = some a := fun S' => ix_t S' _ 0
        have ima := ta.imm
        have w := x_wholeA (S := S) ta.okT
        have eb : noR (.tup [a, f]) = !isI a := rfl
        rw [eb]
        generalize AV.tup [a, f] = Y at *
        cases c2 : isI a with
        | true =>
          rw [c2] at w
          simp (implicitDefEqProofs := false) [-k_sSeq, Ss.wipe, -k_sTry, okd, it, lX, n2, i0, ima, w, Ss.wipe, wipeSl, asB]
        | false =>
          rw [c2] at w
          simp (implicitDefEqProofs := false) [-k_sSeq, Ss.wipe, -k_sTry, okd, it, lX, n2, i0, ima, w, Ss.wipe, wipeSl, asB]
      | false =>
        have eb : noR d = true := by unfold noR rowI; rw [c]; rfl
        rw [eb]
        rcases h2 c with z | ⟨ys, rfl, hy⟩
        · simp (implicitDefEqProofs := false) [-k_sSeq, Ss.wipe, -k_sTry, okd, z, Ss.wipe, wipeSl, asB]
        · have ly := ln_tup ys
          have ny := nei ys.length 2
          rw [decide_eq_false (by omega)] at ny
          have it : isT "tuple" (.tup ys) = true := rfl
          generalize AV.tup ys = Y at *
          simp (implicitDefEqProofs := false) [-k_sSeq, Ss.wipe, -k_sTry, okd, it, ly, ny, Ss.wipe, wipeSl, asB]
    have fe : (xs.filter noR).isEmpty = xs.all rowI := by
      rw [filt_e]
      congr 1
      funext y
      simp [noR]
    have nn := ne_nilE ((xs.filter noR).map fun _ => .int 1) (by
      have : (xs.filter noR).map (fun _ => AV.int 1) = ((xs.filter noR).map fun _ => (1 : Int)).map AV.int := by rw [List.map_map]; rfl
      rw [this]
      exact ok_ints _ fun i hi => by
        obtain ⟨_, _, rfl⟩ := List.mem_map.mp hi
        decide)
    rw [List.isEmpty_map, fe] at nn
    generalize (xs.filter noR).map (fun _ => AV.int 1) = L1 at nn ⊢
    cases cr : xs.all rowI with
    | false =>
      rw [cr] at nn
      rw [eF cr]
      simp (implicitDefEqProofs := false) [-k_sSeq, Ss.wipe, -k_sTry, nn]
    | true =>
      rw [cr] at nn
      have hr := List.all_eq_true.mp cr
      have hi : ∀ d ∈ xs, r0 d = .int (iv (r0 d)) ∧ isR2 d = true := fun d hd => by
        have := hr d hd
        unfold rowI at this
        obtain ⟨h1, h2⟩ := Bool.and_eq_true_iff.mp this
        exact ⟨isI_int h2, h1⟩
      have cr2 : xs.all isR2 = true := List.all_eq_true.mpr fun d hd => (hi d hd).2
      rw [all_rowV cr2, decide_eq_true hl, Bool.true_and] at eW
      have eV : xs.all rowV = ((xs.all fun d => rngI (r0 d)) && xs.all fun d => isFl (r1 d)) := by
        rw [Bool.eq_iff_iff, Bool.and_eq_true, List.all_eq_true, List.all_eq_true, List.all_eq_true]
        have e1 : ∀ d ∈ xs, wI (r0 d) 9999 = rngI (r0 d) := fun d hd => by
          rw [(hi d hd).1]
          show (decide _ && decide _) = (decide _ && decide _)
          congr 1
          rw [decide_eq_decide]
          omega
        constructor
        · intro q
          refine ⟨fun d hd => ?_, fun d hd => ?_⟩
          · have := q d hd
            unfold rowV at this
            rw [e1 d hd] at this
            exact (Bool.and_eq_true_iff.mp this).1
          · have := q d hd
            unfold rowV at this
            exact (Bool.and_eq_true_iff.mp this).2
        · rintro ⟨q1, q2⟩ d hd
          unfold rowV
          rw [e1 d hd, q1 d hd, q2 d hd]
          rfl
      have em : (xs.filter fun _ => true).map r0 = (xs.map fun x => iv (r0 x)).map AV.int := by
        rw [filter_tt, List.map_map]
        exact List.map_congr_left fun d hd => (hi d hd).1
      have hb : ∀ i ∈ xs.map fun x => iv (r0 x), i.natAbs < 2 ^ 128 := fun i hi2 => by
        obtain ⟨d, hd, rfl⟩ := List.mem_map.mp hi2
        obtain ⟨a, f, rfl, ta, _⟩ := (isR2_of (hT d hd)).2.2.1 (hi d hd).2
        have g := ta.g
        obtain ⟨i, rfl⟩ : ∃ i, a = .int i := ⟨_, (hi _ hd).1⟩
        show i.natAbs < 2 ^ 128
        simpa [gd] using g
      have ll : (xs.map fun x => iv (r0 x)).length ≤ 40 := by simpa using hl
      have fs : fSrS (.lst false ((xs.map fun x => iv (r0 x)).map AV.int)) = some (.lst false ((srtU (xs.map fun x => iv (r0 x))).map AV.int)) := by
        show ((asIs _).bind fun ns => if ns.length < 64 then some (AV.lst false ((srtU ns).map .int)) else none) = _
        rw [asIs_ints, Option.bind_some, if_pos (by omega)]
      have q1 := ne_ints (xs.map fun x => iv (r0 x)) (srtU (xs.map fun x => iv (r0 x))) hb fun i hi2 => hb i ((srtU_mem i _).mp hi2)
      rw [← upI_srt] at q1
      have eR : (xs.all fun d => rngI (r0 d)) = (xs.map fun x => iv (r0 x)).all fun i => decide (0 ≤ i) && decide (i < 10000) := by
        rw [List.all_map, Bool.eq_iff_iff, List.all_eq_true, List.all_eq_true]
        have e2 : ∀ d ∈ xs, rngI (r0 d) = (decide (0 ≤ iv (r0 d)) && decide (iv (r0 d) < 10000)) := fun d hd => by
          have := (hi d hd).1
          rw [this]
          rfl
        exact ⟨fun q d hd => by rw [Function.comp_apply, ← e2 d hd]; exact q d hd, fun q d hd => by rw [e2 d hd]; exact q d hd⟩
      have q2 := ne_nilE (((xs.map fun x => iv (r0 x)).map AV.int).filter noG) (by
        have : ((xs.map fun x => iv (r0 x)).map AV.int).filter noG = ((xs.map fun x => iv (r0 x)).filter fun i => noG (.int i)).map AV.int := by rw [List.filter_map]; rfl
        rw [this]
        exact ok_ints _ fun i hi2 => hb i (List.mem_filter.mp hi2).1)
      have eG : (((xs.map fun x => iv (r0 x)).map AV.int).filter noG).isEmpty = xs.all fun d => rngI (r0 d) := by
        rw [filt_e, eR, List.all_map]
        congr 1
        funext i
        show (!noG (.int i)) = _
        simp [noG, rngI]
      rw [eG] at q2
      have mg : (((xs.map fun x => iv (r0 x)).map AV.int).filter noG).map (fun d => d) = ((xs.map fun x => iv (r0 x)).map AV.int).filter noG := List.map_id' _
      simp (implicitDefEqProofs := false) [-k_sSeq, Ss.wipe, -k_sTry, nn]
      refine wpS ?_
      simp (implicitDefEqProofs := false) [-k_sSeq, Ss.wipe, -k_sTry, itm]
      refine wpB (wpL (fun _ => true) r0 (fun d hd => ?_) (by omega) ?_)
      · obtain ⟨okd, imd, h1, h2⟩ := isR2_of (hT d hd)
        obtain ⟨a, f, rfl, ta, tf⟩ := h1 (hi d hd).2
        have ima := ta.imm
        have i0 : ∀ S', ixA S' (.tup [a, f]) (.int 0) = some a := fun S' => ix_t S' _ 0
        have e0 : r0 (.tup [a, f]) = a := rfl
        rw [e0]
        generalize AV.tup [a, f] = Y at *
        refine ⟨_, rfl, ?_⟩
        simp (implicitDefEqProofs := false) [-k_sSeq, Ss.wipe, -k_sTry, i0, ima, Ss.wipe, wipeSl]
      rw [em]
      generalize (xs.map fun x => iv (r0 x)).map AV.int = L3 at *
      generalize hL4 : (srtU (xs.map fun x => iv (r0 x))).map AV.int = L4 at fs q1
      generalize hup : upI (xs.map fun x => iv (r0 x)) = up at q1 eW
      simp (implicitDefEqProofs := false) [-k_sSeq, Ss.wipe, -k_sTry]
      refine wpS ?_
      cases up with
      | false =>
        rw [Bool.and_false] at eW
        rw [eW]
        simp (implicitDefEqProofs := false) [-k_sSeq, Ss.wipe, -k_sTry, fs, q1]
      | true =>
        have l3 : L3.length ≤ 16777216 := by
          have : L3.length = xs.length := by
            have := congrArg List.length em
            rw [← this, filter_tt, List.length_map]
          omega
        rw [Bool.and_true] at eW
        rw [eV] at eW
        simp (implicitDefEqProofs := false) [-k_sSeq, Ss.wipe, -k_sTry, fs, q1]
        refine wpB (wpL noG (fun d => d) (fun d hd => ?_) l3 ?_)
        · obtain ⟨i, rfl⟩ : ∃ i, d = .int i := by
            rw [← em] at hd
            obtain ⟨y, hy, rfl⟩ := List.mem_map.mp hd
            exact ⟨_, (hi y (List.mem_filter.mp hy).1).1⟩
          have l1 : oLe (.int 0) (.int i) = some (.bl (decide (0 ≤ i))) := rfl
          have l2 : oLt (.int i) (.int 10000) = some (.bl (decide (i < 10000))) := rfl
          have eb : noG (.int i) = !(decide (0 ≤ i) && decide (i < 10000)) := rfl
          rw [eb]
          refine ⟨_, rfl, ?_⟩
          generalize decide (0 ≤ i) = u1 at *
          generalize decide (i < 10000) = u2 at *
          cases u1 <;> cases u2 <;> simp (implicitDefEqProofs := false) [-k_sSeq, Ss.wipe, -k_sTry, l1, l2, asB, Ss.wipe, wipeSl]
        rw [mg]
        generalize L3.filter noG = L5 at q2 ⊢
        cases cg : xs.all fun d => rngI (r0 d) with
        | false =>
          rw [cg] at q2
          rw [cg, Bool.false_and] at eW
          rw [eW]
          simp (implicitDefEqProofs := false) [-k_sSeq, Ss.wipe, -k_sTry, q2]
        | true =>
          rw [cg] at q2
          rw [cg, Bool.true_and] at eW
          rw [eW]
          have a3 := all_bR (fun d => isFl (r1 d)) xs
          simp (implicitDefEqProofs := false) [-k_sSeq, Ss.wipe, -k_sTry, q2, itm]
          refine wpB (wpL (fun _ => true) (bR fun d => isFl (r1 d)) (fun d hd => ?_) (by omega) ?_)
          · obtain ⟨okd, imd, h1, h2⟩ := isR2_of (hT d hd)
            obtain ⟨a, f, rfl, ta, tf⟩ := h1 (hi d hd).2
            have imf := tf.imm
            have wf := x_law_faultA (S := S) tf hk
            have i1 : ∀ S', ixA S' (.tup [a, f]) (.int 1) = some f := fun S' => ix_t S' _ 1
            have eb : bR (fun d => isFl (r1 d)) (.tup [a, f]) = .bl (isFl f) := rfl
            rw [eb]
            generalize AV.tup [a, f] = Y at *
            refine ⟨_, rfl, ?_⟩
            simp (implicitDefEqProofs := false) [-k_sSeq, Ss.wipe, -k_sTry, i1, imf, wf, Ss.wipe, wipeSl]
          generalize (xs.filter fun _ => true).map (bR fun d => isFl (r1 d)) = L6 at a3 ⊢
          simp (implicitDefEqProofs := false) [-k_sSeq, Ss.wipe, -k_sTry, a3]
  · have ht' : isT "tuple" x = false := by simpa using ht
    have e : isW x = false := by
      cases x <;> first | rfl | (simp [isT] at ht)
    rw [e]
    unfold m__law_are_faults
    rw [fnM_ret]
    simp (implicitDefEqProofs := false) [ok, ht', asB]
end
end Fk
-- base: k09
/-! ## law k09 -/
namespace Fk
open PySem PySem.Spec PyProof.Rows L2
theorem tds_all {k n : Nat} : ∀ {xs : List AV}, (∀ x ∈ xs, Td k n x) → Tds k (xs.length * (n + 2)) xs
  | [], _ => (Tds.nil : Tds k 0 []).mono (Nat.le_refl _) (Nat.zero_le _)
  | x :: xs, h => (Tds.cons (h x (by simp)) (tds_all fun y hy => h y (by simp [hy]))).mono (by omega) (by rw [List.length_cons, Nat.add_mul]; omega)
theorem td_int9 {i : Int} (h : i.natAbs < 2 ^ 128) : Td 0 129 (.int i) := ⟨by simpa [gd] using h, by simp [dpt], by simp [wt]⟩
theorem td_flt {f : Flt} (h : okFt f) : Td 1 208 f.av := by
  cases f with
  | fine => exact h.elim
  | cut => exact tdB_ok (by decide +kernel)
  | bad => exact tdB_ok (by decide +kernel)
  | bit i =>
    have hi : i ≤ 46 := h
    exact ((Tds.cons (tdB_ok (k := 0) (n := 72) (by decide +kernel)) (Tds.cons (td_int9 (i := (i : Int)) (by omega)) Tds.nil)).tup).mono (by omega) (by omega)
theorem td_wAs {ws : List (Nat × Flt)} (h : okW ws) : Td 3 17000 (.tup (wAs ws)) := by
  have a : ∀ x ∈ wAs ws, Td 2 344 x := fun x hx => by
    obtain ⟨p, hp, rfl⟩ := List.mem_map.mp hx
    obtain ⟨h1, h2⟩ := h.each p hp
    exact ((Tds.cons ((td_int9 (i := (p.1 : Int)) (by omega)).mono (k' := 1) (by omega) (Nat.le_refl _)) (Tds.cons (td_flt h2) Tds.nil)).tup).mono (by omega) (by omega)
  have l : (wAs ws).length = ws.length := by simp [wAs]
  have := h.len
  exact (tds_all a).tup.mono (by omega) (by omega)
structure okB9 (ps : List (Nat × Flt)) : Prop where
  nd : (ps.map (·.1)).Nodup
  each : ∀ p ∈ ps, p.1 ≤ 9999 ∧ okFt p.2
theorem okB9.put {ps : List (Nat × Flt)} (h : okB9 ps) {k : Nat} {f : Flt} (hk : k ≤ 9999) (hf : okFt f) : okB9 (upN ps k f) := ⟨nd_upN _ _ _ h.nd, fun q hq => (mem_upN hq).elim (fun z => by rw [z]; exact ⟨hk, hf⟩) (h.each q)⟩
theorem okB9.w {ps : List (Nat × Flt)} (h : okB9 ps) (hn : ps.length ≤ 40) : okW (srN ps) := ⟨by rw [srN_len]; exact hn, fun p hp => h.each p (srN_mem hp), srN_rise _ h.nd⟩
def flM (ps : List (Nat × Flt)) : AV := .dct true (dk ps) (dv Flt.av ps)
section
variable {S : List AV} {l : Nat} {Q : AV → List AV → Prop} {E : Str → List AV → Prop}
theorem ix_flM (ps : List (Nat × Flt)) {k : Nat} {f : Flt} (h : lkN ps k = some f) : ixA S (flM ps) (.int k) = some f.av := by
  simp [ixA, flM, deref, itA, seqA, dicA, keyA, get_dk, h]
theorem srt_flM {ps : List (Nat × Flt)} (h : ps.length < 64) : fL true fSrt2 S [flM ps] = some (.lst true ((srtI (ps.map fun p => (p.1 : Int))).map .int)) := by
  simp [fL, fSrt2, fSrt, flM, keysI_dk, h]
theorem pick9 {r : Nat} (h : r < 4) (a : Nat) (ha : a ≤ 46) : ∃ f : Flt, ([.tup [.str "cut"], .tup [.str "bad"], .tup [.str "bit", .int a], .tup [.str "bit", .int 46]] : List AV)[r]? = some f.av ∧ okFt f := by
  have : r = 0 ∨ r = 1 ∨ r = 2 ∨ r = 3 := by omega
  rcases this with rfl | rfl | rfl | rfl
  · exact ⟨.cut, rfl, trivial⟩
  · exact ⟨.bad, rfl, trivial⟩
  · exact ⟨.bit a, rfl, ha⟩
  · exact ⟨.bit 46, rfl, Nat.le_refl _⟩
def awI (S : List AV) (l k : Nat) (st : Ss) : Prop := ∃ ps s3 s4 s5 S', st = ⟨[.im (.loc l), .im (.int 10000), .ow (flM ps), s3, s4, s5], S'⟩ ∧ Dr S' l ∧ Fr [l] S S' ∧ okB9 ps ∧ ps.length ≤ k
theorem w_anyW (hD : Dr S l) (k : ∀ (ws : List (Nat × Flt)) (S' : List AV), okW ws → Dr S' l → Fr [l] S S' → Q (.tup (wAs ws)) S') : WpR (m__law_any_weather [.loc l, .int 10000] S) Q E := by
  unfold m__law_any_weather
  refine wpF ?_
  refine wpS ?_
  simp (implicitDefEqProofs := false) [-k_sSeq, Ss.wipe, -k_sTry]
  refine wpS ?_
  simp (implicitDefEqProofs := false) [-k_sSeq, Ss.wipe, -k_sTry]
  refine wpC (w_choice hD (by omega) (by omega) fun r S1 hr D1 f1 => ?_)
  have i0 := ix_l S1 false [.int 0, .int 1, .int 5, .int 40] r
  obtain ⟨n, e0, hn⟩ : ∃ n : Nat, ([.int 0, .int 1, .int 5, .int 40] : List AV)[r]? = some (.int n) ∧ n ≤ 40 := by
    have : r = 0 ∨ r = 1 ∨ r = 2 ∨ r = 3 := by omega
    rcases this with rfl | rfl | rfl | rfl
    · exact ⟨0, rfl, by omega⟩
    · exact ⟨1, rfl, by omega⟩
    · exact ⟨5, rfl, by omega⟩
    · exact ⟨40, rfl, by omega⟩
  rw [e0] at i0
  have rn := rng_nat (n := n) (by omega)
  have rl : ((List.range n).map iA).length = n := by simp
  generalize (List.range n).map iA = L at rn rl
  have imn : imm (.int (n : Int)) = true := rfl
  simp (implicitDefEqProofs := false) [-k_sSeq, Ss.wipe, -k_sTry, i0, rn]
  refine wpO (awI S l) ⟨[], _, _, _, S1, rfl, D1, f1, ⟨by simp, by simp⟩, by simp⟩ (fun j d st hd hI => ?_) fun st hI => ?_
  · obtain ⟨ps, s3, s4, s5, S2, rfl, D2, f2, B, hl⟩ := hI
    have hj : j < n := by
      have := (List.getElem?_eq_some_iff.mp hd).1
      omega
    refine ⟨_, rfl, ?_⟩
    refine wpS ?_
    simp (implicitDefEqProofs := false) [-k_sSeq, Ss.wipe, -k_sTry]
    refine wpC (w_choice D2 (by omega) (by omega) fun a S3 ha D3 f3 => ?_)
    simp (implicitDefEqProofs := false) [-k_sSeq, Ss.wipe, -k_sTry]
    refine wpC (w_choice D3 (by omega) (by omega) fun r S4 hr D4 f4 => ?_)
    have i5 := ix_l S4 false [.tup [.str "cut"], .tup [.str "bad"], .tup [.str "bit", .int a], .tup [.str "bit", .int 46]] r
    obtain ⟨f, e5, ok⟩ := pick9 (r := r) (by omega) a (by omega)
    rw [e5] at i5
    have im := imm_ft f
    generalize hT : f.av = T at i5 im
    simp (implicitDefEqProofs := false) [-k_sSeq, Ss.wipe, -k_sTry, i5, im]
    refine wpS ?_
    simp (implicitDefEqProofs := false) [-k_sSeq, Ss.wipe, -k_sTry]
    refine wpC (w_choice D4 (by omega) (by omega) fun c S5 hc D5 f5 => ?_)
    simp (implicitDefEqProofs := false) [-k_sSeq, Ss.wipe, -k_sTry]
    refine wpC (w_choice D5 (by omega) (by omega) fun u S6 hu D6 f6 => ?_)
    obtain ⟨m, hm, hm3⟩ : ∃ m : Nat, min (2 : Int) u = m ∧ m < 3 := ⟨min 2 u, by omega, by omega⟩
    have i6 := ix_l S6 false [.int 9999, .int 0, .int c] m
    obtain ⟨q, e6, hq⟩ : ∃ q : Nat, ([.int 9999, .int 0, .int c] : List AV)[m]? = some (.int q) ∧ q ≤ 9999 := by
      have : m = 0 ∨ m = 1 ∨ m = 2 := by omega
      rcases this with rfl | rfl | rfl
      · exact ⟨9999, rfl, by omega⟩
      · exact ⟨0, rfl, by omega⟩
      · exact ⟨c, rfl, by omega⟩
    rw [e6] at i6
    have pu := put_dk Flt.av ps q f B.nd
    rw [hT] at pu
    have hlen : (dk ps).length < 16777216 := by simp [dk]; omega
    simp (implicitDefEqProofs := false) [-k_sSeq, Ss.wipe, -k_sTry, f_min2, hm, i6, im, isOw, storeB, ownL, ownD, keyA, hlen, pu, putD, flM]
    exact ⟨upN ps q f, _, _, _, S6, rfl, D6, (((f2.tr f3).tr f4).tr f5).tr f6, B.put hq ok, by have := len_upN ps q f; omega⟩
  · obtain ⟨ps, s3, s4, s5, S2, rfl, D2, f2, B, hl⟩ := hI
    rw [rl] at hl
    have sr := srt_flM (S := S2) (ps := ps) (by omega)
    have W : okW (srN ps) := B.w (by omega)
    have ek : (srtI (ps.map fun p => (p.1 : Int))).map AV.int = (srN ps).map fun p => .int p.1 := by
      cases ps with
      | nil => rfl
      | cons p ps =>
        rw [srN_eq (p :: ps) p.2, List.map_map]
        refine List.map_congr_left fun k hk => ?_
        have := (srtI_perm _).mem_iff.mp hk
        obtain ⟨p, _, rfl⟩ := List.mem_map.mp this
        simp
    rw [ek] at sr
    have hl2 := W.len
    generalize hws : srN ps = ws at sr W ek hl2
    simp (implicitDefEqProofs := false) [-k_sSeq, Ss.wipe, -k_sTry, sr]
    refine wpB (wpL (fun _ => true) (fun d => .tup [d, ((lkN ps (nA d)).getD .fine).av]) (fun d hd => ?_) (by simp; omega) ?_)
    · obtain ⟨p, hp, rfl⟩ := List.mem_map.mp hd
      rw [← hws] at hp
      obtain ⟨f, hf⟩ := lk_of (List.mem_map.mpr ⟨p, srN_mem hp, rfl⟩)
      have i1 := ix_flM (S := S2) ps hf
      have im := imm_ft f
      refine ⟨_, rfl, ?_⟩
      simp (implicitDefEqProofs := false) [-k_sSeq, Ss.wipe, -k_sTry, i1, im, nA, hf]
    · have e : (((ws.map fun p => AV.int p.1).filter fun _ => true).map fun d => AV.tup [d, ((lkN ps (nA d)).getD .fine).av]) = wAs ws := by
        rw [filter_tt, List.map_map]
        refine List.map_congr_left fun p hp => ?_
        rw [← hws] at hp
        simp only [srN, List.mem_filterMap, Option.map_eq_some_iff] at hp
        obtain ⟨k, _, v, hv, rfl⟩ := hp
        generalize k.toNat = m at hv ⊢
        simp [nA, hv]
      rw [e]
      have q := k ws S2 W D2 f2
      simp (implicitDefEqProofs := false) [-k_sSeq, Ss.wipe, -k_sTry, fTup]
      exact q
theorem same9 {x : AV} (h : Tgh x) : ∃ b, (∀ S, m_is_weather [x] S = .ok (.bl b) S) ∧ ∀ S, m__law_are_faults [x] S = .ok (.bl b) S := by
  rcases h with h | h
  · exact ⟨_, fun S => x_is_weatherA h (by omega), fun S => x_are_faultsA h (by omega)⟩
  · rcases h with rfl | rfl
    · exact ⟨false, fun _ => by kernel_rfl, fun _ => by kernel_rfl⟩
    · exact ⟨false, fun _ => by kernel_rfl, fun _ => by kernel_rfl⟩
end
end Fk
-- base: k09
/-! ## law k09, whole -/
namespace Fk
open PySem PySem.Spec PyProof.Rows L2
def cut9 (d : AV) : AV := .tup [d, .tup [.str "cut"]]
def full9 : List AV := ((List.range 40).map iA).map cut9
theorem full_td : Tds 2 13840 full9 := by
  have h : full9.all (tdB 2 344) = true := by decide +kernel
  have l : full9.length = 40 := by simp [full9]
  exact (tds_all (tdB_all h)).mono (by omega) (by omega)
def fls9 : List AV := [.tup [.str "cut"], .tup [.str "bad"], .tup [.str "bit", .int 0], .tup [.str "bit", .int 46], .tup [.str "bit", .int 47], .tup [.str "bit", .int (-1)], .tup [.str "bit", .bl true], .tup [.str "bit"]]
def flt9 : List AV := fls9 ++ [.tup [.str "bit", .str "1"]]
theorem fls_td : ∀ z ∈ flt9, ∃ xs, z = .tup xs ∧ Tds 0 300 xs := by
  have h : flt9.all (tdB 1 300) = true := by decide +kernel
  have t : flt9.all (isT "tuple") = true := by decide +kernel
  intro z hz
  have h1 := tdB_all h z hz
  have h2 := List.all_eq_true.mp t z hz
  obtain ⟨xs, rfl⟩ : ∃ xs, z = .tup xs := by
    cases z <;> first | exact ⟨_, rfl⟩ | (simp [isT] at h2)
  obtain ⟨_, _, T⟩ := h1.tup
  exact ⟨xs, rfl, T.mono (by omega) (by omega)⟩
section
variable {S : List AV} {l : Nat} {Q : AV → List AV → Prop} {E : Str → List AV → Prop}
def rw9 (d z : AV) : AV := .tup [.tup [d, z]]
theorem tg_rw {d z : AV} (hd : Td 0 200 d) (hz : Td 1 400 z) : Tgh (rw9 d z) :=
  .inl (((Tds.cons (Tds.cons (hd.mono (k' := 1) (by omega) (Nat.le_refl _)) (Tds.cons hz Tds.nil)).tup Tds.nil).tup).mono (by omega) (by omega))
def r9I (W F : AV) (l : Nat) (S : List AV) (j : Nat) (st : Ss) : Prop := ∃ L s5, st = ⟨[.im (.loc l), .im W, .im F, .im (.lst false L), .im (.lst false fls9), s5, .no, .no, .no, .no, .no], S⟩ ∧ (∀ x ∈ L, Tgh x) ∧ L.length ≤ 6 + 5 * j
def b9I (W F T : AV) (l : Nat) (S : List AV) (s5 : Sl) (j : Nat) (acc : List AV) (st : Ss) : Prop := ∃ S', st = ⟨[.im (.loc l), .im W, .im F, .im T, .im (.lst false fls9), s5, .no, .no, .no, .no, .no], S'⟩ ∧ (∀ x ∈ acc, Tgh x) ∧ Dr S' l ∧ Fr [l] S S'
theorem w_right9 (hD : Dr S l) (kk : ∀ S', Dr S' l → Q (.bl true) S') : WpR (m__law_right [.loc l] S) Q E := by
  unfold m__law_right
  refine wpF ?_
  refine wpS ?_
  simp (implicitDefEqProofs := false) [-k_sSeq, Ss.wipe, -k_sTry]
  refine wpC (w_anyW hD fun ws S1 hw D1 f1 => ?_)
  have tW := td_wAs hw
  have imW := tW.imm
  have fl : ∀ S', fL true fList S' [.tup (wAs ws)] = some (.lst true (wAs ws)) := fun _ => rfl
  have tL : Td 3 17000 (.lst false (wAs ws)) := by
    obtain ⟨_, _, T⟩ := tW.tup
    exact T.lst.mono (by omega) (by omega)
  have r40 : rng1 [.int 40] = some ((List.range 40).map iA) := rng_nat (n := 40) (by omega)
  have rl : ((List.range 40).map iA).length = 40 := by simp
  have ef : full9 = ((List.range 40).map iA).map cut9 := rfl
  generalize wAs ws = wl at *
  clear hw
  generalize hW : AV.tup wl = W at *
  generalize (List.range 40).map iA = R at r40 rl ef
  simp (implicitDefEqProofs := false) [-k_sSeq, Ss.wipe, -k_sTry]
  refine wpS ?_
  simp (implicitDefEqProofs := false) [-k_sSeq, Ss.wipe, -k_sTry, r40]
  refine wpB (wpL (fun _ => true) cut9 (fun d hd => ?_) (by omega) ?_)
  · refine ⟨_, rfl, ?_⟩
    simp (implicitDefEqProofs := false) [-k_sSeq, Ss.wipe, -k_sTry, cut9]
  rw [filter_tt, ← ef]
  have tF := full_td
  have ll : full9.length = 40 := by simp [full9]
  have tgF : Tgh (.tup full9) := tg_of tF.tup (by omega) (by omega)
  have A1 : oAdd (.tup full9) (.tup [.tup [.int 40, .tup [.str "bad"]]]) = some (.tup (full9 ++ [.tup [.int 40, .tup [.str "bad"]]])) := add_tupB _ _ (by simp; omega)
  have tg2 : Tgh (.tup (full9 ++ [.tup [.int 40, .tup [.str "bad"]]])) := tg_of (tF.app (Tds.cons (tdB_ok (k := 2) (n := 400) (by decide +kernel)) Tds.nil)).tup (by omega) (by omega)
  have imF := tgF.imm
  generalize hF : AV.tup full9 = F at *
  generalize AV.tup (full9 ++ [.tup [.int 40, .tup [.str "bad"]]]) = F2 at *
  simp (implicitDefEqProofs := false) [-k_sSeq, Ss.wipe, -k_sTry, fTup, hF]
  clear hF
  refine wpS ?_
  simp (implicitDefEqProofs := false) [-k_sSeq, Ss.wipe, -k_sTry, imW, imF, A1, fl]
  generalize hA : AV.tup [.tup [.int 0, .tup [.str "cut"]], .tup [.int 0, .tup [.str "bad"]]] = TA
  have tgA : Tgh TA := by
    rw [← hA]
    exact .inl (tdB_ok (by decide +kernel))
  clear hA
  have L0 : ∀ x ∈ ([W, F, F2, .lst false wl, TA] : List AV), Tgh x := fun x hx => by
    simp only [List.mem_cons, List.not_mem_nil, or_false] at hx
    rcases hx with rfl | rfl | rfl | rfl | rfl
    · exact tg_of tW (by omega) (by omega)
    · exact tgF
    · exact tg2
    · exact tg_of tL (by omega) (by omega)
    · exact tgA
  have ll0 : ([W, F, F2, .lst false wl, TA] : List AV).length = 5 := rfl
  generalize ([W, F, F2, .lst false wl, TA] : List AV) = L at L0 ll0 ⊢
  have A2 : oAdd (.lst false L) (.lst false [.tup [.tup [.int 1, .tup [.str "cut"]], .tup [.int 0, .tup [.str "cut"]]]]) = some (.lst false (L ++ [.tup [.tup [.int 1, .tup [.str "cut"]], .tup [.int 0, .tup [.str "cut"]]]])) := add_lstV _ _ (by simp; omega)
  have H2 := td_app L0 (tg_all (L := [.tup [.tup [.int 1, .tup [.str "cut"]], .tup [.int 0, .tup [.str "cut"]]]]) (by decide +kernel))
  have N2 : (L ++ [.tup [.tup [.int 1, .tup [.str "cut"]], .tup [.int 0, .tup [.str "cut"]]]] : List AV).length = L.length + 1 := by simp
  refine wpS ?_
  simp (implicitDefEqProofs := false) [-k_sSeq, Ss.wipe, -k_sTry, A2]
  generalize (L ++ [.tup [.tup [.int 1, .tup [.str "cut"]], .tup [.int 0, .tup [.str "cut"]]]] : List AV) = L1 at *
  refine wpS (wp_of (a := .nx) (s := ⟨[.im (.loc l), .im W, .im F, .im (.lst false L1), .im (.lst false fls9), .no, .no, .no, .no, .no, .no], S1⟩) (by kernel_rfl) ?_)
  rw [afS_nx]
  have A3 : oAdd (.lst false fls9) (.lst false [.tup [.str "bit", .str "1"]]) = some (.lst false flt9) := by kernel_rfl
  have lf : flt9.length = 9 := rfl
  refine wpS ?_
  simp (implicitDefEqProofs := false) [-k_sSeq, Ss.wipe, -k_sTry, A3]
  refine wpO (r9I W F l S1) ⟨L1, _, rfl, H2, by omega⟩ (fun j z st hd hI => ?_) fun st hI => ?_
  · obtain ⟨L, s5, rfl, hL, hl⟩ := hI
    have hj : j < 9 := by
      have := (List.getElem?_eq_some_iff.mp hd).1
      omega
    obtain ⟨xs, rfl, Tx⟩ := fls_td z (List.mem_of_getElem? hd)
    clear hd
    have tz : Td 1 400 (.tup xs) := Tx.tup.mono (by omega) (by omega)
    have tl : Td 1 400 (.lst false xs) := Tx.lst.mono (by omega) (by omega)
    have fz : ∀ S', fL true fList S' [.tup xs] = some (.lst true xs) := fun _ => rfl
    have t0 : ∀ i : Int, i.natAbs < 2 ^ 128 → Td 0 200 (.int i) := fun i hi => (td_int hi).mono (by omega) (by omega)
    have tb : Td 0 200 (.bl true) := tdB_ok (by decide +kernel)
    have imz := tz.imm
    have ng : oNeg (.int 1) = some (.int (-1)) := rfl
    generalize AV.tup xs = z at *
    have T1 : ∀ x ∈ ([.tup [.tup [.int 9999, z]], .tup [.tup [.int 10000, z]], .tup [.tup [.int (-1), z]], .tup [.tup [.bl true, z]]] : List AV), Tgh x := fun x hx => by
      simp only [List.mem_cons, List.not_mem_nil, or_false] at hx
      rcases hx with rfl | rfl | rfl | rfl
      · exact tg_rw (t0 _ (by omega)) tz
      · exact tg_rw (t0 _ (by omega)) tz
      · exact tg_rw (t0 _ (by omega)) tz
      · exact tg_rw tb tz
    have A1 : oAdd (.lst false L) (.lst false [.tup [.tup [.int 9999, z]], .tup [.tup [.int 10000, z]], .tup [.tup [.int (-1), z]], .tup [.tup [.bl true, z]]]) = some (.lst false (L ++ [.tup [.tup [.int 9999, z]], .tup [.tup [.int 10000, z]], .tup [.tup [.int (-1), z]], .tup [.tup [.bl true, z]]])) := add_lstV _ _ (by simp; omega)
    have H1 := td_app hL T1
    have N1 : (L ++ [.tup [.tup [.int 9999, z]], .tup [.tup [.int 10000, z]], .tup [.tup [.int (-1), z]], .tup [.tup [.bl true, z]]] : List AV).length = L.length + 4 := by simp
    refine ⟨_, rfl, ?_⟩
    refine wpS ?_
    simp (implicitDefEqProofs := false) [-k_sSeq, Ss.wipe, -k_sTry, imz, ng, A1]
    generalize (L ++ [.tup [.tup [.int 9999, z]], .tup [.tup [.int 10000, z]], .tup [.tup [.int (-1), z]], .tup [.tup [.bl true, z]]] : List AV) = M1 at *
    have T2 : ∀ x ∈ ([.tup [.tup [.int 0, .lst false xs]]] : List AV), Tgh x := fun x hx => by
      simp only [List.mem_cons, List.not_mem_nil, or_false] at hx
      subst hx
      exact tg_rw (t0 _ (by omega)) tl
    have A2 : oAdd (.lst false M1) (.lst false [.tup [.tup [.int 0, .lst false xs]]]) = some (.lst false (M1 ++ [.tup [.tup [.int 0, .lst false xs]]])) := add_lstV _ _ (by simp; omega)
    have H2 := td_app H1 T2
    have N2 : (M1 ++ [.tup [.tup [.int 0, .lst false xs]]] : List AV).length = M1.length + 1 := by simp
    simp (implicitDefEqProofs := false) [-k_sSeq, Ss.wipe, -k_sTry, fz, A2]
    exact ⟨_, _, rfl, H2, by omega⟩
  · obtain ⟨L, s5, rfl, hL, hl⟩ := hI
    rw [lf] at hl
    rw [afS_nx]
    generalize hZ : ([.tup [.tup [.int 0, .tup [.str "Cut"]]], .tup [.tup [.int 0, .str "cut"]], .tup [.tup [.int 0, .tup [.str "cut", .int 1]]], .tup [.tup [.int 0, .tup []]], .tup [.int 0, .tup [.str "cut"]]] : List AV) = Z
    have tZ : ∀ x ∈ Z, Tgh x := by
      rw [← hZ]
      exact tg_all (by decide +kernel)
    have lZ : Z.length = 5 := by rw [← hZ]; rfl
    have A1 : oAdd (.lst false L) (.lst false Z) = some (.lst false (L ++ Z)) := add_lstV _ _ (by omega)
    have H1 := td_app hL tZ
    have N1 : (L ++ Z).length = L.length + 5 := by simp [lZ]
    refine wpS ?_
    have hz1 : Z.length ≤ 16777216 := by omega
    simp (implicitDefEqProofs := false) [-k_sSeq, Ss.wipe, -k_sTry, hZ, hz1, A1]
    generalize L ++ Z = L1 at *
    clear hZ
    generalize hZ2 : ([.tup [.tup [.str "cut", .int 0]], .tup [.tup [.int 0]]] : List AV) = Z2
    have tZ2 : ∀ x ∈ Z2, Tgh x := by
      rw [← hZ2]
      exact tg_all (by decide +kernel)
    have lZ2 : Z2.length = 2 := by rw [← hZ2]; rfl
    have A2 : oAdd (.lst false L1) (.lst false Z2) = some (.lst false (L1 ++ Z2)) := add_lstV _ _ (by omega)
    have H2 := td_app H1 tZ2
    have N2 : (L1 ++ Z2).length = L1.length + 2 := by simp [lZ2]
    refine wpS ?_
    have hz2 : Z2.length ≤ 16777216 := by omega
    simp (implicitDefEqProofs := false) [-k_sSeq, Ss.wipe, -k_sTry, hZ2, hz2, A2]
    generalize L1 ++ Z2 = L2 at *
    clear hZ2
    refine wpS ?_
    simp (implicitDefEqProofs := false) [-k_sSeq, Ss.wipe, -k_sTry]
    refine wpC (w_oddE D1 fun o S2 ho D2 f2 => ?_)
    have to : Tgh o := (oddE_td o ho).elim (fun h => tg_of h (by omega) (by omega)) .inr
    have imo := to.imm
    have A3 : oAdd (.lst false L2) (.lst false [o]) = some (.lst false (L2 ++ [o])) := add_lstV _ _ (by simp; omega)
    have H3 := td_app H2 (L2 := [o]) (fun x hx => by
      obtain rfl : x = o := by simpa using hx
      exact to)
    have N3 : (L2 ++ [o]).length = L2.length + 1 := by simp
    have r14 : rng1 [.int 14] = some ((List.range 14).map iA) := rng_nat (n := 14) (by omega)
    have rl4 : ((List.range 14).map iA).length = 14 := by simp
    generalize (List.range 14).map iA = R14 at r14 rl4
    generalize hL3 : L2 ++ [o] = L3 at *
    simp (implicitDefEqProofs := false) [-k_sSeq, Ss.wipe, -k_sTry, imo, A3, hL3, r14]
    refine wpB (wpLI (b9I W F (.lst false L2) l S2 s5) ⟨S2, rfl, (fun x h => by cases h), D2, Fr.refl _ _⟩ (fun j y acc st hd ha hJ => ?_) (by omega) fun acc st ha hJ => ?_)
    · obtain ⟨S3, rfl, hacc, D3, f3⟩ := hJ
      refine ⟨_, rfl, ?_⟩
      simp (implicitDefEqProofs := false) [-k_sSeq, Ss.wipe, -k_sTry, imW]
      refine wpC' (w_bent tW (by omega) (by omega) D3 fun y S4 Ty D4 f4 => ?_)
      exact ⟨S4, rfl, fun x hx => (List.mem_append.mp hx).elim (hacc x) (fun z => by
        obtain rfl : x = y := by simpa using z
        exact tg_of Ty (by omega) (by omega)), D4, f3.tr f4⟩
    · obtain ⟨S3, rfl, hacc, D3, f3⟩ := hJ
      have A6 : oAdd (.lst false L3) (.lst false acc) = some (.lst false (L3 ++ acc)) := add_lstV _ _ (by omega)
      have H6 := td_app H3 hacc

      simp (implicitDefEqProofs := false) [-k_sSeq, Ss.wipe, -k_sTry, A6]
      generalize L3 ++ acc = G at *
      refine wpO (fun _ st => ∃ s5 s6 s7 s8, st = ⟨[.im (.loc l), .im W, .im F, .im (.lst false L2), .im (.lst false fls9), s5, s6, s7, s8, .no, .no], S3⟩) ⟨_, _, _, _, rfl⟩ (fun j x st hd hI => ?_) fun st hI => ?_
      · obtain ⟨s5, s6, s7, s8, rfl⟩ := hI
        have hx := H6 x (List.mem_of_getElem? hd)
        obtain ⟨t, rt⟩ := hx.rp
        obtain ⟨q, w1, w2⟩ := same9 hx
        have imx := hx.imm
        have sm := x_sameV (S := S3) (sh_lst (k := 0) (o := false) (shs_cons (sh_bl q) (shs_cons (sh_bl q) shs_nil))) (by omega) (by omega) rfl
        have nt := nes t t
        rw [decide_eq_true rfl] at nt
        refine ⟨_, rfl, ?_⟩
        refine wpS ?_
        simp (implicitDefEqProofs := false) [-k_sSeq, Ss.wipe, -k_sTry, rt, w2, imx]
        simp (implicitDefEqProofs := false) [-k_sSeq, Ss.wipe, -k_sTry, w1, sm, rt, nt, imx]
      · obtain ⟨s5, s6, s7, s8, rfl⟩ := hI
        simp (implicitDefEqProofs := false) [-k_sSeq, Ss.wipe, -k_sTry]
        exact kk S3 D3
def lw9 (ns : List Int) (st : Ss) : Prop := ∃ a1 a2 a3 S, st = ⟨[.im (.scr (ns.map AV.int)), a1, a2, a3], S⟩
end
theorem pure_law (ns : List Int) (hl : ns.length ≤ 63) (hb : ∀ z ∈ ns, Builtin.Int.intBits z ≤ 1048576) : ∃ S, m_law [.scr (ns.map AV.int)] [] = .ok (.bl true) S := by
  have main : WpR (m_law [.scr (ns.map AV.int)] []) (fun d _ => d = .bl true) noE := by
    refine wpF ?_
    obtain ⟨m, hm, h5⟩ : ∃ m : Nat, max (1 : Int) (min (ns.length : Int) 5) = m ∧ m ≤ 5 := ⟨max 1 (min ns.length 5), by omega, by omega⟩
    have r2 : rng1 [.int 1] = some ((List.range 1).map iA) := rng_nat (n := 1) (by omega)
    refine wpS ?_
    simp (implicitDefEqProofs := false) [-k_sSeq, Ss.wipe, -k_sTry, fLen, deref, lenA, f_min2, f_max2, hm, rng_nat (n := m) (by omega)]
    refine wpO (fun _ => lw9 ns) ⟨_, _, _, _, rfl⟩ (fun j d st hd hI => ?_) fun st hI => ?_
    · obtain ⟨a1, a2, a3, S, rfl⟩ := hI
      obtain ⟨rfl, hj⟩ := rng_mem hd
      refine ⟨_, rfl, ?_⟩
      generalize hT : AV.scr (ns.map AV.int) = T
      refine wpS ?_
      simp (implicitDefEqProofs := false) [-k_sSeq, Ss.wipe, -k_sTry]
      rw [← hT]
      refine wpC (w_state fun S1 D1 _ => ?_)
      generalize S.length = l at D1
      rw [hT]
      simp (implicitDefEqProofs := false) [-k_sSeq, Ss.wipe, -k_sTry, r2]
      refine wpO (fun _ st => ∃ a3 S', st = ⟨[.im T, .im (.int j), .im (.loc l), a3], S'⟩ ∧ Dr S' l) ⟨_, S1, rfl, D1⟩ (fun i d st hd hI => ?_) fun st hI => ?_
      · obtain ⟨a3, S2, rfl, D2⟩ := hI
        refine ⟨_, rfl, ?_⟩
        simp (implicitDefEqProofs := false) [-k_sSeq, Ss.wipe, -k_sTry]
        refine wpC (w_right9 D2 fun S3 D3 => ?_)
        simp (implicitDefEqProofs := false) [-k_sSeq, Ss.wipe, -k_sTry]
        exact ⟨_, S3, ⟨rfl, rfl⟩, D3⟩
      · obtain ⟨a3, S2, rfl, D2⟩ := hI
        exact ⟨_, _, _, S2, by rw [← hT]⟩
    · obtain ⟨a1, a2, a3, S, rfl⟩ := hI
      simp (implicitDefEqProofs := false) [-k_sSeq, Ss.wipe, -k_sTry]
  obtain ⟨a, S, e, rfl⟩ := wp_ex main
  exact ⟨S, e⟩
end Fk
open PySem PySem.W PySem.Calls PyProof.Rows
set_option maxRecDepth 100000 in
set_option maxHeartbeats 8000000 in
theorem PySem.Challenge.cw_flashkeep_k09_weathers_known_holds : PySem.Challenge.rw_flashkeep_k09_weathers_known.Holds := by
  w_on; o_law
  refine HandSHeadRun.head_any (r := OpenLaw.row PySem.Challenge.rw_flashkeep_k09_weathers_known) (q := view (OpenLaw.row PySem.Challenge.rw_flashkeep_k09_weathers_known).prog [24]) (H := Fk.Hd.hk) (ob := Fk.Hd.ob) (M := 20000) (loose := Fk.Hd.loose) (d := HandSHeadRun.topDef (OpenLaw.row PySem.Challenge.rw_flashkeep_k09_weathers_known).prog 24) (kwd := []) (Fk.obA_eq _ _ _ _)
    (by kernel_rfl) (fun s => by kernel_rfl) Fk.Hd.run (by kernel_rfl) (by kernel_rfl) (by kernel_rfl) (by rfl) (by first | assumption | decide +kernel) (by decide +kernel) ⟨rfl, rfl, rfl, rfl, rfl, by decide +kernel⟩ ?hw ?hc
  case hw => w_witness2
  case hc =>
    refine Fk.walk_endN (l := PySem.Challenge.rw_flashkeep_k09_weathers_known) (n := 63) (k := 9) (x := "_law_script") rfl (by decide) (by kernel_rfl) ⟨rfl, by decide, by decide⟩ ?_
    intro w mg fa h Y G hmg0
    obtain ⟨K, KX, c⟩ := Y
    have hmg : mg ("law" : PySem.Str) = some (.ref fa) := by
      have e : (HandSHeadRun.topDef (OpenLaw.row PySem.Challenge.rw_flashkeep_k09_weathers_known).prog 24).name = ("law" : PySem.Str) := by kernel_rfl
      rw [← e]
      exact hmg0
    obtain ⟨fd, hb, hF⟩ := Fk.facts (P := (PySem.Challenge.rw_flashkeep_k09_weathers_known).prog) (w := w) KX G hmg c
    exact ⟨K, fd, _, KX, hb, fun H a ns hl hbits hT hS => Fk.law_sp (Fk.pure_law ns hl hbits) hT hS, fun base h1 h2 => hF base h1 h2 (fun _ z => nomatch z)⟩
