import PyProof.Rows.All
import Wide.All
import OpenK.AllK
import Wide.FinOn
import KE.KStateDown
import KE.GoesEnum
import HandS.ForMost
import HandS.Exc
import HandS.Defaults
import HandS.IsInst
import HandS.Head0
import HandS.Head1
import HandS.Head2
import HandS.HeadEnd
import HandS.HeadHook1
import HandS.HeadHook2
import HandS.HeadHook4
import HandS.EndTab
import HandS.ExcIs
import HandS.ExcCtx
import HandS.Lambda
import PySem.Challenge.RW_flashkeep_k20_orders_looked_at
import Lean
import HandS.TryOnly
import HandS.TryMany
import HandS.ExcOwn
import HandS.WordsExc
import HandS.Wide
import HandS.Style
import HandS.Zip
import HandS.TupAny
import HandS.Flow
import HandS.Deep
import HandS.More
import HandS.SetKeys
import HandS.CallSlots
import HandS.EndBits
import HandS.Evl
import PyProof.ReprRoads
import PyProof.ReprLen
import HandS.Strs
import PyProof.Rows.IntBool
import HandS.TupMul
import HandS.HotCalls
import HandS.SortInts
import KE.KTryMore
import HandS.SetFor
import HandS.TupSets
import KE.DataMinMax
import HandS.RevTup
import HandS.MakeKw
import HandS.MakeKwOnly
import HandS.SetBool
import HandS.ListItems
import HandS.Conv
import HandS.DictComp
import HandS.Text
import HandS.FStr
import HandS.RaiseMore
import KE.KDictZip
import KE.KUnpackStar
import HandS.Iter
import PyProof.Rows.CallKwBuiltin
set_option Elab.async false
set_option linter.all false
set_option maxRecDepth 100000
set_option maxHeartbeats 4000000
/-! ## what the head's run is looked at by -/
namespace Fk
open PySem PySem.Spec PyProof.Rows L2 LamX
def obsK (fa : List He.Fa) (fn : List He.DefD) (ex : PySem.W.Frag → Bool) (K : PySem.W.Frag) : He.AlD × Bool := (He.obsD fa fn K, ex K)
def fldOf : Data → Option (Array Value)
  | .fields vs => some vs
  | _ => none
def funOf : Data → Option FuncData
  | .func fd => some fd
  | _ => none
def refOf : Value → Option Addr
  | .ref a => some a
  | _ => none
/-- the code object of a def and its table -/
def tabOf (K : PySem.W.Frag) (f : Addr) : Addr × Addr := match (K.lookup f).bind fun o => (funOf o.data).bind fun fd => refOf fd.code with
  | some c => match (K.lookup c).bind fun o => (fldOf o.data).bind fun vs => (vs[11]?).bind refOf with
    | some P => (c, P)
    | none => (c, 0)
  | none => (0, 0)
abbrev mkr (K : PySem.W.Frag) (x : Str) : Addr × Addr := tabOf K (He.ga K x)
/-- the head's facts: the objects at L -/
def hookA (L : List Addr) (fa : List He.Fa) (fn : List He.DefD) (ex : PySem.W.Frag → Bool) : PySem.W.Hook where
  α := He.AlD × Bool
  obs := fun s => obsK fa fn ex (He.frG s.heap.get? L)
  val := fun _ => (He.valD fn, true)
  says := fun _ h => ∃ K : PySem.W.Frag, K.In h ∧ obsK fa fn ex K = (He.valD fn, true)
  of := fun _ _ e => ⟨_, He.frG_in, e⟩
  keeps := fun _ _ _ ⟨K, hK, c⟩ k => ⟨K, PySem.W.Frag.In.keeps hK k, c⟩
noncomputable def obA (L : List Addr) (fa : List He.Fa) (fn : List He.DefD) (ex : PySem.W.Frag → Bool) (s : PySem.W.SharedT) : He.AlD × Bool := obsK fa fn ex (He.frG (HandSHeadRun.getT s) L)
theorem obA_eq (L : List Addr) (fa : List He.Fa) (fn : List He.DefD) (ex : PySem.W.Frag → Bool) (s : PySem.W.SharedT) : obA L fa fn ex s = (hookA L fa fn ex).obs s.abs := by
  have e : HandSHeadRun.getT s = s.abs.heap.get? := funext (HandSHeadRun.getT_eq s)
  show obsK fa fn ex (He.frG (HandSHeadRun.getT s) L) = obsK fa fn ex (He.frG s.abs.heap.get? L)
  rw [e]
section
variable {x : Option PySem.W.SharedT} {L : List Addr} {mk : List Str} {fa : List He.Fa} {fn : List He.DefD} {ex : PySem.W.Frag → Bool} {β γ : Type} {f1 : PySem.W.SharedT → β} {f2 : PySem.W.SharedT → γ} {a : β} {b : γ}
theorem run_A (h1 : x.map (fun s => (f1 s, f2 s)) = some (a, b)) (h2 : x.map (fun s => (fa.all fun f => f.ok (He.frG (HandSHeadRun.getT s) L), ex (He.frG (HandSHeadRun.getT s) L))) = some (true, true))
    (h3 : x.map (fun s => (fn.all fun d => d.ok (He.frG (HandSHeadRun.getT s) L), fn.map fun d => He.fnW (He.frG (HandSHeadRun.getT s) L) d.at_)) = some (true, fn.map He.DefD.val)) : x.map (fun s => (f1 s, f2 s, obA L fa fn ex s)) = some (a, b, (He.valD fn, true)) := by
  cases x with
  | none => cases h1
  | some s =>
    simp only [Option.map_some, Option.some.injEq, Prod.mk.injEq] at h1 h2 h3 ⊢
    refine ⟨h1.1, h1.2, ?_⟩
    show ((((fa.all fun f => f.ok (He.frG (HandSHeadRun.getT s) L)) && fn.all fun d => d.ok (He.frG (HandSHeadRun.getT s) L)), fn.map fun d => He.fnW (He.frG (HandSHeadRun.getT s) L) d.at_), ex (He.frG (HandSHeadRun.getT s) L)) = ((true, fn.map He.DefD.val), true)
    rw [h2.1, h2.2, h3.1, h3.2]
    rfl
end
end Fk
namespace Fk
namespace Hd
open PySem PySem.Spec PyProof.Rows L2
def adr0 : List Nat := [1, 3, 24, 37, 23, 36, 6, 4, 46, 45, 53, 52, 60, 59, 67, 66, 74, 73, 79, 78, 86, 85, 93, 92, 100, 99, 107, 106, 114, 113, 121, 120, 128, 127, 135, 134, 142, 141, 149, 148]
def adr1 : List Nat := [156, 155, 161, 160, 168, 167, 175, 174, 180, 179]
def adr : List Nat := adr0 ++ adr1
def top (i : Nat) : Stmt := PySem.Challenge.pw_flashkeep_k20_orders_looked_at.main.body.getD i (.Pass ⟨0, 0, 0, 0⟩)
abbrev z_is_whole : Stmt := top 4
abbrev z_is_within : Stmt := top 5
abbrev z_is_plan : Stmt := top 12
abbrev z_need_plan : Stmt := top 13
abbrev z_is_row : Stmt := top 16
abbrev z_are_rows : Stmt := top 17
abbrev z_is_order_of : Stmt := top 18
abbrev z_is_order : Stmt := top 19
abbrev z__law_cell_at : Stmt := top 21
abbrev z__law_state : Stmt := top 22
abbrev z__law_choice : Stmt := top 23
abbrev z__law_same : Stmt := top 24
abbrev z__law_plan : Stmt := top 25
abbrev z__law_rows : Stmt := top 26
abbrev z__law_order : Stmt := top 27
abbrev z__law_in : Stmt := top 28
abbrev z__law_is_row : Stmt := top 29
abbrev z__law_is_order : Stmt := top 30
abbrev z__law_odd : Stmt := top 31
abbrev z__law_bent : Stmt := top 32
abbrev z_law : Stmt := top 33
def mk : List Str := []
def dd_is_whole : He.DefD := ⟨("is_whole", none), "is_whole", "is_whole", defArgs z_is_whole, defBody z_is_whole, defScope z_is_whole, [], []⟩
def dd_is_within : He.DefD := ⟨("is_within", none), "is_within", "is_within", defArgs z_is_within, defBody z_is_within, defScope z_is_within, [], []⟩
def dd_is_plan : He.DefD := ⟨("is_plan", none), "is_plan", "is_plan", defArgs z_is_plan, defBody z_is_plan, defScope z_is_plan, [], []⟩
def dd_need_plan : He.DefD := ⟨("need_plan", none), "need_plan", "need_plan", defArgs z_need_plan, defBody z_need_plan, defScope z_need_plan, [], []⟩
def dd_is_row : He.DefD := ⟨("is_row", none), "is_row", "is_row", defArgs z_is_row, defBody z_is_row, defScope z_is_row, [], []⟩
def dd_are_rows : He.DefD := ⟨("are_rows", none), "are_rows", "are_rows", defArgs z_are_rows, defBody z_are_rows, defScope z_are_rows, [], []⟩
def dd_is_order_of : He.DefD := ⟨("is_order_of", none), "is_order_of", "is_order_of", defArgs z_is_order_of, defBody z_is_order_of, defScope z_is_order_of, [], []⟩
def dd_is_order : He.DefD := ⟨("is_order", none), "is_order", "is_order", defArgs z_is_order, defBody z_is_order, defScope z_is_order, [], []⟩
def dd__law_cell_at : He.DefD := ⟨("_law_cell_at", none), "_law_cell_at", "_law_cell_at", defArgs z__law_cell_at, defBody z__law_cell_at, defScope z__law_cell_at, [], []⟩
def dd__law_state : He.DefD := ⟨("_law_state", none), "_law_state", "_law_state", defArgs z__law_state, defBody z__law_state, defScope z__law_state, [], []⟩
def dd__law_choice : He.DefD := ⟨("_law_choice", none), "_law_choice", "_law_choice", defArgs z__law_choice, defBody z__law_choice, defScope z__law_choice, [], []⟩
def dd__law_same : He.DefD := ⟨("_law_same", none), "_law_same", "_law_same", defArgs z__law_same, defBody z__law_same, defScope z__law_same, [], []⟩
def dd__law_plan : He.DefD := ⟨("_law_plan", none), "_law_plan", "_law_plan", defArgs z__law_plan, defBody z__law_plan, defScope z__law_plan, [], []⟩
def dd__law_rows : He.DefD := ⟨("_law_rows", none), "_law_rows", "_law_rows", defArgs z__law_rows, defBody z__law_rows, defScope z__law_rows, [], []⟩
def dd__law_order : He.DefD := ⟨("_law_order", none), "_law_order", "_law_order", defArgs z__law_order, defBody z__law_order, defScope z__law_order, [], []⟩
def dd__law_in : He.DefD := ⟨("_law_in", none), "_law_in", "_law_in", defArgs z__law_in, defBody z__law_in, defScope z__law_in, [], []⟩
def dd__law_is_row : He.DefD := ⟨("_law_is_row", none), "_law_is_row", "_law_is_row", defArgs z__law_is_row, defBody z__law_is_row, defScope z__law_is_row, [], []⟩
def dd__law_is_order : He.DefD := ⟨("_law_is_order", none), "_law_is_order", "_law_is_order", defArgs z__law_is_order, defBody z__law_is_order, defScope z__law_is_order, [], []⟩
def dd__law_odd : He.DefD := ⟨("_law_odd", none), "_law_odd", "_law_odd", defArgs z__law_odd, defBody z__law_odd, defScope z__law_odd, [], []⟩
def dd__law_bent : He.DefD := ⟨("_law_bent", none), "_law_bent", "_law_bent", defArgs z__law_bent, defBody z__law_bent, defScope z__law_bent, [], []⟩
def dd_law : He.DefD := ⟨("law", none), "law", "law", defArgs z_law, defBody z_law, defScope z_law, [], []⟩
def fn : List He.DefD := [dd_is_whole, dd_is_within, dd_is_plan, dd_need_plan, dd_is_row, dd_are_rows, dd_is_order_of, dd_is_order, dd__law_cell_at, dd__law_state, dd__law_choice, dd__law_same, dd__law_plan, dd__law_rows, dd__law_order, dd__law_in, dd__law_is_row, dd__law_is_order, dd__law_odd, dd__law_bent, dd_law]
def fa : List He.Fa := [.free "all", .free "bool", .free "enumerate", .free "int", .free "isinstance", .free "len", .free "list", .free "max", .free "min", .free "range", .free "repr", .free "str", .free "tuple", .int "MOST_BLOCKS" 8, .int "MOST_DATA" 63, .int "MOST_PAGES" 8, .int "MOST_PLACES" 16, .int "MOST_ROWS" 4, .int "SPARE" 5, .exc "NoPlan", .glo "NoPlan", .glo "is_whole", .glo "is_within", .glo "is_plan", .glo "need_plan", .glo "is_row", .glo "are_rows", .glo "is_order_of", .glo "is_order", .glo "_law_cell_at", .glo "_law_state", .glo "_law_choice", .glo "_law_same", .glo "_law_plan", .glo "_law_rows", .glo "_law_order", .glo "_law_in", .glo "_law_is_row", .glo "_law_is_order", .glo "_law_odd", .glo "_law_bent", .glo "law"]
def ex (K : PySem.W.Frag) : Bool := ((K.lookup sysModules).isSome) && true
abbrev R : PySem.W.OpenRow := PySem.W.OpenLaw.row PySem.Challenge.rw_flashkeep_k20_orders_looked_at
abbrev hk : PySem.W.Hook := hookA adr fa fn ex
noncomputable abbrev ob : PySem.W.SharedT → He.AlD × Bool := obA adr fa fn ex
def loose0 : List Str := ["FlashError", "NoPlan", "is_whole", "is_within", "MOST_DATA", "MOST_BLOCKS", "MOST_PAGES", "MOST_PLACES", "SPARE", "is_plan", "need_plan", "MOST_ROWS", "is_row", "are_rows", "is_order_of", "is_order", "_law_cell_at", "_law_state", "_law_choice", "_law_same", "_law_plan", "_law_rows", "_law_order", "_law_in", "_law_is_row"]
def loose1 : List Str := ["_law_is_order", "_law_odd", "_law_bent"]
def loose : List Str := loose0 ++ loose1
noncomputable abbrev endR (w : World) (os : OsState) : Option PySem.W.SharedT := HandSHeadRun.endF (HandSHeadRun.stepQ (HandSHeadRun.denQ HandSHeadRun.tabQ) R.prog w) 20000 R.prog w os
theorem run1 (w : World) (os : OsState) : (endR w os).map (fun s => (HandSHeadRun.looksF R.prog (PySem.W.boot_heap w.params) s.abs, HandSHeadRun.seenQ (PySem.W.view R.prog [33]) loose (importedModules R.prog.main.body) (fun s => PySem.W.xlAt (PySem.W.view R.prog [33]) [] s && PySem.W.recOk R.toRowW.records s) s.abs)) = some (true, PySem.W.openGood (PySem.W.view R.prog [33]) loose) := by
  kernel_rfl
theorem run2 (w : World) (os : OsState) : (endR w os).map (fun s => (fa.all fun f => f.ok (He.frG (HandSHeadRun.getT s) adr), ex (He.frG (HandSHeadRun.getT s) adr))) = some (true, true) := by
  kernel_rfl
theorem run3 (w : World) (os : OsState) : (endR w os).map (fun s => (fn.all fun d => d.ok (He.frG (HandSHeadRun.getT s) adr), fn.map fun d => He.fnW (He.frG (HandSHeadRun.getT s) adr) d.at_)) = some (true, fn.map He.DefD.val) := by
  kernel_rfl
theorem run (w : World) : HandSHeadRun.RunEq R (PySem.W.view R.prog [33]) hk ob 20000 loose w := fun os => run_A (run1 w os) (run2 w os) (run3 w os)
end Hd
end Fk
namespace Fk
open PySem PySem.Spec PyProof.Rows L2

section
variable {X : Cx} {k j : Nat} {x : Str} {ps : List Str} {dvs : List V} {sp : Sp} {E : XK} {p pos : Pos} {e : Expr} {es : List Expr} {t u : TA}
/-- either reading serves -/
theorem pe_or {ex : Expr} {a b : TE} (h1 : PE X ex a) (h2 : PE X ex b) : PE X ex (fun σ H Q => a σ H Q ∨ b σ H Q) :=
  ⟨fun pins s σ H Q I h => h.elim (fun q => h1.run pins s σ H Q I q) (fun q => h2.run pins s σ H Q I q)⟩
theorem pi_or {tg it : Expr} {a b : TI} (h1 : PI X tg it a) (h2 : PI X tg it b) : PI X tg it (fun σ H R => a σ H R ∨ b σ H R) :=
  ⟨fun pins s σ H R I h => h.elim (fun q => h1.run pins s σ H R I q) (fun q => h2.run pins s σ H R I q)⟩
end

/-! ### operators, whatever the operands are -/
def uAdd (K : PySem.W.Frag) : R2 := fun x y H Q => (∃ i j, x = .int i ∧ y = .int j ∧ Q (.int (i + j)) H) ∨
  ((∃ i j, x = .str i ∧ y = .str j ∧ i.length + j.length ≤ sizeLine ∧ Q (.str (i ++ j)) H) ∨ (rCat x y H Q ∨ rCatA K x y H Q))
def uSub : R2 := rI0 fun i j => .int (i - j)
def uMul (K : PySem.W.Frag) : R2 := fun x y H Q => (rI CMul fun i j => .int (i * j)) x y H Q ∨ (rRep x y H Q)
def uFdv : R2 := fun x y H Q => (rI CDiv fun i j => .int (i / j)) x y H Q ∨ (rI CDivW fun i j => .int (i / j)) x y H Q
def uMod : R2 := rI (fun _ j => 0 < j) fun i j => .int (i % j)
def uPow : R2 := rI CPow fun i j => .int (i ^ j.toNat)
def uLt : R2 := rI0 fun i j => .bl (decide (i < j))
def uLe : R2 := rI0 fun i j => .bl (decide (i ≤ j))
def uGt : R2 := rI0 fun i j => .bl (decide (j < i))
def uEq (K : PySem.W.Frag) : R2 := fun x y H Q => rEq x y H Q ∨ rEqD K x y H Q
def uNe (K : PySem.W.Frag) : R2 := fun x y H Q => rNe x y H Q ∨ rNeD K x y H Q
section
variable {X : Cx}
theorem o_add : OpR X (binaryOp .Add) (uAdd X.K) := op_add.or (op_add_str.or (op_cat.or op_catA))
theorem o_sub : OpR X (binaryOp .Sub) uSub := op_sub
theorem o_mul : OpR X (binaryOp .Mult) (uMul X.K) := op_mul.or op_rep
theorem o_fdv : OpR X (binaryOp .FloorDiv) uFdv := op_fdiv.or op_fdivW
theorem o_mod : OpR X (binaryOp .Mod) uMod := op_mod
theorem o_pow : OpR X (binaryOp .Pow) uPow := op_pow
theorem o_lt : OpR X (compareOp .Lt) uLt := op_lt
theorem o_le : OpR X (compareOp .LtE) uLe := op_le
theorem o_gt : OpR X (compareOp .Gt) uGt := op_gt
theorem o_eq (hu : X.A.units + 64 < cLine) : OpR X (compareOp .Eq) (uEq X.K) := op_eq.or (op_eqD hu)
theorem o_ne (hu : X.A.units + 64 < cLine) : OpR X (compareOp .NotEq) (uNe X.K) := op_ne.or (op_neD hu)
end
def uMax2 : List V → Hp → VK → Prop := fun xs H Q => ∃ i j, xs = [.int i, .int j] ∧ Q (.int (if j > i then j else i)) H
def uMin2 : List V → Hp → VK → Prop := fun xs H Q => ∃ i j, xs = [.int i, .int j] ∧ Q (.int (if j < i then j else i)) H
/-! ### exceptions of the text's own classes -/
structure ExcF (K : PySem.W.Frag) (mg : Str → Option Value) (x : Str) : Prop where
  gl : mg x = some (.ref (He.ga K x))
  ex : PySem.W.excIn K (He.ga K x) He.veBase "ValueError.__new__" = true
  kp : PySem.W.keepIn K (.ref (He.ga K x)) = true
  sub : PySem.W.subIn K (.ref (He.ga K x)) (.type "BaseException") = some true
  ty : PySem.W.typeIn K (.ref (He.ga K x)) = some (.type "type")
section
variable {X : Cx}
end
section
variable {P : Program} {w : World} {K : PySem.W.Frag} {mg : Str → Option Value} {base : Heap} {N : List Str} {qual : Str} {scope : Scope} {f : Addr} {cd : Value} {A : Around} {outer : List Env} {s : Shared} {H : Hp} {E : XK}
end
end Fk
/-! enumerate of a tuple, as a walked thing -/
namespace Fk
open PySem PySem.Spec PyProof.Rows L2
set_option maxHeartbeats 4000000 in
theorem meets_enumB {v : Value} {o : Obj} {Hx : Heap → Prop} (B : Begins v o Hx) :
    Meets (Builtin.«enumerate.__new__» ⟨[.type "enumerate", v], []⟩) (fun _ R s => Hx s.heap ∧
      R (.ok (.ret (.ref (s.heap.push o).objs.size)))
        { s with heap := (s.heap.push o).push { cls := .type "enumerate", data := .fields #[.none, .bool false, .ref s.heap.objs.size, rawInt 0, .none, .none] } }) := by
  refine .of_wp fun prog w A R s h => ?_
  obtain ⟨hp, g, d, tk, os⟩ := s
  obtain ⟨h1, h⟩ := h
  have hsub := sub_enumerate
  have q1 : ∀ {A' : Around} {E : Value → Shared → Prop} {Q : Value → Shared → Prop}, Q (.ref hp.objs.size) ⟨hp.push o, g, d, tk, os⟩ →
      wpAny (model prog w) A' (pyIter v) Q E ⟨hp, g, d, tk, os⟩ := fun z => B.iter prog w _ _ ⟨hp, g, d, tk, os⟩ _ h1 z
  wp_walk using q1
  refine wpAny_stack_any fun st => wpAny_pure ?_
  split
  · rename_i c _ _ _ _ _
    cases (c == Value.type "enumerate") <;> (wp_walk using q1; exact ⟨_, rfl, h⟩)
  · wp_walk using q1
    exact ⟨_, rfl, h⟩
theorem call_enumB {prog : Program} {w : World} {A : Around} {E : Value → Shared → Prop} {s : Shared} {v : Value} {o : Obj} {Hx : Heap → Prop} {Q : Value → Shared → Prop} (B : Begins v o Hx) (h1 : Hx s.heap)
    (h : ∀ h', IsEnum h' (s.heap.objs.size + 1) s.heap.objs.size 0 .none → h'.get? s.heap.objs.size = some o →
      (∀ b ob, s.heap.get? b = some ob → h'.get? b = some ob) → Q (.ref (s.heap.objs.size + 1)) { s with heap := h' }) :
    wpAny (model prog w) A (call (.type "enumerate") [v]) Q E s := by
  refine callType_new F.called_enumerate (by decide) (F.typeCall_enumerate_1 _) (F.newCall_enumerate_1 _) (fun obj => F.args_object_init_2 obj _) F.entry_enumerate_new (meets_enumB B) ⟨h1, ?_⟩
  have hz : (s.heap.push o).objs.size = s.heap.objs.size + 1 := Heap.size_push ..
  show _ ∧ _
  rw [hz]
  have he : IsEnum ((s.heap.push o).push { cls := .type "enumerate", data := .fields #[.none, .bool false, .ref s.heap.objs.size, rawInt 0, .none, .none] }) (s.heap.objs.size + 1) s.heap.objs.size 0 .none := by
    have e2 := Heap.get?_push_size (s.heap.push o) (o := { cls := .type "enumerate", data := .fields #[.none, .bool false, .ref s.heap.objs.size, rawInt 0, .none, .none] }) rfl
    rw [hz] at e2
    exact e2
  exact ⟨⟨_, he, rfl⟩, h _ he (Heap.get?_push_of_some _ (Heap.get?_push_size _ B.free)) fun b ob x => Heap.get?_push_of_some _ (Heap.get?_push_of_some _ x)⟩
/-- the tuple at a, each item in a new pair with its number -/
def IteT (K : PySem.W.Frag) (a : Addr) : It where
  go := fun i H => ∃ (xs : List V) (x : V), SqT K H a xs ∧ xs[i]? = some x
  yld := fun i H v H' => ∃ T x, v = .ref T ∧ H T = none ∧ H' = upd H T (.tup [.int (i : Nat), x]) ∧ ∀ xs, SqT K H a xs → xs[i]? = some x
  stop := fun i H => ∃ xs : List V, SqT K H a xs ∧ xs.length ≤ i
theorem turn_enumT {P : Program} {w : World} {K : PySem.W.Frag} {elts : List Expr} {kk : Nat} {tpos : Pos} (a e it : Addr) (hae : a ≠ e) (hai : a ≠ it) :
    Turn P w K (.Tuple elts kk tpos) (IteT K a) [e, it] e (fun i h => (∃ old, IsEnum h e it ((i : Nat) : Int) old) ∧ h.IsTupleIter it a i ∧ e ≠ it) where
  mem := by simp
  obj := fun i h st b hb => by
    obtain ⟨⟨old, he⟩, ⟨o, ho, hc, hd⟩, _⟩ := st
    rcases (by simpa using hb : b = e ∨ b = it) with rfl | rfl
    · exact ⟨_, he, fun v q => nomatch q⟩
    · exact ⟨o, ho, fun v q => by rw [hd] at q; cases q⟩
  keep := fun i h h' st k => by
    obtain ⟨⟨old, he⟩, hi, hne⟩ := st
    exact ⟨⟨old, k e (by simp) _ he⟩, hi.at fun o q => k it (by simp) o q, hne⟩
  item := by
    intro X hP hw hK hc i pins s σ H E I hf st hg
    subst hP hw hK
    obtain ⟨⟨old, he⟩, hit, hne⟩ := st
    obtain ⟨xs, x, hq, hx⟩ := hg
    obtain ⟨its, rv, p, hz⟩ := I.tuple hq
    obtain ⟨u, hu, ru⟩ := rv.get hx
    have hel : e < s.heap.objs.size := Heap.lt_size he
    have hil : it < s.heap.objs.size := by
      obtain ⟨_, q, _⟩ := hit
      exact Heap.lt_size q
    have hlt : i < its.toArray.size := by
      have := (List.getElem?_eq_some_iff.mp hu).1
      simpa using this
    have D : Draws X.prog X.w X.A.in1 it [it, a] its.toArray.size (fun i v => its.toArray[i]? = some v) (fun i h => h.IsTupleIter it a i ∧ h.IsTuple a its.toArray) :=
      Draws.tuple (A := X.A.in1) (show X.A.in1.handled = none from I.ok.hd hc) it a hai its.toArray
    have hef : e ∉ [it, a] := fun q => by
      rcases (by simpa using q : e = it ∨ e = a) with z | z
      · exact hne z
      · exact hae z.symm
    refine wpAny_pyNext_enum_itemD (i := i) D he ⟨hit, p⟩ hlt hne hef fun y h' tk hy ho hst hT hsz hk => ?_
    have ey : y = u := by
      have hu' : its.toArray[i]? = some u := by simpa using hu
      have hy' : its.toArray[i]? = some y := hy
      rw [hu'] at hy'
      exact (Option.some.inj hy').symm
    subst ey
    refine ⟨_, rfl, wpAny_letOwnedTupleGo_enum (s := { s with heap := h', toks := tk + 1 }) ho fun h'' he' sb => ?_⟩
    have hT2 : h''.get? s.heap.objs.size = some { cls := .type "tuple", data := .seq #[.int i tk, y] } := (sb.2 _ (Nat.ne_of_gt hel)).trans hT
    have new : ObjOk X.prog X.w (upd H s.heap.objs.size (.tup [.int (i : Nat), x])) h'' s.heap.objs.size (.tup [.int (i : Nat), x]) :=
      ⟨by show 2 ≤ sizeLine; decide, [.int i tk, y], .cons ⟨_, rfl⟩ (.cons ru .nil), ⟨_, hT2, rfl, _, rfl⟩⟩
    have I1 : Inv X pins σ (upd H s.heap.objs.size (.tup [.int (i : Nat), x])) { s with heap := h'', toks := tk + 1 } := by
      refine I.turnedNew (ch := [e, it]) (fun b ob hb q => ?_) hf (Nat.le_refl _) new
      have h1 : b ≠ e := fun z => hb (by simp [z])
      have h2 : b ≠ it := fun z => hb (by simp [z])
      exact (sb.2 b h1).trans (hk b ob h1 h2 q)
    refine ⟨.ref s.heap.objs.size, _, I1, rfl, ⟨_, x, rfl, I.hok.fresh (Nat.le_refl _), rfl, fun ys hy => by rw [I.tuple_inj hy hq]; exact hx⟩,
      ⟨⟨y, ?_⟩, hst.1.at fun o q => (sb.2 it (Ne.symm hne)).trans q, hne⟩, fun b hb => ?_⟩
    · have e1 : ((i + 1 : Nat) : Int) = (i : Int) + 1 := by omega
      rw [e1]
      exact he'
    · have hb' : b < s.heap.objs.size := by
        rcases (by simpa using hb : b = e ∨ b = it) with rfl | rfl
        · exact hel
        · exact hil
      rw [upd_ne (Nat.ne_of_lt hb')]
      exact (hf b hb).1
  done := by
    intro X hP hw hK hc i pins s σ H E I hf st hg
    subst hP hw hK
    obtain ⟨⟨old, he⟩, hit, hne⟩ := st
    obtain ⟨xs, hq, hx⟩ := hg
    obtain ⟨its, rv, p, hz⟩ := I.tuple hq
    obtain ⟨f0, f1, f2, f3, f4, f5⟩ := hf it (by simp)
    have hl := rv.length
    have D0 := Draws.tuple (prog := X.prog) (w := X.w) (A := X.A.in1) (show X.A.in1.handled = none from I.ok.hd hc) it a hai its.toArray
    have D : Draws X.prog X.w X.A.in1 it [it, a] 0 (fun _ _ => False) (fun _ h => h.IsTupleIter it a i ∧ h.IsTuple a its.toArray) :=
      { live := fun _ h st => D0.live i h st
        frame := fun _ h h' st hk => D0.frame i h h' st hk
        item := fun j s2 Q E2 hj st hQ => absurd hj (Nat.not_lt_zero _)
        done := fun s2 Q E2 st hE => wpAny_nextOf_tuple_end (show X.A.in1.handled = none from I.ok.hd hc) st.1 st.2 (by simp; omega) hE }
    exact wpAny_pyNext_enum_endD D he ⟨hit, p⟩ fun h' eb => ⟨rfl, I.turned (t' := s.toks) (fun b o hb q => eb b o hb q) f0 f1 f3 f4 f5⟩
  self := fun A i s Q E st h => by
    obtain ⟨⟨_, he⟩, _⟩ := st
    exact wpAny_pyIter_enum he h
/-- enumerate of a list or of a tuple -/
def iEnumA (K : PySem.W.Frag) (ta : TA) : TI := fun σ H R => iEnum K ta σ H R ∨ ta σ H fun vs H1 => ∃ a xs, vs = [.ref a] ∧ SqT K H1 a xs ∧ R (IteT K a) H1
theorem pi_enumT {X : Cx} {e : Expr} {ta : TA} {p pos tpos : Pos} {elts : List Expr} {kk : Nat} (hg : Gl X "enumerate") (hm : X.mg "enumerate" = none) (ha : PA X [e] ta)
    (hs : starEach [e] X.env = [(false, eval e X.env)] := by rfl) :
    PI X (.Tuple elts kk tpos) (.Call (.Name "enumerate" p) [e] [] pos) (fun σ H R => ta σ H fun vs H1 => ∃ a xs, vs = [.ref a] ∧ SqT X.K H1 a xs ∧ R (IteT X.K a) H1) := by
  refine ⟨fun pins s σ H R I h => ?_⟩
  refine Call_ (ld_blt I hg hm boot_enumerate (PyProof.Rows.callWith_type1 (thn (ha.run pos pins s σ H _ I h) fun us s1 hh => ?_) hs rfl))
  obtain ⟨vs, H1, I1, r1, a, xs, ex, hq, q⟩ := hh
  subst ex
  cases r1 with
  | cons r rr =>
    cases rr
    cases r
    obtain ⟨its, rv, p', hz⟩ := I1.tuple hq
    refine call_enumB (begins_tuple a its.toArray) p' fun h' he hit hk => wpAny_pyIter_enum he ?_
    have I2 : Inv X pins σ H1 { s1 with heap := h' } := I1.kept (t' := s1.toks) hk
    have al : a < s1.heap.objs.size := by
      obtain ⟨o, z, _⟩ := p'
      exact Heap.lt_size z
    refine ⟨s1.heap.objs.size + 1, [s1.heap.objs.size + 1, s1.heap.objs.size], _, _, H1, rfl, I2,
      turn_enumT a (s1.heap.objs.size + 1) s1.heap.objs.size (Nat.ne_of_lt (Nat.lt_succ_of_lt al)) (Nat.ne_of_lt al), ⟨⟨.none, he⟩, ⟨_, hit, rfl, rfl⟩, Nat.succ_ne_self _⟩, fun b hb => ?_, q⟩
    have hle : s1.heap.objs.size ≤ b := by
      rcases (by simpa using hb : b = s1.heap.objs.size + 1 ∨ b = s1.heap.objs.size) with z | z
      · rw [z]; exact Nat.le_succ _
      · rw [z]; exact Nat.le_refl _
    exact I1.fpOk hle (I1.hok.fresh hle)
theorem pi_enumA {X : Cx} {e : Expr} {ta : TA} {p pos tpos : Pos} {elts : List Expr} {kk : Nat} (hg : Gl X "enumerate") (hm : X.mg "enumerate" = none) (ha : PA X [e] ta)
    (hs : starEach [e] X.env = [(false, eval e X.env)] := by rfl) : PI X (.Tuple elts kk tpos) (.Call (.Name "enumerate" p) [e] [] pos) (iEnumA X.K ta) :=
  pi_or (pi_enum hg hm ha hs) (pi_enumT hg hm ha hs)
end Fk
/-! ## readings, run step by step -/
namespace Fk
open PySem PySem.Spec PyProof.Rows L2
/-- the i-th slot holds v -/
inductive GS : L2.St → Nat → V → Prop
  | z {v : V} {l : L2.St} : GS (some v :: l) 0 v
  | s {x : Option V} {v : V} {l : L2.St} {i : Nat} : GS l i v → GS (x :: l) (i + 1) v
theorem GS.get : ∀ {σ : L2.St} {i : Nat} {v : V}, GS σ i v → σ[i]? = some (some v)
  | _, _, _, .z => rfl
  | _, _, _, .s h => by simpa using h.get
/-- the i-th slot set -/
inductive NS : L2.St → Nat → V → L2.St → Prop
  | z {x : Option V} {v : V} {l : L2.St} : NS (x :: l) 0 v (some v :: l)
  | s {x : Option V} {v : V} {l l' : L2.St} {i : Nat} : NS l i v l' → NS (x :: l) (i + 1) v (x :: l')
theorem NS.eq : ∀ {σ σ' : L2.St} {i : Nat} {v : V}, NS σ i v σ' → σ.set i (some v) = σ'
  | _, _, _, _, .z => rfl
  | _, _, _, _, .s h => congrArg _ h.eq
section
variable {K : PySem.W.Frag} {D : Ends} {σ σ' σ'' : L2.St} {H H1 H2 : Hp} {Q : VK} {QB : Bool → Hp → Prop} {QA : List V → Hp → Prop} {E : XK} {i j k : Nat} {v u x : V} {vs : List V}
  {t tu tw : TS} {te ta tb tc : TE} {tt ttu : TT} {tA : TA} {g : TG} {r : R2} {a p : Addr} {xs ys : List V}
/-! operators -/
variable {m n : Int}
end
/-! ### loops by what is left -/
section
variable {K : PySem.W.Frag} {D : Ends} {σ : L2.St} {H : Hp} {g : TG} {tb : TS} {a : Addr} {xs : List V} {wi : TI}
end
section
variable {K : PySem.W.Frag} {H : Hp} {Q : VK} {a b : Nat}
end
/-! ### heaps that grow -/
abbrev Ex := Evl.Ex
theorem Ex.up {H H1 : Hp} {p : Addr} {o : HO} (e : Ex H H1) (h : H1 p = none) : Ex H (upd H1 p o) := Evl.Ex.trans e (Evl.Ex.new h)
theorem Ex.trans {H H1 H2 : Hp} (a : Ex H H1) (b : Ex H1 H2) : Ex H H2 := Evl.Ex.trans a b
theorem fresh {H H1 : Hp} {p : Addr} (e : Ex H H1) (h : H1 p = none) : H p = none := Evl.fresh_back e h
/-- tuples stay -/
def Tx (H H' : Hp) : Prop := ∀ t xs, H t = some (.tup xs) → H' t = some (.tup xs)
theorem Tx.trans {H H1 H2 : Hp} (a : Tx H H1) (b : Tx H1 H2) : Tx H H2 := fun t xs h => b t xs (a t xs h)
theorem Tx.new {H H1 : Hp} {p : Addr} {o : HO} (e : Tx H H1) (h : H1 p = none) : Tx H (upd H1 p o) := fun t xs q => by
  have z := e t xs q
  rw [upd_ne (fun w => by rw [w, h] at z; cases z)]
  exact z
theorem Tx.lst {H H1 : Hp} {p : Addr} {o : HO} {ys : List V} (e : Tx H H1) (h : H1 p = some (.lst ys)) : Tx H (upd H1 p o) := fun t xs q => by
  have z := e t xs q
  rw [upd_ne (fun w => by rw [w, h] at z; cases z)]
  exact z
/-! ### comprehensions -/
section
variable {K : PySem.W.Frag} {a : Addr} {xs : List V} {g : TG} {tt : TT} {te : TE} {vs : List Nat} {σ : L2.St} {H H1 : Hp} {D : Addr} {Qd : Hp → Prop}
end
/-! ### data stay -/
mutual
theorem dp_mono {K : PySem.W.Frag} {H H' : Hp} (e : Ex H H') : ∀ {v : V} {d : PyData}, Dp K H v d → Dp K H' v d
  | _, _, .non => .non
  | _, _, .bl b => .bl b
  | _, _, .int i => .int i
  | _, _, .str x => .str x
  | _, _, .lst h r => .lst (Evl.ex_l e h) (dpAll_mono e r)
  | _, _, .tup h r => .tup (Evl.ex_t e h) (dpAll_mono e r)
theorem dpAll_mono {K : PySem.W.Frag} {H H' : Hp} (e : Ex H H') : ∀ {vs : List V} {ds : List PyData}, DpAll K H vs ds → DpAll K H' vs ds
  | _, _, .nil => .nil
  | _, _, .cons h r => .cons (dp_mono e h) (dpAll_mono e r)
end
end Fk
/-! ## defs that are called where no repr is under way: repr of data -/
namespace Fk
open PySem PySem.Spec PyProof.Rows L2
/-- as FnOk, where no guard stands around -/
structure FnG (P : Program) (w : World) (K : PySem.W.Frag) (mg : Str → Option Value) (base : Heap) (k : Nat) (f : Addr) (fd : FuncData) (ps : List Str) (sp : Sp) : Prop where
  len : ∀ vs H Q E, sp vs H Q E → vs.length = ps.length
  run : ∀ (A : Around) (outer : List Env) (s : Shared) (H : Hp) (args : Args) (us : List Value) (vs : List V) (Q : VK) (E : XK), A.guards = some [] → Room k A → Env0 P w K mg base A outer s H →
    BindsTo s fd args (ps.zip us) → Vals vs us → sp vs H Q E → codeAny (model P w) A (.call (.ref f) args) (CR (L2.CX P w) outer P w H s Q E) s
section
variable {P : Program} {w : World} {K : PySem.W.Frag} {mg : Str → Option Value} {base : Heap} {k : Nat} {f : Addr} {fd : FuncData} {ps N : List Str} {sp : Sp} {x qual : Str} {params : Arguments} {body : List Stmt} {scope : Scope} {dvs : List V} {kws : List (Str × V)}
theorem FnG.of (F : FnOk P w K mg base (L2.CX P w) k f fd ps sp) : FnG P w K mg base k f fd ps sp := ⟨F.len, fun A outer s H args us vs Q E _ => F.run A outer s H args us vs Q E⟩
end
section
variable {X : Cx} {k j : Nat} {x : Str} {ps : List Str} {dvs : List V} {sp : Sp} {E : XK} {p pos : Pos} {e : Expr} {es : List Expr} {t : TA} {f : Addr} {fd : FuncData} {ds : List Value}
end
end Fk
/-! ## data whose text is short -/
namespace Fk
open PySem PySem.Spec PyProof.Rows L2
/-- data of depth at most k whose text has at most n signs -/
structure Sw (k n : Nat) (d : PyData) : Prop where
  lay : d.canLay0 = true
  dep : d.depth ≤ k
  shw : d.showable = true
  len : d.shown.length ≤ n
structure SwAll (k n : Nat) (ds : List PyData) : Prop where
  lay : PyData.canLayAll0 ds = true
  dep : PyData.depthAll ds ≤ k
  shw : PyData.showableAll ds = true
  len : ((PyData.shownAll ds).map (·.length)).sum + 2 * (PyData.shownAll ds).length ≤ n
theorem sw_none {k : Nat} : Sw k 4 .none := ⟨rfl, Nat.zero_le _, rfl, by decide +kernel⟩
theorem sw_bool {k : Nat} (b : Bool) : Sw k 5 (.bool b) := ⟨rfl, Nat.zero_le _, rfl, by cases b <;> decide +kernel⟩
theorem sw_int {k : Nat} {i : Int} (h : i.natAbs < 2 ^ 128) : Sw k 129 (.int i) := by
  have lg : i.natAbs.log2 < 128 := by
    by_cases z : i.natAbs = 0
    · rw [z]; decide
    · exact (Nat.log2_lt z).mpr h
  refine ⟨rfl, Nat.zero_le _, ?_, ?_⟩
  · have : i.natAbs.log2 < 1920 := by omega
    simpa [PyData.showable] using this
  · have e : (PyData.int i).shown = Str.ofString (toString i) := by simp only [PyData.shown]
    rw [e, PySem.ofString_length]
    exact int_text_length_le (by decide) lg
theorem sw_str {k : Nat} {x : Str} (ok : PyData.strOk x = true) : Sw k (10 * x.length + 2) (.str x) := by
  refine ⟨by simpa [PyData.canLay0] using ok, Nat.zero_le _, by simp [PyData.showable], ?_⟩
  have e : (PyData.str x).shown = reprText x := by simp only [PyData.shown]
  rw [e]
  refine StrLaws.reprText_len x fun c hc => ?_
  have q : x.cps.all (· < 0x110000) = true := ok
  have := Array.all_eq_true'.mp q c (by simpa using hc)
  have e2 : (0x110000 : Nat) ≤ 16 ^ 8 := by decide
  simp at this
  omega
theorem swa_nil {k : Nat} : SwAll k 0 [] := ⟨rfl, Nat.zero_le _, rfl, by simp [PyData.shownAll]⟩
theorem swa_cons {k n m : Nat} {d : PyData} {ds : List PyData} (h : Sw k n d) (r : SwAll k m ds) : SwAll k (n + 2 + m) (d :: ds) := by
  refine ⟨by simp [PyData.canLayAll0, h.lay, r.lay], ?_, by simp [PyData.showableAll, h.shw, r.shw], ?_⟩
  · have := h.dep
    have := r.dep
    simp only [PyData.depthAll]
    omega
  · have := h.len
    have := r.len
    simp only [PyData.shownAll, List.map_cons, List.sum_cons, List.length_cons]
    omega
theorem sw_lst {k n : Nat} {ds : List PyData} (h : SwAll k n ds) : Sw (k + 1) (n + 3) (.list ds) := by
  refine ⟨by simpa [PyData.canLay0] using h.lay, by have := h.dep; simp only [PyData.depth]; omega, by simpa [PyData.showable] using h.shw, ?_⟩
  have := listText_len_le (PyData.shownAll ds)
  have := h.len
  simp only [PyData.shown]
  omega
theorem Sw.shaped {k n : Nat} {d : PyData} (h : Sw k n d) (hk : k ≤ 60) : SeqAt.shaped d = true := by
  unfold SeqAt.shaped
  rw [h.lay, Bool.true_and]
  exact decide_eq_true (Nat.le_trans h.dep (by omega))
section
variable {K : PySem.W.Frag} {H : Hp} {Q : VK} {v u : V} {d e : PyData}
end
end Fk
/-! ## data with small dicts, their repr -/
namespace Fk
open PySem PySem.Spec PyProof.Rows L2
mutual
/-- what a value reads as: leaves, tuples, dicts of ints -/
inductive Dt (K : PySem.W.Frag) (H : Hp) : V → PyData → Prop
  | non : Dt K H .non .none
  | bl (b : Bool) : Dt K H (.bl b) (.bool b)
  | int (i : Int) : Dt K H (.int i) (.int i)
  | str (x : Str) : Dt K H (.str x) (.str x)
  | tup {a : Addr} {xs : List V} {ds : List PyData} : SqT K H a xs → DtAll K H xs ds → Dt K H (.ref a) (.tuple ds)
  | dct {a : Addr} {ns : List (Int × Int)} : H a = some (.dK (ns.map fun z => (Sum.inl z.1, V.int z.2))) → Dt K H (.ref a) (.dict (ns.map fun z => (.int z.1, .int z.2)))
inductive DtAll (K : PySem.W.Frag) (H : Hp) : List V → List PyData → Prop
  | nil : DtAll K H [] []
  | cons {v : V} {vs : List V} {d : PyData} {ds : List PyData} : Dt K H v d → DtAll K H vs ds → DtAll K H (v :: vs) (d :: ds)
end
theorem rd_pairs {P : Program} {w : World} {h : Heap} : ∀ (ns : List (Int × Int)) (es : List DictEntry) (vs : List (Key × Value)), KV (ns.map fun z => ((Sum.inl z.1 : Key), V.int z.2)) vs → Pairs (mixKind P w) es vs →
    ReadsAll h (es.map (·.key)) ((ns.map fun z => (PyData.int z.1, PyData.int z.2)).map (·.1)) [] ∧ ReadsAll h (es.map (·.val)) ((ns.map fun z => (PyData.int z.1, PyData.int z.2)).map (·.2)) []
  | [], es, vs, r, p => by
    rw [List.map_nil] at r
    cases r
    cases p
    exact ⟨.nil, .nil⟩
  | z :: ns, es, vs, r, p => by
    rw [List.map_cons] at r
    cases r with
    | cons h1 h2 =>
      cases p with
      | @cons e kv es' kvs' k1 k2 k3 =>
        obtain ⟨q1, q2⟩ := rd_pairs (h := h) ns es' _ h2 k3
        obtain ⟨e1, t, e2⟩ := h1
        rw [← e1] at k1
        rcases keyIs_shape (show keyIs (Sum.inl z.1) e.key = true from k1) with ⟨i, t', ei, ek⟩ | ⟨x, t', ei, ek⟩
        · cases ei
          refine ⟨?_, ?_⟩
          · have a := ReadsAll.cons (h := h) (Reads.int z.1 t') q1
            show ReadsAll h (e.key :: es'.map (·.key)) _ []
            rw [ek]
            exact a
          · have a := ReadsAll.cons (h := h) (Reads.int z.2 t) q2
            show ReadsAll h (e.val :: es'.map (·.val)) _ []
            rw [k2, e2]
            exact a
        · cases ei
section
variable {X : Cx} {pins : List (Addr × Obj)} {σ : L2.St} {H : Hp} {s : Shared}
mutual
theorem Dt.reads (I : Inv X pins σ H s) : ∀ (d : PyData) (v : V) (u : Value), Dt X.K H v d → RelV v u → ∃ as, Reads s.heap u d as ∧ sysModules ∉ as
  | .none, _, _, h, r => by
    cases h
    cases r
    exact ⟨_, Reads.none, by simp⟩
  | .bool b, _, _, h, r => by
    cases h
    cases r
    exact ⟨_, Reads.bool b, by simp⟩
  | .int i, _, _, h, r => by
    cases h
    obtain ⟨t, rfl⟩ := r
    exact ⟨_, Reads.int i t, by simp⟩
  | .str x, _, _, h, r => by
    cases h
    obtain ⟨t, rfl⟩ := r
    exact ⟨_, Reads.str x t, by simp⟩
  | .list ds, _, _, h, r => by cases h
  | .tuple ds, _, _, h, r => by
    cases h with
    | tup hs ha =>
      cases r
      obtain ⟨its, rv, ⟨o, ho, hc, n, hd⟩, _⟩ := I.tuple hs
      obtain ⟨as, hr, hn⟩ := Dt.readsAll I ds _ its ha rv
      exact ⟨_, Reads.tuple ho hc hd hr, hn⟩
  | .dict kvs, _, _, h, r => by
    generalize ek : kvs = kk at h
    cases h with
    | @dct a ns e =>
      cases r
      obtain ⟨_, hy, vs, kv, o, es, ep, ho, hx, hd, _, prs, _⟩ := I.hok a _ e
      obtain ⟨q1, q2⟩ := rd_pairs (h := s.heap) ns es.toList vs kv prs
      refine ⟨_, Reads.dict ho hx.1 hd q1 q2, ?_⟩
      intro z
      have z2 : sysModules = a := by simpa using z
      rw [z2] at hy
      simp at hy
theorem Dt.readsAll (I : Inv X pins σ H s) : ∀ (ds : List PyData) (vs : List V) (us : List Value), DtAll X.K H vs ds → Vals vs us → ∃ as, ReadsAll s.heap us ds as ∧ sysModules ∉ as
  | [], _, _, h, r => by
    cases h
    cases r
    exact ⟨_, ReadsAll.nil, by simp⟩
  | d :: ds, _, _, h, r => by
    cases h with
    | cons h1 h2 =>
      cases r with
      | cons r1 r2 =>
        obtain ⟨as, q1, n1⟩ := Dt.reads I d _ _ h1 r1
        obtain ⟨bs, q2, n2⟩ := Dt.readsAll I ds _ _ h2 r2
        exact ⟨_, ReadsAll.cons q1 q2, fun z => (List.mem_append.mp z).elim n1 n2⟩
end
end
/-- data of either sort -/
def Dd (K : PySem.W.Frag) (H : Hp) (v : V) (d : PyData) : Prop := Dp K H v d ∨ Dt K H v d
def uReprD (K : PySem.W.Frag) : List V → Hp → VK → Prop := fun xs H Q => ∃ v d, xs = [v] ∧ Dd K H v d ∧ d.showable = true ∧ d.depth ≤ 60 ∧ (Dp K H v d → d.hasDict = false) ∧ d.shown.length ≤ sizeLine ∧ Q (.str d.shown) H
end Fk
/-! ## more loops -/
namespace Fk
open PySem PySem.Spec PyProof.Rows L2
section
variable {K : PySem.W.Frag} {D : Ends} {σ : L2.St} {H : Hp} {g : TG} {tb : TS} {a : Addr} {xs : List V}
end
end Fk
/-! ## more rules: a tuple turned about; slices; in -/
namespace Fk
open PySem PySem.Spec PyProof.Rows L2
theorem rev_pick (xs : Array Value) : ((List.range xs.size).filterMap fun (m : Nat) => xs[(((xs.size : Int) - 1) + (m : Int) * (-1)).toNat]?).toArray = xs.toList.reverse.toArray := by
  have e : (List.range xs.size).filterMap (fun (m : Nat) => xs[(((xs.size : Int) - 1) + (m : Int) * (-1)).toNat]?) = ((List.range xs.size).map fun k => xs.size - 1 - k).filterMap (xs[·]?) := by
    rw [List.filterMap_map]
    have e1 : (fun (m : Nat) => xs[(((xs.size : Int) - 1) + (m : Int) * (-1)).toNat]?) = ((fun x => xs[x]?) ∘ fun k => xs.size - 1 - k) := by
      funext m
      have e2 : (((xs.size : Int) - 1) + (m : Int) * (-1)).toNat = xs.size - 1 - m := by omega
      show xs[_]? = xs[xs.size - 1 - m]?
      rw [e2]
    rw [e1]
  rw [e, PySem.W.krv_range, List.filterMap_reverse, PySem.W.krv_all]
section
variable {prog : Program} {w : World} {A : Around} {E : Value → Shared → Prop} {s : Shared}
theorem sliceApplied_rev {sl : Addr} {t : Tok} {n : Nat} {Q : Int × Int × Nat → Shared → Prop} (hs : s.heap.IsSliceOf sl .none .none (.int (-1) t))
    (h : Q ((n : Int) - 1, -1, n) s) : wpAny (model prog w) A (Builtin.Slice.sliceApplied (.ref sl) (pure (n : Int))) Q E s := by
  obtain ⟨os, hos, hcs, hds⟩ := id hs
  unfold Builtin.Slice.sliceApplied Builtin.Slice.sliceFields
  refine wpAny_bind (wpAny_bind (wpAny_field hos hds (x := .none) rfl (wpAny_bind (wpAny_field hos hds (x := .none) rfl (wpAny_bind (wpAny_field hos hds (x := .int (-1) t) rfl (wpAny_pure ?_)))))))
  refine wpAny_bind (HT.slicePart_ (IsPart.int _ _) ?_)
  show wpAny _ _ (if ((-1 : Int) == 0) = true then _ else _) _ _ s
  rw [if_neg (by decide)]
  refine wpAny_bind (HT.slicePart_ .none (wpAny_bind (HT.slicePart_ .none (wpAny_bind (wpAny_pure ?_)))))
  have e1 : Builtin.Slice.sliceAdjust none none (-1) (n : Int) = ((n : Int) - 1, -1) := rfl
  show wpAny _ _ (match Builtin.Slice.sliceAdjust none none (-1) (n : Int) with | (lo, hi) => pure (lo, (-1 : Int), Builtin.Slice.slicePlaces lo hi (-1))) _ _ s
  rw [e1]
  have e2 : Builtin.Slice.slicePlaces ((n : Int) - 1) (-1) (-1) = n := by
    unfold Builtin.Slice.slicePlaces
    rw [if_neg (by decide)]
    by_cases c : (n : Int) - 1 > -1
    · rw [if_pos c, show (- -1 : Int) = 1 by decide, Int.ediv_one]
      omega
    · rw [if_neg c]
      omega
  show wpAny _ _ (pure ((n : Int) - 1, (-1 : Int), Builtin.Slice.slicePlaces ((n : Int) - 1) (-1) (-1))) _ _ s
  rw [e2]
  exact wpAny_pure h
theorem getItem_tuple_rev {t sl : Addr} {tk : Tok} {items : Array Value} {Q : Value → Shared → Prop} (ht : IsTup s.heap t items) (hs : s.heap.IsSliceOf sl .none .none (.int (-1) tk))
    (h : Q (.ref s.heap.objs.size) { s with heap := s.heap.push { cls := .type "tuple", data := .seq items.toList.reverse.toArray } })
    (hsz : items.size ≤ sizeLine) : wpAny (model prog w) A (getItem (.ref t) (.ref sl)) Q E s := by
  have htake : sizeOk (.seq items.toList.reverse.toArray) := by
    show items.toList.reverse.toArray.size ≤ sizeLine
    rw [List.size_toArray, List.length_reverse, Array.length_toList]
    exact hsz
  obtain ⟨os, hos, hcs, hds⟩ := id hs
  have hTs : s.TypeIs (.ref sl) "slice" := ⟨os, hos, hcs⟩
  unfold getItem
  try with_reducible refine wpAny_holding ?_
  first | refine wpAny_bind (wpAny_pure ?_) | skip
  refine wpAny_bind (wpAny_sequenceKey ht.typeIs (by decide) ?_)
  refine wpAny_bind (wpAny_callSpecial?_slot (name := Str.ofString "__getitem__") ht.typeIs PyProof.Rows.slot_tuple_getitem
    (wpAny_call_entry PyProof.Rows.slot_tuple_getitem ht.typeIs entry_tuple_getitem ?_ (args_tuple_getitem _ _)))
  show wpAny _ _ (Builtin.Tuple.tupleItemsOf (.ref t) >>= _) _ _ s
  refine wpAny_bind (tupleItemsOf_ ht ?_)
  refine wpAny_bind (wpAny_typeOf hTs ?_)
  rw [if_pos (by decide)]
  refine wpAny_bind (sliceApplied_rev hs ?_)
  show wpAny _ _ (if ((((items.size : Int) - 1) == 0) && (-1 : Int) == 1 && items.size == items.size) = true then _ else _) _ _ s
  rw [if_neg (by rw [show ((-1 : Int) == 1) = false from rfl, Bool.and_false, Bool.false_and]; exact Bool.false_ne_true), rev_pick]
  first
    | exact wpAny_bind (m := Builtin.Tuple.tupleExact _) (wpAny_newObj_type (wpAny_pure ⟨_, rfl, wpAny_pure h⟩) htake)
    | exact wpAny_bind (m := Builtin.Tuple.tupleExact _) (wpAny_newObj_type (wpAny_bind (wpAny_pure (wpAny_pure ⟨_, rfl, wpAny_pure h⟩))) htake)
    | exact wpAny_bind (wpAny_bind (m := Builtin.Tuple.tupleExact _) (wpAny_newObj_type (wpAny_pure (wpAny_pure ⟨_, rfl, wpAny_pure h⟩)) htake))
    | exact wpAny_bind (wpAny_bind (m := Builtin.Tuple.tupleExact _) (wpAny_newObj_type (wpAny_pure ⟨_, rfl, wpAny_pure h⟩) htake))
end
section
variable {X : Cx}
def tRevT (K : PySem.W.Frag) (te : TE) : TE := fun σ H Q => te σ H fun x H1 => ∃ a xs, x = .ref a ∧ SqT K H1 a xs ∧ ∀ p, H1 p = none → Q (.ref p) (upd H1 p (.tup xs.reverse))
theorem pe_revT {e : Expr} {te : TE} {k : Nat} {p1 p2 p3 pos : Pos} (he : PE X e te) : PE X (.Subscript e (.Slice none none (some (.UnaryOp .USub (.Constant (.int 1) k p1) p2)) p3) pos) (tRevT X.K te) := by
  refine ⟨fun pins s σ H Q I h => ?_⟩
  refine Subscript_ (thn (he.run pins s σ H _ I h) fun v s1 ⟨x, H1, I1, r1, q1⟩ => ?_)
  obtain ⟨a, xs, ex, hx, q⟩ := q1
  subst ex
  cases r1
  have hst : PO X (some (.UnaryOp .USub (.Constant (.int 1) k p1) p2)) (tPart (tUn (rU fun i => .int (-i)) (tC (.int 1)))) := po_some (pe_un un_neg pe_int)
  refine wpAny_Slice (thn (po_none.run pins s1 σ H1 (fun o H2 => o = none ∧ H2 = H1) I1 ⟨rfl, rfl⟩) fun vl s2 ⟨l, H2, I2, pl, el, e2⟩ => ?_)
  subst el e2
  refine thn (po_none.run pins s2 σ H2 (fun o H3 => o = none ∧ H3 = H2) I2 ⟨rfl, rfl⟩) fun vu s3 ⟨u, H3, I3, pu, eu, e3⟩ => ?_
  subst eu e3
  refine thn (hst.run pins s3 σ H3 (fun o H4 => o = some (-1) ∧ H4 = H3) I3 ⟨1, rfl, -1, rfl, rfl, rfl⟩) fun vs s4 ⟨o, H4, I4, ps, eo, e4⟩ => ?_
  subst eo e4
  cases pl
  cases pu
  cases ps with
  | int _ tk =>
  have I5 : Inv X pins σ H4 { s4 with heap := s4.heap.push { cls := .type "slice", data := .fields #[.none, .none, .int (-1) tk] } } := I4.kept (t' := s4.toks) fun b ob q => Heap.get?_push_of_some _ q
  obtain ⟨its, r, ht, hz⟩ := I5.tuple hx
  have hlen := r.length
  show wpAny (model X.prog X.w) X.A (subscriptTail e (.Slice none none (some (.UnaryOp .USub (.Constant (.int 1) k p1) p2)) p3) (.ref a) (.ref s4.heap.objs.size)) (EP X pins σ Q) X.xe { s4 with heap := s4.heap.push { cls := .type "slice", data := .fields #[.none, .none, .int (-1) tk] } }
  refine tail_any (ops := [.ref a, .ref s4.heap.objs.size]) ht.typeIs PyProof.Rows.slot_tuple_getitem.lookup ?_ (by with_unfolding_all rfl)
  refine getItem_tuple_rev ht (Heap.IsSliceOf.new ..) ?_ (by rw [List.size_toArray]; omega)
  refine ⟨.ref _, _, I5.laid (t' := s4.toks) (o := .tup xs.reverse) (fun b ob q => Heap.get?_push_of_some _ q) (Nat.le_refl _) ?_, rfl, q _ (I5.hok.fresh (Nat.le_refl _))⟩
  exact ⟨by rw [List.length_reverse]; exact hz, its.reverse, r.reverse, ⟨_, Heap.get?_push_size _ rfl, rfl, _, rfl⟩⟩
def uRev (K : PySem.W.Frag) (te : TE) : TE := fun σ H Q => tRevL K te σ H Q ∨ tRevT K te σ H Q
theorem pe_rev {e : Expr} {te : TE} {k : Nat} {p1 p2 p3 pos : Pos} (he : PE X e te) : PE X (.Subscript e (.Slice none none (some (.UnaryOp .USub (.Constant (.int 1) k p1) p2)) p3) pos) (uRev X.K te) := pe_or (pe_revL he) (pe_revT he)
def uSl (K : PySem.W.Frag) : V → Option Int → Option Int → Hp → VK → Prop := fun x lo hi H Q => rSlL K x lo hi H Q ∨ (rSlA K x lo hi H Q ∨ rSlS x lo hi H Q)
theorem sl_any : SlR X (uSl X.K) := sl_list.or (sl_tupA.or sl_str)
def uList (K : PySem.W.Frag) : List V → Hp → VK → Prop := fun xs H Q => ∃ p ys, xs = [.ref p] ∧ (SqL K H p ys ∨ SqT K H p ys) ∧ ∀ l, H l = none → Q (.ref l) (upd H l (.lst ys))
def uTuple (K : PySem.W.Frag) : List V → Hp → VK → Prop := fun xs H Q => ∃ p ys, xs = [.ref p] ∧ ((SqL K H p ys ∧ ∀ l, H l = none → Q (.ref l) (upd H l (.tup ys))) ∨ (SqT K H p ys ∧ Q (.ref p) H))
end
section
variable {X : Cx}
def uAddB (K : PySem.W.Frag) : R2 := fun x y H Q => uAdd K x y H Q ∨ ∃ a i, x = .bl a ∧ y = .int i ∧ Q (.int ((if a = true then (1 : Int) else 0) + i)) H
def uSubB : R2 := fun x y H Q => uSub x y H Q ∨ ∃ a i, x = .bl a ∧ y = .int i ∧ Q (.int ((if a = true then (1 : Int) else 0) - i)) H
theorem op_addBI : OpR X (binaryOp .Add) (fun x y H Q => ∃ a i, x = .bl a ∧ y = .int i ∧ Q (.int ((if a = true then (1 : Int) else 0) + i)) H) := by
  intro pins s σ H x y v u Q I rx ry h
  obtain ⟨a, i, rfl, rfl, q⟩ := h
  cases rx
  obtain ⟨t, rfl⟩ := ry
  exact PySem.IntBool.add_bool_int ⟨.int _, H, I.tok _, ⟨_, rfl⟩, q⟩
theorem op_subBI : OpR X (binaryOp .Sub) (fun x y H Q => ∃ a i, x = .bl a ∧ y = .int i ∧ Q (.int ((if a = true then (1 : Int) else 0) - i)) H) := by
  intro pins s σ H x y v u Q I rx ry h
  obtain ⟨a, i, rfl, rfl, q⟩ := h
  cases rx
  obtain ⟨t, rfl⟩ := ry
  exact PySem.IntBool.sub_bool_int ⟨.int _, H, I.tok _, ⟨_, rfl⟩, q⟩
theorem o_addB : OpR X (binaryOp .Add) (uAddB X.K) := o_add.or op_addBI
theorem o_subB : OpR X (binaryOp .Sub) uSubB := o_sub.or op_subBI
end
theorem units65 {k : Nat} {A : Around} (r : Room k A) : A.units + 65 < cLine := by
  have := r.un
  omega
end Fk
/-! ## tuple * 1 -/
namespace Fk
open PySem PySem.Spec PyProof.Rows L2
theorem tuple_mul1 (l : Addr) (items : Array Value) (n : Nat) (dd : Option Addr) (sl : Array (Option Value)) (u : Tok) (c1 : (items.isEmpty || (1 : Int) == 1) = true) :
    Meets (Builtin.«tuple.__mul__» ⟨[.ref l, .int 1 u], []⟩) (fun _ R s => s.heap.get? l = some { cls := .type "tuple", dict := dd, data := .seq items n, slots := sl } ∧ R (.ok (.ret (Value.ref l))) s) :=
  .of_wp fun prog w A R s h => by
    obtain ⟨hp, g, d, tk, os⟩ := s
    obtain ⟨hl, h⟩ := h
    have f1 := AutoSeq1.idx_int
    wp_walk using wpAny_loadPart' hl
    exact ⟨_, rfl, h⟩
def rRep1 (K : PySem.W.Frag) : R2 := fun x y H Q => ∃ l xs, x = .ref l ∧ y = .int 1 ∧ SqT K H l xs ∧ Q (.ref l) H
theorem op_rep1 {X : Cx} : OpR X (binaryOp .Mult) (rRep1 X.K) := by
  intro pins s σ H x y v u Q I rx ry h
  obtain ⟨l, xs, rfl, rfl, hT, q⟩ := h
  cases rx
  obtain ⟨t, rfl⟩ := ry
  obtain ⟨its, r, ⟨⟨cls, dd, data, sl⟩, ho, hc, n, hd⟩, hs⟩ := I.tuple hT
  simp only at hc hd
  subst hc hd
  refine wpAny_binaryOp_repeat_ref (T := "tuple") (U := "int") (by decide) ⟨_, ho, rfl⟩ (fun s' => typeIs_int s' 1 t) noFill_tuple_mul F.fills_int_mul F.slot_int_rmul repeat_tuple F.slot_int_index.lookup
    (call_meets F.slot_int_rmul (typeIs_int s 1 t) F.entry_int_rmul (F.args_int_rmul_2 _ _) (int_rmul_tuple 1 t l its.toArray n dd sl)
      ⟨ho, rfl, ⟨_, ho, rfl⟩, call_meets F.slot_tuple_mul ⟨_, ho, rfl⟩ F.entry_tuple_mul (F.args_tuple_mul_2 _ _) (tuple_mul1 l its.toArray n dd sl t (by simp)) ⟨ho, ?_⟩⟩)
  exact ⟨.ref l, H, I, rfl, q⟩
end Fk
/-! ## plain values: what a run of the text is worth -/
namespace Fk
open PySem PySem.Spec PyProof.Rows L2
/-- a value as a tree; lst, dct: of shared things, the first letter tells whether it is owned (may be changed); nst, ndc, ins: owned ones of owned things; loc: an object by its number -/
inductive AV where
  | non | bl (b : Bool) | int (i : Int) | str (x : Str)
  | tup (xs : List AV)
  | lst (o : Bool) (xs : List AV)
  | dct (o : Bool) (ks : List Key) (xs : List AV)
  | scr (xs : List AV)
  | nst (xs : List AV)
  | ndc (ks : List Key) (xs : List AV)
  | ins (C : Str) (ks : List Str) (xs : List AV)
  | loc (l : Nat)
  | ded
  | set (ks : List Int)
  | tud (xs : List AV)
/-- a slot: nothing, a value, an owned tree -/
inductive Sl where
  | no | im (d : AV) | ow (d : AV)
structure Ss where
  r : List Sl
  s : List AV
inductive Res (α β : Type) where
  | ok (a : α) (s : β)
  | err (c : Str) (s : β)
  | bad
abbrev M (α : Type) := Ss → Res α Ss
inductive Fl where
  | nx | rt (d : AV) | bk | ct

/-- a list that is locked (the script) -/
def Scr (K : PySem.W.Frag) (H : Hp) (a : Addr) (us : List V) : Prop := (∃ ob, H a = some (.frz ob (.lst us))) ∨
  ∃ (o : Obj) (its : Array Value) (n : Nat), K.lookup a = some o ∧ o.cls = .type "list" ∧ o.dict = none ∧ o.data = .seq its n ∧ its.size ≤ sizeLine ∧ Vals us its.toList
theorem Scr.sq {K : PySem.W.Frag} {H : Hp} {a : Addr} {us : List V} (h : Scr K H a us) : SqL K H a us := h.elim (fun z => .inl (.inr z)) .inr
/-- a set of ints, by its members -/
structure SetIs (S : Int → Bool) (n : Nat) (ks : List Int) : Prop where
  mem : ∀ k, S k = decide (k ∈ ks)
  len : n = ks.length
  nd : ks.Nodup
/-- what values, objects stand for: as are the owned addresses, W those that bear no shared thing, m where the shared objects stand -/
inductive Rp (K : PySem.W.Frag) (H : Hp) (W m : List Addr) : List V → List AV → List Addr → Prop
  | nil : Rp K H W m [] [] []
  | non {vs xs as} (r : Rp K H W m vs xs as) : Rp K H W m (.non :: vs) (.non :: xs) as
  | bl {b vs xs as} (r : Rp K H W m vs xs as) : Rp K H W m (.bl b :: vs) (.bl b :: xs) as
  | int {i vs xs as} (r : Rp K H W m vs xs as) : Rp K H W m (.int i :: vs) (.int i :: xs) as
  | str {z vs xs as} (r : Rp K H W m vs xs as) : Rp K H W m (.str z :: vs) (.str z :: xs) as
  | tup {a us ys vs xs as} (h : SqT K H a us) (q : Rp K H W m us ys []) (r : Rp K H W m vs xs as) : Rp K H W m (.ref a :: vs) (.tup ys :: xs) as
  | lsI {a us ys vs xs as} (h : H a = some (.lst us)) (n : a ∉ W) (q : Rp K H W m us ys []) (r : Rp K H W m vs xs as) : Rp K H W m (.ref a :: vs) (.lst false ys :: xs) as
  | lsO {a us ys vs xs as} (h : H a = some (.lst us)) (q : Rp K H W m us ys []) (r : Rp K H W m vs xs as) : Rp K H W m (.ref a :: vs) (.lst true ys :: xs) (a :: as)
  | dcI {a kvs ks ys vs xs as} (h : H a = some (.dK kvs)) (n : a ∉ W) (e : kvs.map (·.1) = ks) (q : Rp K H W m (kvs.map (·.2)) ys []) (r : Rp K H W m vs xs as) : Rp K H W m (.ref a :: vs) (.dct false ks ys :: xs) as
  | dcO {a kvs ks ys vs xs as} (h : H a = some (.dK kvs)) (e : kvs.map (·.1) = ks) (q : Rp K H W m (kvs.map (·.2)) ys []) (r : Rp K H W m vs xs as) : Rp K H W m (.ref a :: vs) (.dct true ks ys :: xs) (a :: as)
  | scr {a us ys vs xs as} (h : Scr K H a us) (q : Rp K H W m us ys []) (r : Rp K H W m vs xs as) : Rp K H W m (.ref a :: vs) (.scr ys :: xs) as
  | nst {a us ys bs vs xs as} (h : H a = some (.lst us)) (q : Rp K H W m us ys bs) (r : Rp K H W m vs xs as) : Rp K H W m (.ref a :: vs) (.nst ys :: xs) (a :: (bs ++ as))
  | ndc {a kvs ks ys bs vs xs as} (h : H a = some (.dK kvs)) (e : kvs.map (·.1) = ks) (q : Rp K H W m (kvs.map (·.2)) ys bs) (r : Rp K H W m vs xs as) : Rp K H W m (.ref a :: vs) (.ndc ks ys :: xs) (a :: (bs ++ as))
  | ins {a C dx fs ks ys bs vs xs as} (h : H a = some (.ins (He.ga K C) dx fs)) (e : fs.map (·.1) = ks) (q : Rp K H W m (fs.map (·.2)) ys bs) (r : Rp K H W m vs xs as) : Rp K H W m (.ref a :: vs) (.ins C ks ys :: xs) (a :: (bs ++ as))
  | loc {a l vs xs as} (h : m[l]? = some a) (r : Rp K H W m vs xs as) : Rp K H W m (.ref a :: vs) (.loc l :: xs) as
  | ded {a vs xs as} (r : Rp K H W m vs xs as) : Rp K H W m (.ref a :: vs) (.ded :: xs) as
  | set {a S n ks vs xs as} (h : H a = some (.set S n)) (e : SetIs S n ks) (r : Rp K H W m vs xs as) : Rp K H W m (.ref a :: vs) (.set ks :: xs) (a :: as)
  | tud {a ob us ys vs xs as} (h : H a = some (.frz ob (.tup us))) (n : ob.dict = none) (q : Rp K H W m us ys []) (r : Rp K H W m vs xs as) : Rp K H W m (.ref a :: vs) (.tud ys :: xs) as

def mutO : HO → Bool
  | .lst _ => true
  | .dK _ => true
  | .ins _ _ _ => true
  | .set _ _ => true
  | _ => false
def NoTbl (o : HO) : Prop := ∀ ps, o ≠ .tbl ps
/-- the heap behind: all but what stands at L is kept -/
structure Kp (H H' : Hp) (L : List Addr) : Prop where
  keep : ∀ b o, H b = some o → b ∉ L → NoTbl o → H' b = some o
  kind : ∀ b ∈ L, ∃ o, H b = some o ∧ mutO o = true
theorem Kp.new {H : Hp} {p : Addr} {o : HO} (h : H p = none) : Kp H (upd H p o) [] := ⟨fun b u e _ _ => by rw [upd_ne (ne_of_none e h)]; exact e, fun _ z => nomatch z⟩
theorem Kp.put {H : Hp} {p : Addr} {o u : HO} (h : H p = some u) (hm : mutO u = true) : Kp H (upd H p o) [p] :=
  ⟨fun b v e n _ => by rw [upd_ne (fun z => n (by simp [z]))]; exact e, fun b z => by
    have e : b = p := by simpa using z
    subst e
    exact ⟨u, h, hm⟩⟩
theorem Kp.refl {H : Hp} : Kp H H [] := ⟨fun _ _ e _ _ => e, fun _ z => nomatch z⟩
section
variable {K : PySem.W.Frag} {H H' : Hp} {W W' m m' L : List Addr} {vs vs' : List V} {xs xs' : List AV} {as as' bs : List Addr} {v : V} {x : AV}
theorem Rp.len (r : Rp K H W m vs xs as) : vs.length = xs.length := by
  induction r with
  | nil => rfl
  | _ => simp_all
theorem rd_keep {u : HO} {a : Addr} (k : Kp H H' L) (h : Rd H a u) (n : a ∉ L) (t : NoTbl u) : Rd H' a u := by
  rcases h with h | ⟨o, h⟩
  · exact .inl (k.keep a _ h n t)
  · exact .inr ⟨o, k.keep a _ h n (fun ps z => by cases z)⟩
theorem scr_keep {us : List V} {a : Addr} (k : Kp H H' L) (h : Scr K H a us) : Scr K H' a us := by
  rcases h with ⟨ob, h⟩ | h
  · refine .inl ⟨ob, k.keep a _ h (fun z => ?_) (fun ps z => by cases z)⟩
    obtain ⟨o, e, q⟩ := k.kind a z
    rw [h] at e
    cases e
    cases q
  · exact .inr h
theorem frz_keep {ob : Obj} {u : HO} {a : Addr} (k : Kp H H' L) (h : H a = some (.frz ob u)) : H' a = some (.frz ob u) := by
  refine k.keep a _ h (fun z => ?_) (fun ps z => by cases z)
  obtain ⟨o, e, q⟩ := k.kind a z
  rw [h] at e
  cases e
  cases q
theorem sqT_keep {us : List V} {a : Addr} (k : Kp H H' L) (h : SqT K H a us) : SqT K H' a us := by
  rcases h with h | h
  · refine .inl (rd_keep k h (fun z => ?_) (fun ps z => by cases z))
    obtain ⟨o, e, q⟩ := k.kind a z
    rcases h with h | ⟨ob, h⟩
    · rw [h] at e; cases e; cases q
    · rw [h] at e; cases e; cases q
  · exact .inr h
/-- all owned ones stand -/
theorem Rp.there (r : Rp K H W m vs xs as) : ∀ a ∈ as, ∃ o, H a = some o ∧ mutO o = true := by
  have one : ∀ {a : Addr} {o : HO} {as : List Addr}, H a = some o → mutO o = true → (∀ b ∈ as, ∃ o, H b = some o ∧ mutO o = true) → ∀ b ∈ a :: as, ∃ o, H b = some o ∧ mutO o = true := fun h q i b z => by
    rcases List.mem_cons.mp z with rfl | z
    · exact ⟨_, h, q⟩
    · exact i b z
  have two : ∀ {as bs : List Addr}, (∀ b ∈ as, ∃ o, H b = some o ∧ mutO o = true) → (∀ b ∈ bs, ∃ o, H b = some o ∧ mutO o = true) → ∀ b ∈ as ++ bs, ∃ o, H b = some o ∧ mutO o = true := fun i j b z => (List.mem_append.mp z).elim (i b) (j b)
  induction r with
  | nil => intro a z; cases z
  | lsO h _ _ _ i2 => exact one h rfl i2
  | dcO h _ _ _ _ i2 => exact one h rfl i2
  | nst h _ _ i1 i2 => exact one h rfl (two i1 i2)
  | ndc h _ _ _ i1 i2 => exact one h rfl (two i1 i2)
  | ins h _ _ _ i1 i2 => exact one h rfl (two i1 i2)
  | set h _ _ i => exact one h rfl i
  | _ => assumption
theorem Rp.keep (k : Kp H H' L) (hL : ∀ b ∈ L, b ∈ W) (hW : ∀ b, (∃ o, H b = some o) → b ∉ W → b ∉ W') (hm : ∀ (l : Nat) a, m[l]? = some a → m'[l]? = some a)
    (r : Rp K H W m vs xs as) : (∀ b ∈ as, b ∉ L) → Rp K H' W' m' vs xs as := by
  induction r with
  | nil => intro _; exact .nil
  | non _ i => intro n; exact .non (i n)
  | bl _ i => intro n; exact .bl (i n)
  | int _ i => intro n; exact .int (i n)
  | str _ i => intro n; exact .str (i n)
  | tup h _ _ i1 i2 => intro n; exact .tup (sqT_keep k h) (i1 (fun _ z => nomatch z)) (i2 n)
  | lsI h nw _ _ i1 i2 => intro n; exact .lsI (k.keep _ _ h (fun z => nw (hL _ z)) (fun ps z => by cases z)) (hW _ ⟨_, h⟩ nw) (i1 (fun _ z => nomatch z)) (i2 n)
  | lsO h _ _ i1 i2 => intro n; exact .lsO (k.keep _ _ h (n _ (by simp)) (fun ps z => by cases z)) (i1 (fun _ z => nomatch z)) (i2 (fun b z => n b (by simp [z])))
  | dcI h nw e _ _ i1 i2 => intro n; exact .dcI (k.keep _ _ h (fun z => nw (hL _ z)) (fun ps z => by cases z)) (hW _ ⟨_, h⟩ nw) e (i1 (fun _ z => nomatch z)) (i2 n)
  | dcO h e _ _ i1 i2 => intro n; exact .dcO (k.keep _ _ h (n _ (by simp)) (fun ps z => by cases z)) e (i1 (fun _ z => nomatch z)) (i2 (fun b z => n b (by simp [z])))
  | nst h _ _ i1 i2 =>
    intro n
    exact .nst (k.keep _ _ h (n _ (by simp)) (fun ps z => by cases z)) (i1 (fun b z => n b (by simp [z]))) (i2 (fun b z => n b (by simp [z])))
  | ndc h e _ _ i1 i2 =>
    intro n
    exact .ndc (k.keep _ _ h (n _ (by simp)) (fun ps z => by cases z)) e (i1 (fun b z => n b (by simp [z]))) (i2 (fun b z => n b (by simp [z])))
  | ins h e _ _ i1 i2 =>
    intro n
    exact .ins (k.keep _ _ h (n _ (by simp)) (fun ps z => by cases z)) e (i1 (fun b z => n b (by simp [z]))) (i2 (fun b z => n b (by simp [z])))
  | scr h _ _ i1 i2 => intro n; exact .scr (scr_keep k h) (i1 (fun _ z => nomatch z)) (i2 n)
  | loc h _ i => intro n; exact .loc (hm _ _ h) (i n)
  | ded _ i => intro n; exact .ded (i n)
  | tud h d _ _ i1 i2 => intro n; exact .tud (frz_keep k h) d (i1 (fun _ z => nomatch z)) (i2 n)
  | set h e _ i => intro n; exact .set (k.keep _ _ h (n _ (by simp)) (fun ps z => by cases z)) e (i (fun b z => n b (by simp [z])))
/-- one behind the other -/
theorem Rp.app (r : Rp K H W m vs xs as) (q : Rp K H W m vs' xs' as') : Rp K H W m (vs ++ vs') (xs ++ xs') (as ++ as') := by
  induction r with
  | nil => exact q
  | non _ i => exact .non i
  | bl _ i => exact .bl i
  | int _ i => exact .int i
  | str _ i => exact .str i
  | tup h q1 _ _ i2 => exact .tup h q1 i2
  | lsI h n q1 _ _ i2 => exact .lsI h n q1 i2
  | lsO h q1 _ _ i2 => exact .lsO h q1 i2
  | nst h q1 _ _ i2 => exact (by simpa [List.append_assoc] using Rp.nst h q1 i2)
  | ndc h e q1 _ _ i2 => exact (by simpa [List.append_assoc] using Rp.ndc h e q1 i2)
  | dcI h n e q1 _ _ i2 => exact .dcI h n e q1 i2
  | dcO h e q1 _ _ i2 => exact .dcO h e q1 i2
  | ins h e q1 _ _ i2 => exact (by simpa [List.append_assoc] using Rp.ins h e q1 i2)
  | scr h q1 _ _ i2 => exact .scr h q1 i2
  | loc h _ i => exact .loc h i
  | ded _ i => exact .ded i
  | set h e _ i => exact .set h e i
  | tud h d q1 _ _ i2 => exact .tud h d q1 i2
theorem Rp.cons (r : Rp K H W m [v] [x] as) (q : Rp K H W m vs xs as') : Rp K H W m (v :: vs) (x :: xs) (as ++ as') := r.app q
/-- the first and the rest -/
theorem Rp.head (r : Rp K H W m (v :: vs) (x :: xs) as) : ∃ a1 a2, as = a1 ++ a2 ∧ Rp K H W m [v] [x] a1 ∧ Rp K H W m vs xs a2 := by
  cases r with
  | non r => exact ⟨[], as, rfl, .non .nil, r⟩
  | bl r => exact ⟨[], as, rfl, .bl .nil, r⟩
  | int r => exact ⟨[], as, rfl, .int .nil, r⟩
  | str r => exact ⟨[], as, rfl, .str .nil, r⟩
  | tup h q r => exact ⟨[], as, rfl, .tup h q .nil, r⟩
  | lsI h n q r => exact ⟨[], as, rfl, .lsI h n q .nil, r⟩
  | @lsO a us ys _ _ as' h q r => exact ⟨[a], as', rfl, .lsO h q .nil, r⟩
  | @nst a us ys bs _ _ as' h q r => exact ⟨a :: (bs ++ []), as', by simp, .nst h q .nil, r⟩
  | @ndc a kvs ks ys bs _ _ as' h e q r => exact ⟨a :: (bs ++ []), as', by simp, .ndc h e q .nil, r⟩
  | dcI h n e q r => exact ⟨[], as, rfl, .dcI h n e q .nil, r⟩
  | @dcO a kvs ks ys _ _ as' h e q r => exact ⟨[a], as', rfl, .dcO h e q .nil, r⟩
  | @ins a C dx fs ks ys bs _ _ as' h e q r => exact ⟨a :: (bs ++ []), as', by simp, .ins h e q .nil, r⟩
  | scr h q r => exact ⟨[], as, rfl, .scr h q .nil, r⟩
  | loc h r => exact ⟨[], as, rfl, .loc h .nil, r⟩
  | ded r => exact ⟨[], as, rfl, .ded .nil, r⟩
  | tud h d q r => exact ⟨[], as, rfl, .tud h d q .nil, r⟩
  | @set a S n ks _ _ as' h e r => exact ⟨[a], as', rfl, .set h e .nil, r⟩
theorem Rp.nil_inv (r : Rp K H W m vs [] as) : vs = [] ∧ as = [] := by
  cases r
  exact ⟨rfl, rfl⟩
theorem Rp.nil_inv' (r : Rp K H W m [] xs as) : xs = [] ∧ as = [] := by
  cases r
  exact ⟨rfl, rfl⟩
/-- shared things alone -/
theorem Rp.head0 (r : Rp K H W m (v :: vs) (x :: xs) []) : Rp K H W m [v] [x] [] ∧ Rp K H W m vs xs [] := by
  obtain ⟨a1, a2, e, r1, r2⟩ := r.head
  have e1 : a1 = [] ∧ a2 = [] := List.append_eq_nil_iff.mp e.symm
  rw [e1.1] at r1
  rw [e1.2] at r2
  exact ⟨r1, r2⟩
theorem Rp.cons0 (r : Rp K H W m [v] [x] []) (q : Rp K H W m vs xs as) : Rp K H W m (v :: vs) (x :: xs) as := r.app q
theorem Rp.app_inv : ∀ {vs vs' : List V} {xs xs' : List AV} {as : List Addr}, vs.length = xs.length → Rp K H W m (vs ++ vs') (xs ++ xs') as → ∃ a1 a2, as = a1 ++ a2 ∧ Rp K H W m vs xs a1 ∧ Rp K H W m vs' xs' a2
  | [], _, [], _, as, _, r => ⟨[], as, rfl, .nil, r⟩
  | [], _, _ :: _, _, _, h, _ => by cases h
  | _ :: _, _, [], _, _, h, _ => by cases h
  | v :: vs, vs', x :: xs, xs', as, h, r => by
    obtain ⟨a1, a2, e, r1, r2⟩ := Rp.head (show Rp K H W m (v :: (vs ++ vs')) (x :: (xs ++ xs')) as from r)
    obtain ⟨b1, b2, e2, q1, q2⟩ := Rp.app_inv (by simpa using h) r2
    exact ⟨a1 ++ b1, b2, by rw [e, e2, List.append_assoc], r1.cons q1, q2⟩
/-- at a place -/
theorem Rp.at_ {j : Nat} (r : Rp K H W m vs xs as) (h : xs[j]? = some x) : ∃ v a1 b a2, vs[j]? = some v ∧ as = a1 ++ (b ++ a2) ∧ Rp K H W m (vs.take j) (xs.take j) a1 ∧ Rp K H W m [v] [x] b ∧ Rp K H W m (vs.drop (j + 1)) (xs.drop (j + 1)) a2 := by
  have hl := r.len
  obtain ⟨hj, ex⟩ := List.getElem?_eq_some_iff.mp h
  have hj2 : j < vs.length := by omega
  have e1 : xs = xs.take j ++ (x :: xs.drop (j + 1)) := by
    conv => lhs; rw [← List.take_append_drop j xs]
    rw [List.drop_eq_getElem_cons hj, ex]
  have e2 : vs = vs.take j ++ (vs[j] :: vs.drop (j + 1)) := by
    conv => lhs; rw [← List.take_append_drop j vs]
    rw [List.drop_eq_getElem_cons hj2]
  have r' := r
  rw [e1, e2] at r'
  obtain ⟨a1, a2, e, r1, r2⟩ := Rp.app_inv (by simp; omega) r'
  obtain ⟨b, c, e3, r3, r4⟩ := r2.head
  exact ⟨vs[j], a1, b, c, by simp [hj2], by rw [e, e3], r1, r3, r4⟩
theorem Rp.put {j : Nat} {a1 b a2 : List Addr} (hj : j < xs.length) (r1 : Rp K H W m (vs.take j) (xs.take j) a1) (r2 : Rp K H W m [v] [x] b) (r3 : Rp K H W m (vs.drop (j + 1)) (xs.drop (j + 1)) a2) (hl : vs.length = xs.length) :
    Rp K H W m (vs.set j v) (xs.set j x) (a1 ++ (b ++ a2)) := by
  rw [List.set_eq_take_append_cons_drop, List.set_eq_take_append_cons_drop, if_pos hj, if_pos (by omega)]
  exact r1.app (r2.cons r3)
theorem Rp.get0 {j : Nat} (r : Rp K H W m vs xs []) (h : xs[j]? = some x) : ∃ v, vs[j]? = some v ∧ Rp K H W m [v] [x] [] := by
  obtain ⟨v, a1, b, a2, e1, e2, _, r2, _⟩ := r.at_ h
  obtain ⟨_, e3⟩ := List.append_eq_nil_iff.mp e2.symm
  obtain ⟨e4, _⟩ := List.append_eq_nil_iff.mp e3
  rw [e4] at r2
  exact ⟨v, e1, r2⟩
/-- whose addresses they are plays no part but by membership -/
theorem Rp.perm (r : Rp K H W m vs xs as) (h : ∀ b, b ∈ W' → b ∈ W) : Rp K H W' m vs xs as :=
  r.keep Kp.refl (fun _ z => nomatch z) (fun b _ n z => n (h b z)) (fun _ _ e => e) (fun _ _ z => nomatch z)
/-- an owned list or dict, given up: it is shared from now on -/
def frz : AV → Option AV
  | .lst _ xs => some (.lst false xs)
  | .dct _ ks xs => some (.dct false ks xs)
  | _ => none
theorem Rp.frz {d : AV} (r : Rp K H W m [v] [x] as) (e : Fk.frz x = some d) (h : ∀ b, b ∈ W' → b ∈ W) (n : ∀ b ∈ as, b ∉ W') : Rp K H W' m [v] [d] [] := by
  cases r with
  | lsI h1 n1 q _ => cases e; exact .lsI h1 (fun z => n1 (h _ z)) (q.perm h) .nil
  | lsO h1 q _ => cases e; exact .lsI h1 (n _ (by simp)) (q.perm h) .nil
  | dcI h1 n1 e1 q _ => cases e; exact .dcI h1 (fun z => n1 (h _ z)) e1 (q.perm h) .nil
  | dcO h1 e1 q _ => cases e; exact .dcI h1 (n _ (by simp)) e1 (q.perm h) .nil
  | _ => cases e
/-- what stands in slots -/
inductive Rs (K : PySem.W.Frag) (H : Hp) (W m : List Addr) : L2.St → List Sl → List Addr → Prop
  | nil : Rs K H W m [] [] []
  | no {o σ r as} (q : Rs K H W m σ r as) : Rs K H W m (o :: σ) (.no :: r) as
  | im {v d σ r as} (h : Rp K H W m [v] [d] []) (q : Rs K H W m σ r as) : Rs K H W m (some v :: σ) (.im d :: r) as
  | ow {v d bs σ r as} (h : Rp K H W m [v] [d] bs) (q : Rs K H W m σ r as) : Rs K H W m (some v :: σ) (.ow d :: r) (bs ++ as)
variable {σ : L2.St} {r : List Sl}
theorem Rs.len (q : Rs K H W m σ r as) : σ.length = r.length := by
  induction q with
  | nil => rfl
  | _ => simp_all
theorem Rs.there (q : Rs K H W m σ r as) : ∀ a ∈ as, ∃ o, H a = some o ∧ mutO o = true := by
  induction q with
  | nil => intro a z; cases z
  | no _ i => exact i
  | im _ _ i => exact i
  | ow h _ i => exact fun b z => (List.mem_append.mp z).elim (h.there b) (i b)
theorem Rs.keep (k : Kp H H' L) (hL : ∀ b ∈ L, b ∈ W) (hW : ∀ b, (∃ o, H b = some o) → b ∉ W → b ∉ W') (hm : ∀ (l : Nat) a, m[l]? = some a → m'[l]? = some a)
    (q : Rs K H W m σ r as) : (∀ b ∈ as, b ∉ L) → Rs K H' W' m' σ r as := by
  induction q with
  | nil => intro _; exact .nil
  | no _ i => intro n; exact .no (i n)
  | im h _ i => intro n; exact .im (h.keep k hL hW hm (fun _ z => nomatch z)) (i n)
  | ow h _ i => intro n; exact .ow (h.keep k hL hW hm (fun b z => n b (by simp [z]))) (i (fun b z => n b (by simp [z])))
theorem Rs.perm (q : Rs K H W m σ r as) (h : ∀ b, b ∈ W' → b ∈ W) : Rs K H W' m σ r as :=
  q.keep Kp.refl (fun _ z => nomatch z) (fun b _ n z => n (h b z)) (fun _ _ e => e) (fun _ _ z => nomatch z)
end
/-! ### slots, by place -/
def getSl : List Sl → Nat → Sl
  | [], _ => .no
  | x :: _, 0 => x
  | _ :: r, n + 1 => getSl r n
def setSl : List Sl → Nat → Sl → List Sl
  | [], _, _ => []
  | _ :: r, 0, y => y :: r
  | x :: r, n + 1, y => x :: setSl r n y
@[simp] theorem getSl_z (x : Sl) (r : List Sl) : getSl (x :: r) 0 = x := rfl
@[simp] theorem getSl_s (x : Sl) (r : List Sl) (n : Nat) : getSl (x :: r) (n + 1) = getSl r n := rfl
@[simp] theorem setSl_z (x : Sl) (r : List Sl) (y : Sl) : setSl (x :: r) 0 y = y :: r := rfl
@[simp] theorem setSl_s (x : Sl) (r : List Sl) (n : Nat) (y : Sl) : setSl (x :: r) (n + 1) y = x :: setSl r n y := rfl
section
variable {K : PySem.W.Frag} {H H' : Hp} {W W' m m' L : List Addr} {as bs : List Addr} {v : V} {d : AV} {σ : L2.St} {r : List Sl} {i : Nat}
theorem Rs.getIm (q : Rs K H W m σ r as) (h : getSl r i = .im d) : ∃ v, σ[i]? = some (some v) ∧ Rp K H W m [v] [d] [] := by
  induction q generalizing i with
  | nil => cases h
  | no _ ih => cases i with
    | zero => cases h
    | succ i => simpa using ih h
  | im h1 _ ih => cases i with
    | zero => cases h; exact ⟨_, rfl, h1⟩
    | succ i => simpa using ih h
  | ow _ _ ih => cases i with
    | zero => cases h
    | succ i => simpa using ih h
/-- an owned thing in a slot, taken out and something put there -/
theorem Rs.getOw (q : Rs K H W m σ r as) (h : getSl r i = .ow d) : ∃ v a1 b a2, σ[i]? = some (some v) ∧ as = a1 ++ (b ++ a2) ∧ Rp K H W m [v] [d] b ∧ Rs K H W m σ (setSl r i .no) (a1 ++ a2) := by
  induction q generalizing i with
  | nil => cases h
  | no _ ih => cases i with
    | zero => cases h
    | succ i =>
      obtain ⟨v, a1, b, a2, e1, e2, h1, h2⟩ := ih h
      exact ⟨v, a1, b, a2, by simpa using e1, e2, h1, .no h2⟩
  | im h0 _ ih => cases i with
    | zero => cases h
    | succ i =>
      obtain ⟨v, a1, b, a2, e1, e2, h1, h2⟩ := ih h
      exact ⟨v, a1, b, a2, by simpa using e1, e2, h1, .im h0 h2⟩
  | @ow v0 d0 bs0 σ r as h0 q0 ih => cases i with
    | zero => cases h; exact ⟨v0, [], bs0, as, rfl, rfl, h0, .no q0⟩
    | succ i =>
      obtain ⟨v, a1, b, a2, e1, e2, h1, h2⟩ := ih h
      refine ⟨v, bs0 ++ a1, b, a2, by simpa using e1, by rw [e2]; simp, h1, ?_⟩
      have h3 := Rs.ow h0 h2
      rw [List.append_assoc]
      exact h3
/-- a slot forgotten: what it owned goes -/
theorem Rs.drop (q : Rs K H W m σ r as) (i : Nat) : ∃ as', (∀ b ∈ as', b ∈ as) ∧ (as.Nodup → as'.Nodup) ∧ Rs K H W m σ (setSl r i .no) as' := by
  induction q generalizing i with
  | nil => exact ⟨[], fun _ z => z, fun z => z, .nil⟩
  | no q0 ih => cases i with
    | zero => exact ⟨_, fun _ z => z, fun z => z, .no q0⟩
    | succ i =>
      obtain ⟨as', h1, h2, h3⟩ := ih i
      exact ⟨as', h1, h2, .no h3⟩
  | im h0 q0 ih => cases i with
    | zero => exact ⟨_, fun _ z => z, fun z => z, .no q0⟩
    | succ i =>
      obtain ⟨as', h1, h2, h3⟩ := ih i
      exact ⟨as', h1, h2, .im h0 h3⟩
  | @ow v0 d0 bs0 σ r as h0 q0 ih => cases i with
    | zero => exact ⟨as, fun _ z => by simp [z], fun z => (List.nodup_append.mp z).2.1, .no q0⟩
    | succ i =>
      obtain ⟨as', h1, h2, h3⟩ := ih i
      refine ⟨bs0 ++ as', fun b z => ?_, fun z => ?_, .ow h0 h3⟩
      · rcases List.mem_append.mp z with z | z
        · simp [z]
        · simp [h1 b z]
      · obtain ⟨n1, n2, n3⟩ := List.nodup_append.mp z
        exact List.nodup_append.mpr ⟨n1, h2 n2, fun a ha b hb => n3 a ha b (h1 b hb)⟩
theorem Rs.setNo (q : Rs K H W m σ (setSl r i .no) as) (hi : i < r.length) (h : Rp K H W m [v] [d] []) : Rs K H W m (σ.set i (some v)) (setSl r i (.im d)) as := by
  induction r generalizing i σ as with
  | nil => simp at hi
  | cons x r ih => cases i with
    | zero =>
      cases q with
      | no q => exact .im h q
    | succ i =>
      have hi' : i < r.length := by simpa using hi
      cases q with
      | no q => exact .no (ih q hi')
      | im h0 q => exact .im h0 (ih q hi')
      | ow h0 q => exact .ow h0 (ih q hi')
theorem Rs.setOw (q : Rs K H W m σ (setSl r i .no) as) (hi : i < r.length) (h : Rp K H W m [v] [d] bs) : ∃ a1 a2, as = a1 ++ a2 ∧ Rs K H W m (σ.set i (some v)) (setSl r i (.ow d)) (a1 ++ (bs ++ a2)) := by
  induction r generalizing i σ as with
  | nil => simp at hi
  | cons x r ih => cases i with
    | zero =>
      cases q with
      | no q => exact ⟨[], as, rfl, by simpa using Rs.ow h q⟩
    | succ i =>
      have hi' : i < r.length := by simpa using hi
      cases q with
      | no q =>
        obtain ⟨a1, a2, e, h1⟩ := ih q hi'
        exact ⟨a1, a2, e, .no h1⟩
      | im h0 q =>
        obtain ⟨a1, a2, e, h1⟩ := ih q hi'
        exact ⟨a1, a2, e, .im h0 h1⟩
      | @ow _ _ b0 _ _ as0 h0 q =>
        obtain ⟨a1, a2, e, h1⟩ := ih q hi'
        refine ⟨b0 ++ a1, a2, by rw [e, List.append_assoc], ?_⟩
        have h3 := Rs.ow h0 h1
        rw [List.append_assoc]
        exact h3
theorem setSl_len : ∀ (r : List Sl) (i : Nat) (y : Sl), (setSl r i y).length = r.length
  | [], _, _ => rfl
  | _ :: _, 0, _ => rfl
  | _ :: r, i + 1, y => by simp [setSl_len r i y]
theorem getSl_lt : ∀ {r : List Sl} {i : Nat}, getSl r i ≠ .no → i < r.length
  | [], _, h => absurd rfl h
  | _ :: _, 0, _ => by simp
  | _ :: r, i + 1, h => by simpa using getSl_lt (r := r) h
end
end Fk
/-! ## states: slots, objects, what is pending -/
namespace Fk
open PySem PySem.Spec PyProof.Rows L2
/-- how a def was entered: U what its callers own, H0 the heap, A0 what the objects own, m0 where they stand; T the tables of code -/
structure Gam where
  U : List Addr
  H0 : Hp
  A0 : List Addr
  m0 : List Addr
  T : List (Addr × Str)
/-- what is pending: shared values, owned ones, ones that are only looked at -/
structure Pd where
  iv : List V := []
  ix : List AV := []
  ov : List V := []
  ox : List AV := []
  bv : List V := []
  bx : List AV := []
abbrev Pd.sh (p : Pd) (v : V) (d : AV) : Pd := { p with iv := v :: p.iv, ix := d :: p.ix }
abbrev Pd.own (p : Pd) (v : V) (d : AV) : Pd := { p with ov := v :: p.ov, ox := d :: p.ox }
abbrev Pd.lk (p : Pd) (v : V) (d : AV) : Pd := { p with bv := v :: p.bv, bx := d :: p.bx }
abbrev Pd.nob (p : Pd) : Pd := { p with bv := [], bx := [] }
abbrev wOf (Γ : Gam) (ar am ao : List Addr) : List Addr := Γ.U ++ (ar ++ (am ++ ao))
/-- the tables of code of T -/
structure Tb (T : List (Addr × Str)) (H : Hp) : Prop where
  t : LamX.Tabs T H
theorem Tb.new {T : List (Addr × Str)} {H : Hp} {q : Addr} {o : HO} (x : Tb T H) (h : H q = none) (no : NoTbl o) : Tb T (upd H q o) :=
  ⟨x.t.ext fun b u e => by rw [upd_ne (ne_of_none e h)]; exact e⟩
structure Rl (K : PySem.W.Frag) (Γ : Gam) (σ : L2.St) (H : Hp) (st : Ss) (p : Pd) (m ar am ao ab : List Addr) : Prop where
  rs : Rs K H (wOf Γ ar am ao) m σ st.r ar
  rm : Rp K H (wOf Γ ar am ao) m (m.map V.ref) st.s am
  ri : Rp K H (wOf Γ ar am ao) m p.iv p.ix []
  ro : Rp K H (wOf Γ ar am ao) m p.ov p.ox ao
  rb : Rp K H (wOf Γ ar am ao) m p.bv p.bx ab
  nd : (wOf Γ ar am ao).Nodup
  fr : ∀ a ∈ ar ++ (am ++ ao), a ∈ Γ.A0 ∨ Γ.H0 a = none
  kp : ∀ a o, Γ.H0 a = some o → a ∉ Γ.A0 → ∃ o', H a = some o' ∧ (NoTbl o → o' = o)
  pm : ∀ (l : Nat) a, Γ.m0[l]? = some a → m[l]? = some a
  gu : ∀ a ∈ Γ.U, (∃ o, Γ.H0 a = some o ∧ mutO o = true) ∧ a ∉ Γ.A0
  tb : Tb Γ.T H
def Rel (K : PySem.W.Frag) (Γ : Gam) (σ : L2.St) (H : Hp) (st : Ss) (p : Pd) : Prop := ∃ m ar am ao ab, Rl K Γ σ H st p m ar am ao ab
theorem mut_noTbl {o : HO} (h : mutO o = true) : NoTbl o := fun ps z => by
  subst z
  cases h
section
variable {K : PySem.W.Frag} {Γ : Gam} {σ : L2.St} {H H' : Hp} {st : Ss} {p : Pd} {m ar am ao ab : List Addr}
/-- all owned ones stand -/
theorem Rl.own (R : Rl K Γ σ H st p m ar am ao ab) : ∀ a ∈ wOf Γ ar am ao, ∃ o, H a = some o ∧ mutO o = true := fun a ha => by
  rcases List.mem_append.mp ha with h | h
  · obtain ⟨⟨o, e, q⟩, n⟩ := R.gu a h
    obtain ⟨o', e', f⟩ := R.kp a o e n
    rw [f (mut_noTbl q)] at e'
    exact ⟨o, e', q⟩
  · rcases List.mem_append.mp h with h | h
    · exact R.rs.there a h
    · rcases List.mem_append.mp h with h | h
      · exact R.rm.there a h
      · exact R.ro.there a h
theorem Rl.fresh (R : Rl K Γ σ H st p m ar am ao ab) {q : Addr} (h : H q = none) : q ∉ wOf Γ ar am ao := fun z => by
  obtain ⟨o, e, _⟩ := R.own q z
  rw [h] at e
  cases e
theorem Rl.free0 (R : Rl K Γ σ H st p m ar am ao ab) {q : Addr} (h : H q = none) : q ∈ Γ.A0 ∨ Γ.H0 q = none := by
  by_cases c : q ∈ Γ.A0
  · exact .inl c
  · right
    cases e : Γ.H0 q with
    | none => rfl
    | some o =>
      obtain ⟨o', e', _⟩ := R.kp q o e c
      rw [h] at e'
      cases e'
theorem tabs_put {T : List (Addr × Str)} {a : Addr} {o u : HO} (x : Tb T H) (h : H a = some u) (q : mutO u = true) (no : NoTbl o := by intro ps z; cases z) : Tb T (upd H a o) := by
  refine ⟨fun p hp => ?_⟩
  obtain ⟨ps, e, tr, f⟩ := x.t p hp
  refine ⟨ps, ?_, tr, fun pos cv hc => ?_⟩
  · rw [upd_ne]
    · exact e
    · rintro rfl
      rw [e] at h
      cases h
      cases q
  · obtain ⟨c, e1, e2⟩ := f pos cv hc
    refine ⟨c, e1, ?_⟩
    rw [upd_ne]
    · exact e2
    · rintro rfl
      rw [e2] at h
      cases h
      cases q
/-- a new thing is laid: nothing else turns -/
theorem Rl.up (R : Rl K Γ σ H st p m ar am ao ab) {q : Addr} (h : H q = none) (o : HO) (no : NoTbl o := by intro ps z; cases z) : Rl K Γ σ (upd H q o) st p m ar am ao ab where
  rs := R.rs.keep (Kp.new h) (fun _ z => nomatch z) (fun _ _ n => n) (fun _ _ e => e) (fun _ _ z => nomatch z)
  rm := R.rm.keep (Kp.new h) (fun _ z => nomatch z) (fun _ _ n => n) (fun _ _ e => e) (fun _ _ z => nomatch z)
  ri := R.ri.keep (Kp.new h) (fun _ z => nomatch z) (fun _ _ n => n) (fun _ _ e => e) (fun _ _ z => nomatch z)
  ro := R.ro.keep (Kp.new h) (fun _ z => nomatch z) (fun _ _ n => n) (fun _ _ e => e) (fun _ _ z => nomatch z)
  rb := R.rb.keep (Kp.new h) (fun _ z => nomatch z) (fun _ _ n => n) (fun _ _ e => e) (fun _ _ z => nomatch z)
  nd := R.nd
  fr := R.fr
  kp := fun a u e n => by
    obtain ⟨o', e', f⟩ := R.kp a u e n
    exact ⟨o', by rw [upd_ne (ne_of_none e' h)]; exact e', f⟩
  pm := R.pm
  gu := R.gu
  tb := R.tb.new h no
/-- values pending: dropped, taken -/
theorem Rl.setI (R : Rl K Γ σ H st p m ar am ao ab) {vs : List V} {xs : List AV} (h : Rp K H (wOf Γ ar am ao) m vs xs []) : Rl K Γ σ H st { p with iv := vs, ix := xs } m ar am ao ab :=
  ⟨R.rs, R.rm, h, R.ro, R.rb, R.nd, R.fr, R.kp, R.pm, R.gu, R.tb⟩
theorem Rl.setB (R : Rl K Γ σ H st p m ar am ao ab) {vs : List V} {xs : List AV} {ab' : List Addr} (h : Rp K H (wOf Γ ar am ao) m vs xs ab') : Rl K Γ σ H st { p with bv := vs, bx := xs } m ar am ao ab' :=
  ⟨R.rs, R.rm, R.ri, R.ro, h, R.nd, R.fr, R.kp, R.pm, R.gu, R.tb⟩
theorem Rl.nob (R : Rl K Γ σ H st p m ar am ao ab) : Rl K Γ σ H st p.nob m ar am ao [] := R.setB .nil
/-- a new tuple -/
theorem Rl.tup (R : Rl K Γ σ H st p m ar am ao ab) {q : Addr} {vs : List V} {xs : List AV} (h : H q = none) (r : Rp K H (wOf Γ ar am ao) m vs xs []) : Rl K Γ σ (upd H q (.tup vs)) st (p.sh (.ref q) (.tup xs)) m ar am ao ab := by
  have R' := R.up h (.tup vs)
  have r' := r.keep (Kp.new (o := .tup vs) h) (fun _ z => nomatch z) (fun _ _ n => n) (fun _ _ e => e) (fun _ z => nomatch z)
  exact R'.setI (.tup (SqT.of upd_same) r' R'.ri)
/-- a new shared list, dict -/
theorem Rl.lst (R : Rl K Γ σ H st p m ar am ao ab) {q : Addr} {vs : List V} {xs : List AV} (h : H q = none) (r : Rp K H (wOf Γ ar am ao) m vs xs []) : Rl K Γ σ (upd H q (.lst vs)) st (p.sh (.ref q) (.lst false xs)) m ar am ao ab := by
  have R' := R.up h (.lst vs)
  have r' := r.keep (Kp.new (o := .lst vs) h) (fun _ z => nomatch z) (fun _ _ n => n) (fun _ _ e => e) (fun _ z => nomatch z)
  exact R'.setI (.lsI upd_same (R.fresh h) r' R'.ri)
/-- how what is kept passes over -/
structure Tr (H H' : Hp) (W W' m m' L : List Addr) : Prop where
  k : Kp H H' L
  hL : ∀ b ∈ L, b ∈ W
  hW : ∀ b, (∃ o, H b = some o) → b ∉ W → b ∉ W'
  hm : ∀ (l : Nat) a, m[l]? = some a → m'[l]? = some a
variable {W W' m' L : List Addr} {vs : List V} {xs : List AV} {as : List Addr} {r : List Sl}
theorem Tr.rp (t : Tr H H' W W' m m' L) (h : Rp K H W m vs xs as) (n : ∀ b ∈ as, b ∉ L) : Rp K H' W' m' vs xs as := h.keep t.k t.hL t.hW t.hm n
theorem Tr.rp0 (t : Tr H H' W W' m m' L) (h : Rp K H W m vs xs []) : Rp K H' W' m' vs xs [] := h.keep t.k t.hL t.hW t.hm (fun _ z => nomatch z)
theorem Tr.rs (t : Tr H H' W W' m m' L) (h : Rs K H W m σ r as) (n : ∀ b ∈ as, b ∉ L) : Rs K H' W' m' σ r as := h.keep t.k t.hL t.hW t.hm n
/-- a fresh thing that is owned -/
theorem Tr.new {q : Addr} {o : HO} (h : H q = none) (hw : ∀ b, b ∈ W' → b ∈ W ∨ b = q) : Tr H (upd H q o) W W' m m [] :=
  ⟨Kp.new h, (fun _ z => nomatch z), fun b ⟨o, e⟩ n z => (hw b z).elim n (fun z => by rw [z, h] at e; cases e), fun _ _ e => e⟩
/-- an owned thing is written -/
theorem Tr.put {q : Addr} {o u : HO} (h : H q = some u) (hm : mutO u = true) (hq : q ∈ W) (hw : ∀ b, b ∈ W' → b ∈ W) : Tr H (upd H q o) W W' m m [q] :=
  ⟨Kp.put h hm, fun b z => by rw [List.mem_singleton.mp z]; exact hq, fun b _ n z => n (hw b z), fun _ _ e => e⟩
theorem Tr.same (hw : ∀ b, b ∈ W' → b ∈ W) : Tr H H W W' m m [] := ⟨Kp.refl, (fun _ z => nomatch z), fun b _ n z => n (hw b z), fun _ _ e => e⟩
/-- a new list, dict that is owned by what is pending -/
theorem Rl.newO (R : Rl K Γ σ H st p m ar am ao ab) {q : Addr} {o : HO} {d : AV} (h : H q = none) (hr : ∀ {H' : Hp} {W' : List Addr}, Tr H H' (wOf Γ ar am ao) W' m m [] → H' q = some o → Rp K H' W' m [.ref q] [d] [q]) (no : NoTbl o := by intro ps z; cases z) :
    Rl K Γ σ (upd H q o) st (p.own (.ref q) d) m ar am (q :: ao) ab := by
  have t : Tr H (upd H q o) (wOf Γ ar am ao) (wOf Γ ar am (q :: ao)) m m [] := Tr.new h fun b z => by
    simp only [wOf, List.mem_append, List.mem_cons] at z ⊢
    grind
  have nq := R.fresh h
  refine ⟨t.rs R.rs (fun _ _ z => nomatch z), t.rp R.rm (fun _ _ z => nomatch z), t.rp0 R.ri, (hr t upd_same).cons (t.rp R.ro (fun _ _ z => nomatch z)), t.rp R.rb (fun _ _ z => nomatch z), ?_, ?_, ?_, R.pm, R.gu, ?_⟩
  · have h := R.nd
    simp only [wOf, List.nodup_append, List.nodup_cons, List.mem_append, List.mem_cons] at h nq ⊢
    grind
  · intro a ha
    have h1 := R.fr a
    have h2 := R.free0 h
    simp only [List.mem_append, List.mem_cons] at h1 ha
    grind
  · intro a u e n
    obtain ⟨o', e', f⟩ := R.kp a u e n
    exact ⟨o', by rw [upd_ne (ne_of_none e' h)]; exact e', f⟩
  · exact R.tb.new h no
end
/-! ### readings -/
/-- an expression that gives a shared value -/
def rdE (K : PySem.W.Frag) (Γ : Gam) (W : WX) (m : M AV) : TE := fun σ H Q => ∃ st p, Rel K Γ σ H st p ∧ match m st with
  | .ok d st' => ∀ v H', Rel K Γ σ H' st' (p.nob.sh v d) → Q v H'
  | .err c st' => ∀ H', Rel K Γ σ H' st' p.nob → W (.ref (He.ga K c)) none σ H'
  | .bad => False
/-- .. a new one that is owned -/
def rdO (K : PySem.W.Frag) (Γ : Gam) (W : WX) (m : M AV) : TE := fun σ H Q => ∃ st p, Rel K Γ σ H st p ∧ match m st with
  | .ok d st' => ∀ v H', Rel K Γ σ H' st' (p.nob.own v d) → Q v H'
  | .err c st' => ∀ H', Rel K Γ σ H' st' p.nob → W (.ref (He.ga K c)) none σ H'
  | .bad => False
/-- .. that is looked at alone: nothing turns -/
def rdP (K : PySem.W.Frag) (Γ : Gam) (m : Ss → Option AV) : TE := fun σ H Q => ∃ st p d, Rel K Γ σ H st p ∧ m st = some d ∧ ∀ v, Rel K Γ σ H st (p.lk v d) → Q v H
def rdT (K : PySem.W.Frag) (Γ : Gam) (W : WX) (m : M Bool) : TT := fun σ H Q => ∃ st p, Rel K Γ σ H st p ∧ match m st with
  | .ok b st' => ∀ H', Rel K Γ σ H' st' p.nob → Q b H'
  | .err c st' => ∀ H', Rel K Γ σ H' st' p.nob → W (.ref (He.ga K c)) none σ H'
  | .bad => False
def rdA (K : PySem.W.Frag) (Γ : Gam) (W : WX) (m : M (List AV)) : TA := fun σ H Q => ∃ st p, Rel K Γ σ H st p ∧ match m st with
  | .ok ds st' => ∀ vs H', vs.length = ds.length → Rel K Γ σ H' st' { p.nob with iv := vs ++ p.iv, ix := ds ++ p.ix } → Q vs H'
  | .err c st' => ∀ H', Rel K Γ σ H' st' p.nob → W (.ref (He.ga K c)) none σ H'
  | .bad => False
def rdS (K : PySem.W.Frag) (Γ : Gam) (W : WX) (m : M Fl) : TS := fun D σ H => ∃ st p, Rel K Γ σ H st p ∧ p.nob = p ∧ match m st with
  | .ok .nx st' => ∀ σ' H', Rel K Γ σ' H' st' p → D.nx σ' H'
  | .ok (.rt d) st' => ∀ v σ' H', Rel K Γ σ' H' st' (p.sh v d) → D.rt v H'
  | .ok .bk st' => ∀ σ' H', Rel K Γ σ' H' st' p → D.bk σ' H'
  | .ok .ct st' => ∀ σ' H', Rel K Γ σ' H' st' p → D.ct σ' H'
  | .err c st' => ∀ σ' H', Rel K Γ σ' H' st' p → W (.ref (He.ga K c)) none σ' H'
  | .bad => False
def Res.bind {α β γ : Type} (x : Res α γ) (k : α → γ → Res β γ) : Res β γ := match x with
  | .ok a s => k a s
  | .err c s => .err c s
  | .bad => .bad
@[simp] theorem Res.bind_ok {α β γ : Type} (a : α) (s : γ) (k : α → γ → Res β γ) : (Res.ok a s).bind k = k a s := rfl
@[simp] theorem Res.bind_err {α β γ : Type} (c : Str) (s : γ) (k : α → γ → Res β γ) : (Res.err c s : Res α γ).bind k = .err c s := rfl
@[simp] theorem Res.bind_bad {α β γ : Type} (k : α → γ → Res β γ) : (Res.bad : Res α γ).bind k = .bad := rfl
def ofO {α γ : Type} : Option α → γ → Res α γ
  | some d, s => .ok d s
  | none, _ => .bad
@[simp] theorem ofO_some {α γ : Type} (d : α) (s : γ) : ofO (some d) s = .ok d s := rfl
@[simp] theorem ofO_none {α γ : Type} (s : γ) : ofO (none : Option α) s = .bad := rfl
/-! ### terms -/
def eVar (i : Nat) : M AV := fun st => match getSl st.r i with
  | .im d => .ok d st
  | .ow d => match frz d with
    | some d' => .ok d' ⟨setSl st.r i (.im d'), st.s⟩
    | none => .bad
  | .no => .bad
def eC (d : AV) : M AV := fun st => .ok d st
def e1 (f : AV → Option AV) (a : M AV) : M AV := fun st => (a st).bind fun x s1 => ofO (f x) s1
def e2 (f : AV → AV → Option AV) (a b : M AV) : M AV := fun st => (a st).bind fun x s1 => (b s1).bind fun y s2 => ofO (f x y) s2
section
variable {X : Cx} {Γ : Gam} {W : WX} {σ : L2.St} {H H' : Hp} {st : Ss} {p : Pd}
theorem pe_imp {e : Expr} {t t' : TE} (h : PE X e t) (i : ∀ σ H Q, t' σ H Q → t σ H Q) : PE X e t' := ⟨fun pins s σ H Q I q => h.run pins s σ H Q I (i σ H Q q)⟩
theorem pt_imp {e : Expr} {t t' : TT} (h : PT X e t) (i : ∀ σ H Q, t' σ H Q → t σ H Q) : PT X e t' := ⟨fun pins s σ H Q I q => h.run pins s σ H Q I (i σ H Q q)⟩
theorem pw_imp {e : Expr} {t t' : TT} (h : PW X e t) (i : ∀ σ H Q, t' σ H Q → t σ H Q) : PW X e t' := ⟨fun wh pins s σ H Q I q => h.run wh pins s σ H Q I (i σ H Q q)⟩
theorem pa_imp {es : List Expr} {t t' : TA} (h : PA X es t) (i : ∀ σ H Q, t' σ H Q → t σ H Q) : PA X es t' := ⟨fun pos pins s σ H Q I q => h.run pos pins s σ H Q I (i σ H Q q)⟩
theorem ps_imp {s : Stmt} {t t' : TS} (h : PS X s t) (i : ∀ D σ H, t' D σ H → t D σ H) : PS X s t' := ⟨fun pins s σ H D I q => h.run pins s σ H D I (i D σ H q)⟩
theorem pss_imp {s : List Stmt} {t t' : TS} (h : PSs X s t) (i : ∀ D σ H, t' D σ H → t D σ H) : PSs X s t' := ⟨fun pins s σ H D I q => h.run pins s σ H D I (i D σ H q)⟩
variable {K : PySem.W.Frag}
theorem Rel.nob (R : Rel K Γ σ H st p) : Rel K Γ σ H st p.nob := by
  obtain ⟨m, ar, am, ao, ab, R⟩ := R
  exact ⟨m, ar, am, ao, [], R.nob⟩
theorem Rel.shC (R : Rel K Γ σ H st p) {v : V} {d : AV} (h : ∀ W m, Rp K H W m [v] [d] []) : Rel K Γ σ H st (p.sh v d) := by
  obtain ⟨m, ar, am, ao, ab, R⟩ := R
  exact ⟨m, ar, am, ao, ab, R.setI ((h _ _).cons0 R.ri)⟩
theorem Rel.drop {v : V} {d : AV} (R : Rel K Γ σ H st (p.sh v d)) : Rel K Γ σ H st p := by
  obtain ⟨m, ar, am, ao, ab, R⟩ := R
  exact ⟨m, ar, am, ao, ab, R.setI R.ri.head0.2⟩
/-- a name -/
theorem s_var {x : Str} {i : Nat} {pos : Pos} (hN : X.N[i]? = some x) (hv : Vis X.env.scope x) (hd : (x == ("__debug__" : Str)) = false := by decide) (hcd : (x == ("__classdict__" : Str)) = false := by decide) : PE X (.Name x pos) (rdE X.K Γ W (eVar i)) := by
  refine pe_imp (pe_var hN hv hd hcd) fun σ H Q h => ?_
  obtain ⟨st, p, ⟨m, ar, am, ao, ab, R⟩, h⟩ := h
  unfold eVar at h
  cases e : getSl st.r i with
  | no => rw [e] at h; exact h.elim
  | im d =>
    rw [e] at h
    obtain ⟨v, ev, rv⟩ := R.rs.getIm e
    exact ⟨v, ev, h v H ⟨m, ar, am, ao, [], R.nob.setI (rv.cons0 R.ri)⟩⟩
  | ow d =>
    rw [e] at h
    cases ef : frz d with
    | none => simp only [ef] at h
    | some d' =>
      simp only [ef] at h
      obtain ⟨v, a1, b, a2, ev, ea, rv, rn⟩ := R.rs.getOw e
      refine ⟨v, ev, h v H ?_⟩
      have nd := R.nd
      have fr := R.fr
      subst ea
      have t : Tr H H (wOf Γ (a1 ++ (b ++ a2)) am ao) (wOf Γ (a1 ++ a2) am ao) m m [] := Tr.same fun c z => by
        simp only [wOf, List.mem_append] at z ⊢
        grind
      have rd : Rp X.K H (wOf Γ (a1 ++ a2) am ao) m [v] [d'] [] := rv.frz ef (fun c z => by
        simp only [wOf, List.mem_append] at z ⊢
        grind) (fun c z => by
        simp only [wOf, List.nodup_append, List.mem_append] at nd ⊢
        grind)
      have hi : i < st.r.length := getSl_lt (by rw [e]; exact fun z => nomatch z)
      have r2 := (t.rs rn (fun _ _ z => nomatch z)).setNo hi rd
      have es : σ.set i (some v) = σ := by
        apply List.ext_getElem?
        intro j
        by_cases c : i = j
        · subst c
          rw [List.getElem?_set_self (by rw [R.rs.len]; exact hi), ev]
        · rw [List.getElem?_set_ne c]
      rw [es] at r2
      refine ⟨m, a1 ++ a2, am, ao, [], r2, t.rp R.rm (fun _ _ z => nomatch z), rd.cons0 (t.rp0 R.ri), t.rp R.ro (fun _ _ z => nomatch z), .nil, ?_, ?_, R.kp, R.pm, R.gu, R.tb⟩
      · simp only [wOf, List.nodup_append, List.mem_append] at nd ⊢
        grind
      · intro a ha
        have h1 := fr a
        simp only [List.mem_append] at h1 ha
        grind
theorem s_int {i : Int} {j : Nat} {pos : Pos} : PE X (.Constant (.int i) j pos) (rdE X.K Γ W (eC (.int i))) := by
  refine pe_imp pe_int fun σ H Q h => ?_
  obtain ⟨st, p, R, h⟩ := h
  exact h _ _ (R.nob.shC fun _ _ => .int .nil)
theorem s_bl {b : Bool} {j : Nat} {pos : Pos} : PE X (.Constant (.bool b) j pos) (rdE X.K Γ W (eC (.bl b))) := by
  refine pe_imp pe_bl fun σ H Q h => ?_
  obtain ⟨st, p, R, h⟩ := h
  exact h _ _ (R.nob.shC fun _ _ => .bl .nil)
theorem s_non {j : Nat} {pos : Pos} : PE X (.Constant .none j pos) (rdE X.K Γ W (eC .non)) := by
  refine pe_imp pe_non fun σ H Q h => ?_
  obtain ⟨st, p, R, h⟩ := h
  exact h _ _ (R.nob.shC fun _ _ => .non .nil)
theorem s_str {x : Str} {j : Nat} {pos : Pos} : PE X (.Constant (.str x) j pos) (rdE X.K Γ W (eC (.str x))) := by
  refine pe_imp pe_str fun σ H Q h => ?_
  obtain ⟨st, p, R, h⟩ := h
  exact h _ _ (R.nob.shC fun _ _ => .str .nil)
/-- an operator: from two shared values a shared one -/
def Op2 (K : PySem.W.Frag) (r : R2) (f : AV → AV → Option AV) : Prop := ∀ (Γ : Gam) (σ : L2.St) (H : Hp) (st : Ss) (p : Pd) (m ar am ao ab : List Addr) (v1 v2 : V) (x y d : AV) (a1 a2 : List Addr) (Q : VK), Rl K Γ σ H st p m ar am ao ab → Rp K H (wOf Γ ar am ao) m [v1] [x] a1 → Rp K H (wOf Γ ar am ao) m [v2] [y] a2 → f x y = some d → (∀ v H', Rel K Γ σ H' st (p.nob.sh v d) → Q v H') → r v1 v2 H Q
theorem Rel.one {v : V} {x : AV} (R : Rel K Γ σ H st (p.sh v x)) : ∃ m ar am ao ab, Rl K Γ σ H st p m ar am ao ab ∧ Rp K H (wOf Γ ar am ao) m [v] [x] [] := by
  obtain ⟨m, ar, am, ao, ab, R⟩ := R
  exact ⟨m, ar, am, ao, ab, R.setI R.ri.head0.2, R.ri.head0.1⟩
theorem Rel.two {v1 v2 : V} {x y : AV} (R : Rel K Γ σ H st ((p.sh v1 x).sh v2 y)) : ∃ m ar am ao ab, Rl K Γ σ H st p m ar am ao ab ∧ Rp K H (wOf Γ ar am ao) m [v1] [x] [] ∧ Rp K H (wOf Γ ar am ao) m [v2] [y] [] := by
  obtain ⟨m, ar, am, ao, ab, R⟩ := R
  exact ⟨m, ar, am, ao, ab, R.setI R.ri.head0.2.head0.2, R.ri.head0.2.head0.1, R.ri.head0.1⟩
/-- two in a row -/
theorem two_in {ma mb : M AV} {Q : VK} {f : AV → AV → Option AV} {r : R2} (ho : Op2 K r f) (h : rdE K Γ W (e2 f ma mb) σ H Q) : rdE K Γ W ma σ H fun x H1 => rdE K Γ W mb σ H1 fun y H2 => r x y H2 Q := by
  obtain ⟨st, p, R, h⟩ := h
  refine ⟨st, p, R, ?_⟩
  unfold e2 at h
  cases ea : ma st with
  | bad => rw [ea] at h; exact h
  | err c s1 => rw [ea] at h; exact h
  | ok x s1 =>
    rw [ea] at h
    intro v1 H1 R1
    refine ⟨s1, _, R1, ?_⟩
    simp only [Res.bind_ok] at h
    cases eb : mb s1 with
    | bad => rw [eb] at h; exact h
    | err c s2 =>
      rw [eb] at h
      intro H2 R2
      exact h H2 R2.drop
    | ok y s2 =>
      rw [eb] at h
      simp only [Res.bind_ok] at h
      intro v2 H2 R2
      cases ef : f x y with
      | none => simp only [ef, ofO_none] at h
      | some d =>
        simp only [ef, ofO_some] at h
        obtain ⟨m, ar, am, ao, ab, R3, r1, r2⟩ := R2.two
        exact ho Γ σ H2 s2 _ m ar am ao ab v1 v2 x y d _ _ Q R3 r1 r2 ef h
theorem s_op {a b : Expr} {op : Operator} {r : R2} {f : AV → AV → Option AV} {ma mb : M AV} {pos : Pos} (hr : OpR X (binaryOp op) r) (ho : Op2 X.K r f) (ha : PE X a (rdE X.K Γ W ma)) (hb : PE X b (rdE X.K Γ W mb)) : PE X (.BinOp a op b pos) (rdE X.K Γ W (e2 f ma mb)) :=
  pe_imp (pe_op hr ha hb) fun σ H Q h => two_in ho h
theorem s_cmp {a b : Expr} {op : CmpOp} {r : R2} {f : AV → AV → Option AV} {ma mb : M AV} {pos : Pos} (hr : OpR X (compareOp op) r) (ho : Op2 X.K r f) (ha : PE X a (rdE X.K Γ W ma)) (hb : PE X b (rdE X.K Γ W mb)) (hm : behindInMarks op b = false) : PE X (.Compare a [op] [b] pos) (rdE X.K Γ W (e2 f ma mb)) :=
  pe_imp (pe_cmpR hr ha hb hm) fun σ H Q h => two_in ho h
/-- a truth, as a test -/
def tOf (m : M AV) : M Bool := fun st => (m st).bind fun x s1 => match x with
  | .bl b => .ok b s1
  | _ => .bad
theorem rp_bl {b : Bool} {v : V} {W m : List Addr} {as : List Addr} (h : Rp K H W m [v] [.bl b] as) : v = .bl b := by
  cases h
  rfl
theorem tOf_in {m : M AV} {Q : Bool → Hp → Prop} (h : rdT K Γ W (tOf m) σ H Q) : tTest (rdE K Γ W m) σ H Q := by
  obtain ⟨st, p, R, h⟩ := h
  refine ⟨st, p, R, ?_⟩
  unfold tOf at h
  cases e : m st with
  | bad => rw [e] at h; exact h
  | err c s1 => rw [e] at h; exact h
  | ok x s1 =>
    rw [e] at h
    simp only [Res.bind_ok] at h
    intro v H1 R1
    cases x with
    | bl b =>
      obtain ⟨m, ar, am, ao, ab, R2⟩ := id R1
      exact ⟨b, rp_bl R2.ri.head0.1, h H1 R1.drop⟩
    | _ => exact h.elim
theorem s_tval {e : Expr} {m : M AV} (h : PE X e (rdE X.K Γ W m)) (he : ∀ whole, isTrue e X.env whole = (do let v ← whole; standAt e.pos; holding [v] (truthy v)) := by intro _; rfl) : PT X e (rdT X.K Γ W (tOf m)) :=
  pt_imp (pt_val h he) fun σ H Q q => tOf_in q
theorem s_tcmp {a b : Expr} {op : CmpOp} {r : R2} {f : AV → AV → Option AV} {ma mb : M AV} {pos : Pos} (hr : OpR X (compareOp op) r) (ho : Op2 X.K r f) (ha : PE X a (rdE X.K Γ W ma)) (hb : PE X b (rdE X.K Γ W mb)) (hm : behindInMarks op b = false) : PT X (.Compare a [op] [b] pos) (rdT X.K Γ W (tOf (e2 f ma mb))) := by
  refine pt_imp (pt_cmpR hr ha hb hm) fun σ H Q h => ?_
  obtain ⟨st, p, R, h⟩ := tOf_in h
  exact two_in ho ⟨st, p, R, h⟩
end
end Fk
/-! ## operators on plain values -/
namespace Fk
open PySem PySem.Spec PyProof.Rows L2
section
variable {K : PySem.W.Frag} {Γ : Gam} {σ : L2.St} {H : Hp} {st : Ss} {p : Pd} {W m as : List Addr} {v v1 v2 : V} {x y d : AV} {xs ys : List AV} {vs : List V}
theorem Rp.int_i {i : Int} (h : Rp K H W m [v] [.int i] as) : v = .int i := by cases h; rfl
theorem Rp.bl_i {i : Bool} (h : Rp K H W m [v] [.bl i] as) : v = .bl i := by cases h; rfl
theorem Rp.str_i {i : Str} (h : Rp K H W m [v] [.str i] as) : v = .str i := by cases h; rfl
theorem Rp.tup_i (h : Rp K H W m [v] [.tup xs] as) : ∃ a us, v = .ref a ∧ SqT K H a us ∧ Rp K H W m us xs [] := by
  cases h with
  | tup h q _ => exact ⟨_, _, rfl, h, q⟩
theorem Rp.lst_i {o : Bool} (h : Rp K H W m [v] [.lst o xs] as) : ∃ a us, v = .ref a ∧ H a = some (.lst us) ∧ Rp K H W m us xs [] := by
  cases h with
  | lsI h _ q _ => exact ⟨_, _, rfl, h, q⟩
  | lsO h q _ => exact ⟨_, _, rfl, h, q⟩
theorem Rp.lsO_i (h : Rp K H W m [v] [.lst true xs] as) : ∃ a us, v = .ref a ∧ as = [a] ∧ H a = some (.lst us) ∧ Rp K H W m us xs [] := by
  cases h with
  | lsO h q r =>
    obtain ⟨_, rfl⟩ := r.nil_inv
    exact ⟨_, _, rfl, rfl, h, q⟩
theorem Rp.loc_i {l : Nat} (h : Rp K H W m [v] [.loc l] as) : ∃ a, v = .ref a ∧ m[l]? = some a := by
  cases h with
  | loc h _ => exact ⟨_, rfl, h⟩
theorem Rp.scr_i (h : Rp K H W m [v] [.scr xs] as) : ∃ a us, v = .ref a ∧ Scr K H a us ∧ Rp K H W m us xs [] := by
  cases h with
  | scr h q _ => exact ⟨_, _, rfl, h, q⟩
theorem Rl.rel {ar am ao ab : List Addr} (R : Rl K Γ σ H st p m ar am ao ab) : Rel K Γ σ H st p := ⟨m, ar, am, ao, ab, R⟩
theorem Rl.sh {ar am ao ab : List Addr} (R : Rl K Γ σ H st p m ar am ao ab) (h : Rp K H (wOf Γ ar am ao) m [v] [x] []) : Rel K Γ σ H st (p.sh v x) := ⟨m, ar, am, ao, ab, R.setI (h.cons0 R.ri)⟩
theorem Rel.int (R : Rel K Γ σ H st p) (i : Int) : Rel K Γ σ H st (p.sh (.int i) (.int i)) := R.shC fun _ _ => .int .nil
theorem Rel.bl (R : Rel K Γ σ H st p) (i : Bool) : Rel K Γ σ H st (p.sh (.bl i) (.bl i)) := R.shC fun _ _ => .bl .nil
theorem Rel.str (R : Rel K Γ σ H st p) (i : Str) : Rel K Γ σ H st (p.sh (.str i) (.str i)) := R.shC fun _ _ => .str .nil
theorem Rel.non (R : Rel K Γ σ H st p) : Rel K Γ σ H st (p.sh .non .non) := R.shC fun _ _ => .non .nil
end
/-! ### data -/
mutual
def dat : AV → PyData
  | .non => .none
  | .bl b => .bool b
  | .int i => .int i
  | .str x => .str x
  | .tup xs => .tuple (dats xs)
  | .lst _ xs => .list (dats xs)
  | .nst xs => .list (dats xs)
  | .scr xs => .list (dats xs)
  | _ => .none
def dats : List AV → List PyData
  | [] => []
  | x :: xs => dat x :: dats xs
end
mutual
/-- plain data -/
def pl : AV → Bool
  | .non => true
  | .bl _ => true
  | .int _ => true
  | .str _ => true
  | .tup xs => pls xs
  | .lst _ xs => pls xs
  | .nst xs => pls xs
  | .scr xs => pls xs
  | _ => false
def pls : List AV → Bool
  | [] => true
  | x :: xs => pl x && pls xs
end
theorem Rp.dps {K : PySem.W.Frag} {H : Hp} {W m as : List Addr} {vs : List V} {xs : List AV} (r : Rp K H W m vs xs as) : pls xs = true → DpAll K H vs (dats xs) := by
  have ba : ∀ {a b : Bool}, (a && b) = true → a = true ∧ b = true := fun h => Bool.and_eq_true_iff.mp h
  induction r with
  | nil => intro _; exact .nil
  | non _ i => intro h; exact .cons .non (i (ba h).2)
  | bl _ i => intro h; exact .cons (.bl _) (i (ba h).2)
  | int _ i => intro h; exact .cons (.int _) (i (ba h).2)
  | str _ i => intro h; exact .cons (.str _) (i (ba h).2)
  | tup h _ _ i1 i2 => intro e; exact .cons (.tup h (i1 (ba e).1)) (i2 (ba e).2)
  | lsI h _ _ _ i1 i2 => intro e; exact .cons (.lst (SqL.of h) (i1 (ba e).1)) (i2 (ba e).2)
  | lsO h _ _ i1 i2 => intro e; exact .cons (.lst (SqL.of h) (i1 (ba e).1)) (i2 (ba e).2)
  | nst h _ _ i1 i2 => intro e; exact .cons (.lst (SqL.of h) (i1 (ba e).1)) (i2 (ba e).2)
  | scr h _ _ i1 i2 => intro e; exact .cons (.lst h.sq (i1 (ba e).1)) (i2 (ba e).2)
  | _ => intro h; exact nomatch (ba h).1
theorem Rp.dp {K : PySem.W.Frag} {H : Hp} {W m as : List Addr} {v : V} {x : AV} (r : Rp K H W m [v] [x] as) (h : pl x = true) : Dp K H v (dat x) := by
  have q := r.dps (show (pl x && true) = true by rw [h]; rfl)
  cases q with
  | cons q _ => exact q
/-- data that may be compared -/
def okA (x : AV) : Bool := pl x && SeqAt.shaped (dat x)
theorem mx_eq : sizeLine = 16777216 := by decide
/-! ### the operators' plain meaning -/
def b2I (b : Bool) : Int := if b = true then 1 else 0
def oAdd : AV → AV → Option AV
  | .int a, .int b => some (.int (a + b))
  | .bl a, .int b => some (.int (b2I a + b))
  | .str a, .str b => if a.length + b.length ≤ 16777216 then some (.str (a ++ b)) else none
  | .tup a, .tup b => if a.length + b.length ≤ 16777216 then some (.tup (a ++ b)) else none
  | .lst _ a, .lst _ b => if a.length + b.length ≤ 16777216 then some (.lst false (a ++ b)) else none
  | _, _ => none
def oSub : AV → AV → Option AV
  | .int a, .int b => some (.int (a - b))
  | .bl a, .int b => some (.int (b2I a - b))
  | _, _ => none
def cMul (a b : Int) : Bool := (decide (-(2 ^ 64) < a) && decide (a < 2 ^ 64)) || (decide (-(2 ^ 64) < b) && decide (b < 2 ^ 64))
def repA (k : Int) (xs : List AV) : List AV := (List.replicate k.toNat xs).flatten
def oMul : AV → AV → Option AV
  | .int a, .int b => if cMul a b then some (.int (a * b)) else none
  | .lst _ xs, .int k => if k < 1000000 ∧ -1000000 < k ∧ xs.length * k.toNat ≤ 16777216 then some (.lst false (repA k xs)) else none
  | .tup xs, .int k => if xs ≠ [] ∧ 1 ≤ k ∧ k ≤ 1000 ∧ xs.length ≤ 1000 then some (.tup (repA k xs)) else none
  | _, _ => none
def uMul2 (K : PySem.W.Frag) : R2 := fun x y H Q => uMul K x y H Q ∨ (rRepT K x y H Q ∨ rRep1 K x y H Q)
theorem o_mul2 {X : Cx} : OpR X (binaryOp .Mult) (uMul2 X.K) := o_mul.or (op_repT.or op_rep1)
def oFdv : AV → AV → Option AV
  | .int a, .int b => if 0 < b ∧ b < 2 ^ 64 then some (.int (a / b)) else none
  | _, _ => none
def oMod : AV → AV → Option AV
  | .int a, .int b => if 0 < b then some (.int (a % b)) else none
  | _, _ => none
def cPow (a b : Int) : Bool := decide (0 ≤ b) && decide (b ≤ 1000000) && decide (a.natAbs < 2 ^ 64)
def oPow : AV → AV → Option AV
  | .int a, .int b => if cPow a b then some (.int (a ^ b.toNat)) else none
  | _, _ => none
def oLt : AV → AV → Option AV
  | .int a, .int b => some (.bl (decide (a < b)))
  | _, _ => none
def oLe : AV → AV → Option AV
  | .int a, .int b => some (.bl (decide (a ≤ b)))
  | _, _ => none
def oGt : AV → AV → Option AV
  | .int a, .int b => some (.bl (decide (b < a)))
  | _, _ => none
def eqA : AV → AV → Option Bool
  | .int a, .int b => some (decide (a = b))
  | .str a, .str b => some (decide (a = b))
  | .bl a, .bl b => some (decide (a = b))
  | x, y => if okA x && okA y then some (PyData.eqv (dat x) (dat y)) else none
def oEq (x y : AV) : Option AV := (eqA x y).map AV.bl
def oNe (x y : AV) : Option AV := (eqA x y).map fun b => AV.bl (!b)
def isN : AV → Bool
  | .non => true
  | _ => false
def oIs : AV → AV → Option AV
  | x, .non => some (.bl (isN x))
  | .bl a, .bl b => some (.bl (decide (a = b)))
  | _, _ => none
def oNis : AV → AV → Option AV
  | x, .non => some (.bl (!isN x))
  | .bl a, .bl b => some (.bl (!decide (a = b)))
  | _, _ => none
section
variable {K : PySem.W.Frag}
theorem p_add : Op2 K (uAddB K) oAdd := by
  intro Γ σ H st p m ar am ao ab v1 v2 x y d a1 a2 Q R0 r1 r2 e h
  replace R0 := R0.nob
  unfold oAdd at e
  split at e
  · cases e
    obtain rfl := r1.int_i
    obtain rfl := r2.int_i
    exact .inl (.inl ⟨_, _, rfl, rfl, h _ _ (R0.rel.int _)⟩)
  · cases e
    obtain rfl := r1.bl_i
    obtain rfl := r2.int_i
    exact .inr ⟨_, _, rfl, rfl, h _ _ (R0.rel.int _)⟩
  · split at e
    · cases e
      obtain rfl := r1.str_i
      obtain rfl := r2.str_i
      exact .inl (.inr (.inl ⟨_, _, rfl, rfl, by rw [mx_eq]; assumption, h _ _ (R0.rel.str _)⟩))
    · cases e
  · split at e
    · cases e
      obtain ⟨a, us, rfl, h1, q1⟩ := r1.tup_i
      obtain ⟨b, ws, rfl, h2, q2⟩ := r2.tup_i
      have l1 := q1.len
      have l2 := q2.len
      have z0 := mx_eq
      refine .inl (.inr (.inr (.inr ⟨a, b, us, ws, rfl, rfl, h1, h2, by omega, fun z => ?_, fun z1 z2 => ?_, fun z1 z2 q hq => ?_⟩)))
      · subst z
        obtain ⟨rfl, _⟩ := q1.nil_inv'
        exact h _ _ (R0.sh (.tup h2 q2 .nil))
      · subst z2
        obtain ⟨rfl, _⟩ := q2.nil_inv'
        rw [List.append_nil] at h
        exact h _ _ (R0.sh (.tup h1 q1 .nil))
      · exact h _ _ (R0.tup hq (q1.app q2)).rel
    · cases e
  · split at e
    · cases e
      obtain ⟨a, us, rfl, h1, q1⟩ := r1.lst_i
      obtain ⟨b, ws, rfl, h2, q2⟩ := r2.lst_i
      have l1 := q1.len
      have l2 := q2.len
      have z0 := mx_eq
      exact .inl (.inr (.inr (.inl ⟨a, b, us, ws, rfl, rfl, h1, h2, by omega, fun q hq => h _ _ (R0.lst hq (q1.app q2)).rel⟩)))
    · cases e
  · cases e
theorem p_sub : Op2 K uSubB oSub := by
  intro Γ σ H st p m ar am ao ab v1 v2 x y d a1 a2 Q R0 r1 r2 e h
  replace R0 := R0.nob
  unfold oSub at e
  split at e
  · cases e
    obtain rfl := r1.int_i
    obtain rfl := r2.int_i
    exact .inl ⟨_, _, rfl, rfl, h _ _ (R0.rel.int _)⟩
  · cases e
    obtain rfl := r1.bl_i
    obtain rfl := r2.int_i
    exact .inr ⟨_, _, rfl, rfl, h _ _ (R0.rel.int _)⟩
  · cases e
theorem cMul_ok {a b : Int} (h : cMul a b = true) : CMul a b := by
  unfold cMul at h
  simp only [Bool.or_eq_true, Bool.and_eq_true, decide_eq_true_eq] at h
  exact h
theorem rep_rp {H : Hp} {W m : List Addr} {us : List V} {xs : List AV} (q : Rp K H W m us xs []) : ∀ n : Nat, Rp K H W m (List.replicate n us).flatten (List.replicate n xs).flatten []
  | 0 => .nil
  | n + 1 => by
    rw [List.replicate_succ, List.replicate_succ, List.flatten_cons, List.flatten_cons]
    exact q.app (rep_rp q n)
theorem p_mul : Op2 K (uMul2 K) oMul := by
  intro Γ σ H st p m ar am ao ab v1 v2 x y d a1 a2 Q R0 r1 r2 e h
  replace R0 := R0.nob
  unfold oMul at e
  split at e
  · split at e
    · cases e
      obtain rfl := r1.int_i
      obtain rfl := r2.int_i
      rename_i c
      exact .inl (.inl ⟨_, _, rfl, rfl, cMul_ok c, h _ _ (R0.rel.int _)⟩)
    · cases e
  · split at e
    · cases e
      obtain ⟨a, us, rfl, h1, q1⟩ := r1.lst_i
      obtain rfl := r2.int_i
      rename_i c
      have l1 := q1.len
      exact .inl (.inr ⟨a, _, us, rfl, rfl, h1, by omega, by omega, by rw [l1, mx_eq]; exact c.2.2, fun q hq => h _ _ (R0.lst hq (rep_rp q1 _)).rel⟩)
    · cases e
  · split at e
    · cases e
      obtain ⟨a, us, rfl, h1, q1⟩ := r1.tup_i
      obtain rfl := r2.int_i
      rename_i k c
      have l1 := q1.len
      by_cases c2 : k = 1
      · subst c2
        refine .inr (.inr ⟨a, us, rfl, rfl, h1, h _ _ ?_⟩)
        have e : ∀ zs : List AV, repA 1 zs = zs := fun zs => List.append_nil _
        rw [e]
        exact ⟨_, _, _, _, _, R0.setI ((Rp.tup h1 q1 .nil).cons0 R0.ri)⟩
      · have hne : us ≠ [] := fun z => c.1 (by rw [z] at l1; exact List.eq_nil_of_length_eq_zero l1.symm)
        exact .inr (.inl ⟨a, _, us, rfl, rfl, h1, hne, by omega, by omega, by omega, fun q hq => h _ _ (R0.tup hq (rep_rp q1 _)).rel⟩)
    · cases e
  · cases e
/-- operators on two ints -/
theorem p_int {r : R2} {f : AV → AV → Option AV} (C : Int → Int → Prop) (g : Int → Int → Int) (hf : ∀ x y d, f x y = some d → ∃ a b, x = .int a ∧ y = .int b ∧ C a b ∧ d = .int (g a b)) (hr : ∀ a b H Q, C a b → Q (.int (g a b)) H → r (.int a) (.int b) H Q) : Op2 K r f := by
  intro Γ σ H st p m ar am ao ab v1 v2 x y d a1 a2 Q R0 r1 r2 e h
  replace R0 := R0.nob
  obtain ⟨a, b, rfl, rfl, c, rfl⟩ := hf _ _ _ e
  obtain rfl := r1.int_i
  obtain rfl := r2.int_i
  exact hr a b H Q c (h _ _ (R0.rel.int _))
theorem p_cmp {r : R2} {f : AV → AV → Option AV} (g : Int → Int → Bool) (hf : ∀ x y d, f x y = some d → ∃ a b, x = .int a ∧ y = .int b ∧ d = .bl (g a b)) (hr : ∀ a b H Q, Q (.bl (g a b)) H → r (.int a) (.int b) H Q) : Op2 K r f := by
  intro Γ σ H st p m ar am ao ab v1 v2 x y d a1 a2 Q R0 r1 r2 e h
  replace R0 := R0.nob
  obtain ⟨a, b, rfl, rfl, rfl⟩ := hf _ _ _ e
  obtain rfl := r1.int_i
  obtain rfl := r2.int_i
  exact hr a b H Q (h _ _ (R0.rel.bl _))
theorem p_mod : Op2 K uMod oMod := p_int (fun _ b => 0 < b) (· % ·) (fun x y d e => by unfold oMod at e; split at e <;> (try split at e) <;> cases e; exact ⟨_, _, rfl, rfl, by assumption, rfl⟩) fun a b H Q c q => ⟨a, b, rfl, rfl, c, q⟩
theorem cPow_ok {a b : Int} (h : cPow a b = true) : CPow a b := by
  unfold cPow at h
  simp only [Bool.and_eq_true, decide_eq_true_eq] at h
  exact ⟨h.1.1, h.1.2, h.2⟩
theorem p_pow : Op2 K uPow oPow := p_int CPow (fun a b => a ^ b.toNat) (fun x y d e => by unfold oPow at e; split at e <;> (try split at e) <;> cases e; exact ⟨_, _, rfl, rfl, cPow_ok (by assumption), rfl⟩) fun a b H Q c q => ⟨a, b, rfl, rfl, c, q⟩
theorem p_lt : Op2 K uLt oLt := p_cmp (fun a b => decide (a < b)) (fun x y d e => by unfold oLt at e; split at e <;> cases e; exact ⟨_, _, rfl, rfl, rfl⟩) fun a b H Q q => ⟨a, b, rfl, rfl, q⟩
theorem p_le : Op2 K uLe oLe := p_cmp (fun a b => decide (a ≤ b)) (fun x y d e => by unfold oLe at e; split at e <;> cases e; exact ⟨_, _, rfl, rfl, rfl⟩) fun a b H Q q => ⟨a, b, rfl, rfl, q⟩
theorem p_gt : Op2 K uGt oGt := p_cmp (fun a b => decide (b < a)) (fun x y d e => by unfold oGt at e; split at e <;> cases e; exact ⟨_, _, rfl, rfl, rfl⟩) fun a b H Q q => ⟨a, b, rfl, rfl, q⟩
theorem p_fdv : Op2 K uFdv oFdv := p_int (fun _ b => 0 < b ∧ b < 2 ^ 64) (· / ·) (fun x y d e => by unfold oFdv at e; split at e <;> (try split at e) <;> cases e; exact ⟨_, _, rfl, rfl, by assumption, rfl⟩) fun a b H Q c q => by
  exact .inr ⟨a, b, rfl, rfl, wide_div (b := 64) c.1 (by omega) (by decide) (by decide), q⟩
/-- what two values' comparison is -/
theorem eq_sem {Γ : Gam} {σ : L2.St} {H : Hp} {st : Ss} {p : Pd} {v1 v2 : V} {x y : AV} {b : Bool} {r1 r2 : Prop} (W m as bs : List Addr) (q1 : Rp K H W m [v1] [x] as) (q2 : Rp K H W m [v2] [y] bs) (e : eqA x y = some b) :
    (scal v1 v2 = true ∧ decide (v1 = v2) = b) ∨ (∃ d d', Dp K H v1 d ∧ Dp K H v2 d' ∧ SeqAt.shaped d = true ∧ SeqAt.shaped d' = true ∧ PyData.eqv d d' = b) := by
  unfold eqA at e
  split at e
  · cases e
    obtain rfl := q1.int_i
    obtain rfl := q2.int_i
    exact .inl ⟨rfl, by simp⟩
  · cases e
    obtain rfl := q1.str_i
    obtain rfl := q2.str_i
    exact .inl ⟨rfl, by simp⟩
  · cases e
    obtain rfl := q1.bl_i
    obtain rfl := q2.bl_i
    exact .inl ⟨rfl, by simp⟩
  · split at e
    · cases e
      rename_i c
      obtain ⟨c1, c2⟩ := Bool.and_eq_true_iff.mp c
      obtain ⟨c3, c4⟩ := Bool.and_eq_true_iff.mp c1
      obtain ⟨c5, c6⟩ := Bool.and_eq_true_iff.mp c2
      exact .inr ⟨_, _, q1.dp c3, q2.dp c5, c4, c6, rfl⟩
    · cases e
theorem p_eq : Op2 K (uEq K) oEq := by
  intro Γ σ H st p m ar am ao ab v1 v2 x y d a1 a2 Q R0 r1 r2 e h
  replace R0 := R0.nob
  unfold oEq at e
  obtain ⟨b, e1, rfl⟩ := Option.map_eq_some_iff.mp e
  rcases eq_sem (Γ := Γ) (σ := σ) (st := st) (p := p) (r1 := True) (r2 := True) _ _ _ _ r1 r2 e1 with ⟨s, eb⟩ | ⟨d1, d2, h1, h2, s1, s2, eb⟩
  · subst eb
    exact .inl ⟨s, h _ _ (R0.rel.bl _)⟩
  · subst eb
    exact .inr ⟨d1, d2, h1, h2, s1, s2, h _ _ (R0.rel.bl _)⟩
theorem p_ne : Op2 K (uNe K) oNe := by
  intro Γ σ H st p m ar am ao ab v1 v2 x y d a1 a2 Q R0 r1 r2 e h
  replace R0 := R0.nob
  unfold oNe at e
  obtain ⟨b, e1, rfl⟩ := Option.map_eq_some_iff.mp e
  rcases eq_sem (Γ := Γ) (σ := σ) (st := st) (p := p) (r1 := True) (r2 := True) _ _ _ _ r1 r2 e1 with ⟨s, eb⟩ | ⟨d1, d2, h1, h2, s1, s2, eb⟩
  · subst eb
    exact .inl ⟨s, h _ _ (R0.rel.bl _)⟩
  · subst eb
    exact .inr ⟨d1, d2, h1, h2, s1, s2, h _ _ (R0.rel.bl _)⟩
end
end Fk
/-! ## expressions and statements -/
namespace Fk
open PySem PySem.Spec PyProof.Rows L2
def aNil : M (List AV) := fun st => .ok [] st
def aCons (a : M AV) (r : M (List AV)) : M (List AV) := fun st => (a st).bind fun x s1 => (r s1).bind fun xs s2 => .ok (x :: xs) s2
def eTup (a : M (List AV)) : M AV := fun st => (a st).bind fun xs s1 => if xs.length ≤ 16777216 then .ok (.tup xs) s1 else .bad
def eLst (a : M (List AV)) : M AV := fun st => (a st).bind fun xs s1 => if xs.length ≤ 16777216 then .ok (.lst false xs) s1 else .bad
def eLstO (a : M (List AV)) : M AV := fun st => (a st).bind fun xs s1 => if xs.length ≤ 16777216 then .ok (.lst true xs) s1 else .bad
def tNotM (a : M Bool) : M Bool := fun st => (a st).bind fun x s1 => .ok (!x) s1
def tAndM (a b : M Bool) : M Bool := fun st => (a st).bind fun x s1 => bif x then b s1 else .ok false s1
def tOrM (a b : M Bool) : M Bool := fun st => (a st).bind fun x s1 => bif x then .ok true s1 else b s1
def asB : AV → Option Bool
  | .bl b => some b
  | _ => none
@[simp] theorem asB_bl (b : Bool) : asB (.bl b) = some b := rfl
def eAnd (a b : M AV) : M AV := fun st => (a st).bind fun x s1 => (ofO (asB x) s1).bind fun c s2 => bif c then b s2 else .ok (.bl false) s2
def eOr (a b : M AV) : M AV := fun st => (a st).bind fun x s1 => (ofO (asB x) s1).bind fun c s2 => bif c then .ok (.bl true) s2 else b s2
def oNot (x : AV) : Option AV := (asB x).map fun b => AV.bl (!b)
def eIf (t : M Bool) (a b : M AV) : M AV := fun st => (t st).bind fun c s1 => bif c then a s1 else b s1
def eChn (f g : AV → AV → Option AV) (a b c : M AV) : M AV := fun st => (a st).bind fun x s1 => (b s1).bind fun y s2 => (ofO ((f x y).bind asB) s2).bind fun k s3 => bif k then (c s3).bind fun z s4 => ofO (g y z) s4 else .ok (.bl false) s3
def oNeg : AV → Option AV
  | .int i => some (.int (-i))
  | _ => none
def sNx : M Fl := fun st => .ok .nx st
def sSeq (a b : M Fl) : M Fl := fun st => (a st).bind fun f s1 => match f with
  | .nx => b s1
  | f => .ok f s1
def sAsg (i : Nat) (e : M AV) : M Fl := fun st => (e st).bind fun d s1 => .ok .nx ⟨setSl s1.r i (.im d), s1.s⟩
def sAsgO (i : Nat) (e : M AV) : M Fl := fun st => (e st).bind fun d s1 => .ok .nx ⟨setSl s1.r i (.ow d), s1.s⟩
def sExp (e : M AV) : M Fl := fun st => (e st).bind fun _ s1 => .ok .nx s1
def sRet (e : M AV) : M Fl := fun st => (e st).bind fun d s1 => .ok (.rt d) s1
def sIf (t : M Bool) (a b : M Fl) : M Fl := fun st => (t st).bind fun c s1 => bif c then a s1 else b s1
def sBrk : M Fl := fun st => .ok .bk st
def sCnt : M Fl := fun st => .ok .ct st
section
variable {X : Cx} {Γ : Gam} {W : WX} {σ : L2.St} {H : Hp} {st : Ss} {p : Pd} {K : PySem.W.Frag} {pos : Pos}
theorem Rel.rot {v : V} {x : AV} {vs iv : List V} {xs ix : List AV} (hl : vs.length = xs.length) (R : Rel K Γ σ H st { p with iv := vs ++ v :: iv, ix := xs ++ x :: ix }) : Rel K Γ σ H st { p with iv := v :: vs ++ iv, ix := x :: xs ++ ix } := by
  obtain ⟨m, ar, am, ao, ab, R⟩ := R
  refine ⟨m, ar, am, ao, ab, R.setI (p := { p with iv := vs ++ v :: iv, ix := xs ++ x :: ix }) ?_⟩
  obtain ⟨a1, a2, e, r1, r2⟩ := Rp.app_inv hl R.ri
  obtain ⟨e1, e2⟩ := List.append_eq_nil_iff.mp e.symm
  subst e1 e2
  exact r2.head0.1.cons0 (r1.app r2.head0.2)
theorem s_nil : PA X [] (rdA X.K Γ W aNil) := by
  refine pa_imp pa_nil fun σ H Q h => ?_
  obtain ⟨st, p, R, h⟩ := h
  exact h [] H rfl R.nob
theorem cons_in {ma : M AV} {mr : M (List AV)} {Q : List V → Hp → Prop} (h : rdA K Γ W (aCons ma mr) σ H Q) : tCons (rdE K Γ W ma) (rdA K Γ W mr) σ H Q := by
  obtain ⟨st, p, R, h⟩ := h
  refine ⟨st, p, R, ?_⟩
  unfold aCons at h
  cases ea : ma st with
  | bad => rw [ea] at h; exact h
  | err c s1 => rw [ea] at h; exact h
  | ok x s1 =>
    rw [ea] at h
    simp only [Res.bind_ok] at h
    intro v H1 R1
    refine ⟨s1, _, R1, ?_⟩
    cases er : mr s1 with
    | bad => rw [er] at h; exact h
    | err c s2 =>
      rw [er] at h
      intro H2 R2
      exact h H2 R2.drop
    | ok xs s2 =>
      rw [er] at h
      simp only [Res.bind_ok] at h
      intro vs H2 hl R2
      exact h (v :: vs) H2 (by simp [hl]) (Rel.rot (p := p.nob) hl R2)
theorem s_cons {e : Expr} {es : List Expr} {ma : M AV} {mr : M (List AV)} (ha : PE X e (rdE X.K Γ W ma)) (hr : PA X es (rdA X.K Γ W mr)) (hs : starEach (e :: es) X.env = (false, eval e X.env) :: starEach es X.env := by rfl) : PA X (e :: es) (rdA X.K Γ W (aCons ma mr)) :=
  pa_imp (pa_cons ha hr hs) fun σ H Q h => cons_in h
theorem Rel.args {vs : List V} {xs : List AV} (hl : vs.length = xs.length) (R : Rel K Γ σ H st { p with iv := vs ++ p.iv, ix := xs ++ p.ix }) : ∃ m ar am ao ab, Rl K Γ σ H st p m ar am ao ab ∧ Rp K H (wOf Γ ar am ao) m vs xs [] := by
  obtain ⟨m, ar, am, ao, ab, R⟩ := R
  obtain ⟨a1, a2, e, r1, r2⟩ := Rp.app_inv hl R.ri
  obtain ⟨e1, e2⟩ := List.append_eq_nil_iff.mp e.symm
  subst e1 e2
  exact ⟨m, ar, am, ao, ab, R.setI (p := { p with iv := vs ++ p.iv, ix := xs ++ p.ix }) r2, r1⟩
theorem s_tup {es : List Expr} {k : Nat} {ma : M (List AV)} (h : PA X es (rdA X.K Γ W ma)) : PE X (.Tuple es k pos) (rdE X.K Γ W (eTup ma)) := by
  refine pe_imp (pe_tup h) fun σ H Q h => ?_
  obtain ⟨st, p, R, h⟩ := h
  refine ⟨st, p, R, ?_⟩
  unfold eTup at h
  cases ea : ma st with
  | bad => rw [ea] at h; exact h
  | err c s1 => rw [ea] at h; exact h
  | ok xs s1 =>
    rw [ea] at h
    simp only [Res.bind_ok] at h
    intro vs H1 hl R1
    by_cases c : xs.length ≤ 16777216
    · rw [if_pos c] at h
      obtain ⟨m, ar, am, ao, ab, R2, r⟩ := Rel.args (p := p.nob) hl R1
      exact ⟨by rw [hl, mx_eq]; exact c, fun q hq => h _ _ (R2.tup hq r).rel⟩
    · rw [if_neg c] at h; exact h.elim
theorem s_lst {es : List Expr} {ma : M (List AV)} (h : PA X es (rdA X.K Γ W ma)) : PE X (.List es pos) (rdE X.K Γ W (eLst ma)) := by
  refine pe_imp (pe_lst h) fun σ H Q h => ?_
  obtain ⟨st, p, R, h⟩ := h
  refine ⟨st, p, R, ?_⟩
  unfold eLst at h
  cases ea : ma st with
  | bad => rw [ea] at h; exact h
  | err c s1 => rw [ea] at h; exact h
  | ok xs s1 =>
    rw [ea] at h
    simp only [Res.bind_ok] at h
    intro vs H1 hl R1
    by_cases c : xs.length ≤ 16777216
    · rw [if_pos c] at h
      obtain ⟨m, ar, am, ao, ab, R2, r⟩ := Rel.args (p := p.nob) hl R1
      exact ⟨by rw [hl, mx_eq]; exact c, fun q hq => h _ _ (R2.lst hq r).rel⟩
    · rw [if_neg c] at h; exact h.elim
theorem Rl.newLst {m ar am ao ab : List Addr} (R : Rl K Γ σ H st p m ar am ao ab) {q : Addr} {vs : List V} {xs : List AV} (h : H q = none) (r : Rp K H (wOf Γ ar am ao) m vs xs []) : Rel K Γ σ (upd H q (.lst vs)) st (p.own (.ref q) (.lst true xs)) :=
  ⟨m, ar, am, q :: ao, ab, R.newO (o := .lst vs) h fun t e => .lsO e (t.rp0 r) .nil⟩
theorem s_lstO {es : List Expr} {ma : M (List AV)} (h : PA X es (rdA X.K Γ W ma)) : PE X (.List es pos) (rdO X.K Γ W (eLstO ma)) := by
  refine pe_imp (pe_lst h) fun σ H Q h => ?_
  obtain ⟨st, p, R, h⟩ := h
  refine ⟨st, p, R, ?_⟩
  unfold eLstO at h
  cases ea : ma st with
  | bad => rw [ea] at h; exact h
  | err c s1 => rw [ea] at h; exact h
  | ok xs s1 =>
    rw [ea] at h
    simp only [Res.bind_ok] at h
    intro vs H1 hl R1
    by_cases c : xs.length ≤ 16777216
    · rw [if_pos c] at h
      obtain ⟨m, ar, am, ao, ab, R2, r⟩ := Rel.args (p := p.nob) hl R1
      exact ⟨by rw [hl, mx_eq]; exact c, fun q hq => h _ _ (R2.newLst hq r)⟩
    · rw [if_neg c] at h; exact h.elim
/-! tests -/
theorem s_not {a : Expr} {ma : M Bool} (h : PT X a (rdT X.K Γ W ma)) : PT X (.UnaryOp .Not a pos) (rdT X.K Γ W (tNotM ma)) := by
  refine pt_imp (pt_not h) fun σ H Q h => ?_
  obtain ⟨st, p, R, h⟩ := h
  refine ⟨st, p, R, ?_⟩
  unfold tNotM at h
  cases ea : ma st with
  | bad => rw [ea] at h; exact h
  | err c s1 => rw [ea] at h; exact h
  | ok b s1 => rw [ea] at h; exact h
theorem s_and1 {a : Expr} {ma : M Bool} (h : PT X a (rdT X.K Γ W ma)) : PW X (.BoolOp .And [a] pos) (rdT X.K Γ W ma) := pw_and1 h
theorem s_or1 {a : Expr} {ma : M Bool} (h : PT X a (rdT X.K Γ W ma)) : PW X (.BoolOp .Or [a] pos) (rdT X.K Γ W ma) := pw_or1 h
theorem s_and {a b : Expr} {rest : List Expr} {ma mb : M Bool} (h : PT X a (rdT X.K Γ W ma)) (h2 : PW X (.BoolOp .And (b :: rest) pos) (rdT X.K Γ W mb)) : PW X (.BoolOp .And (a :: b :: rest) pos) (rdT X.K Γ W (tAndM ma mb)) := by
  refine pw_imp (pw_and h h2) fun σ H Q h => ?_
  obtain ⟨st, p, R, h⟩ := h
  refine ⟨st, p, R, ?_⟩
  unfold tAndM at h
  cases ea : ma st with
  | bad => rw [ea] at h; exact h
  | err c s1 => rw [ea] at h; exact h
  | ok b s1 =>
    rw [ea] at h
    simp only [Res.bind_ok] at h
    intro H1 R1
    cases b with
    | true => rw [if_pos rfl]; exact ⟨s1, p.nob, R1, h⟩
    | false => rw [if_neg Bool.false_ne_true]; exact h H1 R1
theorem s_or {a b : Expr} {rest : List Expr} {ma mb : M Bool} (h : PT X a (rdT X.K Γ W ma)) (h2 : PW X (.BoolOp .Or (b :: rest) pos) (rdT X.K Γ W mb)) : PW X (.BoolOp .Or (a :: b :: rest) pos) (rdT X.K Γ W (tOrM ma mb)) := by
  refine pw_imp (pw_or h h2) fun σ H Q h => ?_
  obtain ⟨st, p, R, h⟩ := h
  refine ⟨st, p, R, ?_⟩
  unfold tOrM at h
  cases ea : ma st with
  | bad => rw [ea] at h; exact h
  | err c s1 => rw [ea] at h; exact h
  | ok b s1 =>
    rw [ea] at h
    simp only [Res.bind_ok] at h
    intro H1 R1
    cases b with
    | true => rw [if_pos rfl]; exact h H1 R1
    | false => rw [if_neg Bool.false_ne_true]; exact ⟨s1, p.nob, R1, h⟩
/-! .. as values -/
theorem asB_v {v : V} {x : AV} {b : Bool} {W m as : List Addr} (r : Rp K H W m [v] [x] as) (e : asB x = some b) : v = .bl b := by
  cases x with
  | bl c =>
    have e2 : c = b := by simpa using e
    rw [r.bl_i, e2]
  | _ => cases e
theorem s_vand {a b : Expr} {rest : List Expr} {ma mb : M AV} (h : PE X a (rdE X.K Γ W ma)) (h2 : PE X (.BoolOp .And (b :: rest) pos) (rdE X.K Γ W mb)) : PE X (.BoolOp .And (a :: b :: rest) pos) (rdE X.K Γ W (eAnd ma mb)) := by
  refine pe_imp (pe_and h h2) fun σ H Q h => ?_
  obtain ⟨st, p, R, h⟩ := h
  refine ⟨st, p, R, ?_⟩
  unfold eAnd at h
  cases ea : ma st with
  | bad => rw [ea] at h; exact h
  | err c s1 => rw [ea] at h; exact h
  | ok x s1 =>
    rw [ea] at h
    simp only [Res.bind_ok] at h
    intro v H1 R1
    cases eb : asB x with
    | none => rw [eb] at h; exact h.elim
    | some c =>
      rw [eb] at h
      simp only [ofO_some, Res.bind_ok] at h
      obtain ⟨m, ar, am, ao, ab, R2, r⟩ := R1.one
      refine ⟨c, asB_v r eb, ?_⟩
      cases c with
      | true => rw [if_pos rfl]; exact ⟨s1, p.nob, R2.rel, h⟩
      | false => rw [if_neg Bool.false_ne_true]; exact h _ _ (R2.rel.bl _)
theorem s_vone {op : BoolOp} {a : Expr} {ma : M AV} (h : PE X a (rdE X.K Γ W ma)) : PE X (.BoolOp op [a] pos) (rdE X.K Γ W ma) := pe_one h
/-- one value turned into another -/
def Op1 (K : PySem.W.Frag) (r : V → Hp → VK → Prop) (f : AV → Option AV) : Prop := ∀ (Γ : Gam) (σ : L2.St) (H : Hp) (st : Ss) (p : Pd) (v1 : V) (x d : AV) (Q : VK), Rel K Γ σ H st (p.sh v1 x) → f x = some d → (∀ v H', Rel K Γ σ H' st (p.sh v d) → Q v H') → r v1 H Q
theorem one_in {ma : M AV} {Q : VK} {f : AV → Option AV} {r : V → Hp → VK → Prop} (ho : Op1 K r f) (h : rdE K Γ W (e1 f ma) σ H Q) : rdE K Γ W ma σ H fun x H1 => r x H1 Q := by
  obtain ⟨st, p, R, h⟩ := h
  refine ⟨st, p, R, ?_⟩
  unfold e1 at h
  cases ea : ma st with
  | bad => rw [ea] at h; exact h
  | err c s1 => rw [ea] at h; exact h
  | ok x s1 =>
    rw [ea] at h
    simp only [Res.bind_ok] at h
    intro v1 H1 R1
    cases ef : f x with
    | none => simp only [ef, ofO_none] at h
    | some d =>
      simp only [ef, ofO_some] at h
      exact ho Γ σ H1 s1 _ v1 x d Q R1 ef h
theorem s_vnot {a : Expr} {ma : M AV} (h : PE X a (rdE X.K Γ W ma)) : PE X (.UnaryOp .Not a pos) (rdE X.K Γ W (e1 oNot ma)) := by
  refine pe_imp (pe_not h) fun σ H Q h => ?_
  refine one_in (r := fun x H1 Q => ∃ c, x = .bl c ∧ Q (.bl (!c)) H1) ?_ h
  intro Γ σ H st p v1 x d Q R e h
  obtain ⟨m, ar, am, ao, ab, R2, r⟩ := R.one
  unfold oNot at e
  obtain ⟨b, eb, rfl⟩ := Option.map_eq_some_iff.mp e
  exact ⟨b, asB_v r eb, h _ _ (R2.rel.bl _)⟩
theorem s_neg {a : Expr} {ma : M AV} (h : PE X a (rdE X.K Γ W ma)) : PE X (.UnaryOp .USub a pos) (rdE X.K Γ W (e1 oNeg ma)) := by
  refine pe_imp (pe_un un_neg h) fun σ H Q h => ?_
  refine one_in (r := fun x H1 Q => (rU fun i => .int (-i)) x H1 Q) ?_ h
  intro Γ σ H st p v1 x d Q R e h
  obtain ⟨m, ar, am, ao, ab, R2, r⟩ := R.one
  unfold oNeg at e
  split at e
  · cases e
    exact ⟨_, r.int_i, h _ _ (R2.rel.int _)⟩
  · cases e
theorem s_ife {c a b : Expr} {mc : M Bool} {ma mb : M AV} (hc : PT X c (rdT X.K Γ W mc)) (ha : PE X a (rdE X.K Γ W ma)) (hb : PE X b (rdE X.K Γ W mb)) : PE X (.IfExp c a b pos) (rdE X.K Γ W (eIf mc ma mb)) := by
  refine pe_imp (pe_ifExp hc ha hb) fun σ H Q h => ?_
  obtain ⟨st, p, R, h⟩ := h
  refine ⟨st, p, R, ?_⟩
  unfold eIf at h
  cases ea : mc st with
  | bad => rw [ea] at h; exact h
  | err c s1 => rw [ea] at h; exact h
  | ok b s1 =>
    rw [ea] at h
    simp only [Res.bind_ok] at h
    intro H1 R1
    cases b with
    | true => rw [if_pos rfl]; exact ⟨s1, p.nob, R1, h⟩
    | false => rw [if_neg Bool.false_ne_true]; exact ⟨s1, p.nob, R1, h⟩
theorem chn_in {r r' : R2} {f g : AV → AV → Option AV} {ma mb mc : M AV} {Q : VK} (ho : Op2 K r f) (ho' : Op2 K r' g) (h : rdE K Γ W (eChn f g ma mb mc) σ H Q) : tChain r r' (rdE K Γ W ma) (rdE K Γ W mb) (rdE K Γ W mc) σ H Q := by
  obtain ⟨st, p, R, h⟩ := h
  refine ⟨st, p, R, ?_⟩
  unfold eChn at h
  cases ea : ma st with
  | bad => rw [ea] at h; exact h
  | err c s1 => rw [ea] at h; exact h
  | ok x s1 =>
    rw [ea] at h
    simp only [Res.bind_ok] at h
    intro v1 H1 R1
    refine ⟨s1, _, R1, ?_⟩
    cases eb : mb s1 with
    | bad => rw [eb] at h; exact h
    | err c s2 =>
      rw [eb] at h
      intro H2 R2
      exact h H2 R2.drop
    | ok y s2 =>
      rw [eb] at h
      simp only [Res.bind_ok] at h
      intro v2 H2 R2
      cases ef : f x y with
      | none => simp only [ef, Option.bind_none, ofO_none, Res.bind_bad] at h
      | some d =>
        simp only [ef, Option.bind_some] at h
        cases ek : asB d with
        | none => simp only [ek, ofO_none, Res.bind_bad] at h
        | some k =>
          simp only [ek, ofO_some, Res.bind_ok] at h
          obtain ⟨m, ar, am, ao, ab, R3, r1, r2⟩ := R2.two
          refine ho Γ σ H2 s2 (p.nob.sh v2 y) m ar am ao ab v1 v2 x y d _ _ _ (R3.setI (r2.cons0 R3.ri)) r1 r2 ef ?_
          intro v H3 R4
          obtain ⟨m, ar, am, ao, ab, R5, r⟩ := R4.one
          refine ⟨k, asB_v r ek, ?_⟩
          cases k with
          | false =>
            rw [if_neg Bool.false_ne_true]
            exact h _ _ (R5.rel.drop.bl _)
          | true =>
            rw [if_pos rfl]
            simp only [cond_true] at h
            refine ⟨s2, _, R5.rel, ?_⟩
            cases ec : mc s2 with
            | bad => rw [ec] at h; exact h
            | err c s3 =>
              rw [ec] at h
              intro H4 R6
              exact h H4 R6.drop
            | ok z s3 =>
              rw [ec] at h
              simp only [Res.bind_ok] at h
              intro v3 H4 R6
              cases eg : g y z with
              | none => simp only [eg, ofO_none] at h
              | some d2 =>
                simp only [eg, ofO_some] at h
                obtain ⟨m, ar, am, ao, ab, R7, r1, r2⟩ := R6.two
                exact ho' Γ σ H4 s3 _ m ar am ao ab v2 v3 y z d2 _ _ Q R7 r1 r2 eg h
theorem s_chn {a b c : Expr} {op op' : CmpOp} {r r' : R2} {f g : AV → AV → Option AV} {ma mb mc : M AV} (hr : OpR X (compareOp op) r) (hr' : OpR X (compareOp op') r') (ho : Op2 X.K r f) (ho' : Op2 X.K r' g) (ha : PE X a (rdE X.K Γ W ma)) (hb : PE X b (rdE X.K Γ W mb)) (hc : PE X c (rdE X.K Γ W mc))
    (hp : ∀ {t t' : R2} {u1 u2 u3 : TE}, OpR X (compareOp op) t → OpR X (compareOp op') t' → PE X a u1 → PE X b u2 → PE X c u3 → PE X (.Compare a [op, op'] [b, c] pos) (tChain t t' u1 u2 u3)) : PE X (.Compare a [op, op'] [b, c] pos) (rdE X.K Γ W (eChn f g ma mb mc)) :=
  pe_imp (hp hr hr' ha hb hc) fun σ H Q h => chn_in ho ho' h
end
section
variable {X : Cx} {Γ : Gam} {W : WX} {σ : L2.St} {H : Hp} {st : Ss} {p : Pd} {K : PySem.W.Frag} {pos : Pos}
theorem s_tchn {a b c : Expr} {op op' : CmpOp} {r r' : R2} {f g : AV → AV → Option AV} {ma mb mc : M AV} (hr : OpR X (compareOp op) r) (hr' : OpR X (compareOp op') r') (ho : Op2 X.K r f) (ho' : Op2 X.K r' g) (ha : PE X a (rdE X.K Γ W ma)) (hb : PE X b (rdE X.K Γ W mb)) (hc : PE X c (rdE X.K Γ W mc))
    (hp : ∀ {t t' : R2} {u1 u2 u3 : TE}, OpR X (compareOp op) t → OpR X (compareOp op') t' → PE X a u1 → PE X b u2 → PE X c u3 → PT X (.Compare a [op, op'] [b, c] pos) (tTest (tChain t t' u1 u2 u3))) : PT X (.Compare a [op, op'] [b, c] pos) (rdT X.K Γ W (tOf (eChn f g ma mb mc))) :=
  pt_imp (hp hr hr' ha hb hc) fun σ H Q h => by
    obtain ⟨st, p, R, h⟩ := tOf_in h
    exact chn_in ho ho' ⟨st, p, R, h⟩
/-! statements -/
theorem s_end : PSs X [] (rdS X.K Γ W sNx) := by
  refine pss_imp pss_nil fun D σ H h => ?_
  obtain ⟨st, p, R, hp, h⟩ := h
  exact h σ H R
theorem s_seq {s : Stmt} {r : List Stmt} {ma mb : M Fl} (h1 : PS X s (rdS X.K Γ W ma)) (h2 : PSs X r (rdS X.K Γ W mb)) : PSs X (s :: r) (rdS X.K Γ W (sSeq ma mb)) := by
  refine pss_imp (pss_cons h1 h2) fun D σ H h => ?_
  obtain ⟨st, p, R, hp, h⟩ := h
  refine ⟨st, p, R, hp, ?_⟩
  unfold sSeq at h
  cases ea : ma st with
  | bad => rw [ea] at h; exact h
  | err c s1 => rw [ea] at h; exact h
  | ok f s1 =>
    rw [ea] at h
    simp only [Res.bind_ok] at h
    cases f with
    | nx => exact fun σ' H' R' => ⟨s1, p, R', hp, h⟩
    | rt d => exact h
    | bk => exact h
    | ct => exact h
theorem s_one {s : Stmt} {ma : M Fl} (h1 : PS X s (rdS X.K Γ W ma)) : PSs X [s] (rdS X.K Γ W ma) := pss_one h1
theorem nob_sh {v : V} {d : AV} (hp : p.nob = p) : p.nob.sh v d = p.sh v d := by rw [hp]
theorem s_ret {e : Expr} {m : M AV} (h : PE X e (rdE X.K Γ W m)) : PS X (.Return (some e) pos) (rdS X.K Γ W (sRet m)) := by
  refine ps_imp (ps_ret h) fun D σ H h => ?_
  obtain ⟨st, p, R, hp, h⟩ := h
  refine ⟨st, p, R, ?_⟩
  unfold sRet at h
  cases ea : m st with
  | bad => rw [ea] at h; exact h
  | err c s1 => rw [ea] at h; exact fun H' R' => h σ H' (hp ▸ R')
  | ok d s1 =>
    rw [ea] at h
    simp only [Res.bind_ok] at h
    exact fun v H' R' => h v σ H' (nob_sh hp ▸ R')
theorem s_exp {e : Expr} {m : M AV} (h : PE X e (rdE X.K Γ W m)) (hs : swapsWith e none pos.line X.env = pure false := by rfl) : PS X (.Expr e pos) (rdS X.K Γ W (sExp m)) := by
  refine ps_imp (ps_expr h hs) fun D σ H h => ?_
  obtain ⟨st, p, R, hp, h⟩ := h
  refine ⟨st, p, R, ?_⟩
  unfold sExp at h
  cases ea : m st with
  | bad => rw [ea] at h; exact h
  | err c s1 => rw [ea] at h; exact fun H' R' => h σ H' (hp ▸ R')
  | ok d s1 =>
    rw [ea] at h
    simp only [Res.bind_ok] at h
    exact fun v H' R' => h σ H' (nob_sh hp ▸ R').drop
theorem s_if {c : Expr} {a b : List Stmt} {mc : M Bool} {ma mb : M Fl} (hc : PT X c (rdT X.K Γ W mc)) (ha : PSs X a (rdS X.K Γ W ma)) (hb : PSs X b (rdS X.K Γ W mb)) : PS X (.If c a b pos) (rdS X.K Γ W (sIf mc ma mb)) := by
  refine ps_imp (ps_if hc ha hb) fun D σ H h => ?_
  obtain ⟨st, p, R, hp, h⟩ := h
  refine ⟨st, p, R, ?_⟩
  unfold sIf at h
  cases ea : mc st with
  | bad => rw [ea] at h; exact h
  | err c s1 => rw [ea] at h; exact fun H' R' => h σ H' (hp ▸ R')
  | ok k s1 =>
    rw [ea] at h
    simp only [Res.bind_ok] at h
    intro H1 R1
    rw [hp] at R1
    cases k with
    | true => rw [if_pos rfl]; exact ⟨s1, p, R1, hp, h⟩
    | false => rw [if_neg Bool.false_ne_true]; exact ⟨s1, p, R1, hp, h⟩
/-- a value goes into a slot -/
theorem Rel.put {v : V} {d : AV} (R : Rel K Γ σ H st (p.sh v d)) (i : Nat) : Rel K Γ (σ.set i (some v)) H ⟨setSl st.r i (.im d), st.s⟩ p := by
  obtain ⟨m, ar, am, ao, ab, R⟩ := R
  obtain ⟨ar', h1, h2, h3⟩ := R.rs.drop i
  have nd := R.nd
  have fr := R.fr
  have t : Tr H H (wOf Γ ar am ao) (wOf Γ ar' am ao) m m [] := Tr.same fun c z => by
    simp only [wOf, List.mem_append] at z ⊢
    grind
  have rs : Rs K H (wOf Γ ar' am ao) m (σ.set i (some v)) (setSl st.r i (.im d)) ar' := by
    by_cases hi : i < st.r.length
    · exact (t.rs h3 (fun _ _ z => nomatch z)).setNo hi (t.rp0 R.ri.head0.1)
    · have e1 : ∀ (r : List Sl) (y : Sl) (i : Nat), ¬ i < r.length → setSl r i y = r := fun r y => by
        induction r with
        | nil => intro i _; rfl
        | cons x r ih => intro i hi; cases i with
          | zero => exact absurd (by simp) hi
          | succ i => rw [setSl_s, ih i (by simpa using hi)]
      have e2 : σ.set i (some v) = σ := List.set_eq_of_length_le (by rw [R.rs.len]; omega)
      rw [e1 _ _ i hi, e2]
      rw [e1 _ _ i hi] at h3
      exact t.rs h3 (fun _ _ z => nomatch z)
  refine ⟨m, ar', am, ao, ab, rs, t.rp R.rm (fun _ _ z => nomatch z), t.rp0 R.ri.head0.2, t.rp R.ro (fun _ _ z => nomatch z), t.rp R.rb (fun _ _ z => nomatch z), ?_, ?_, R.kp, R.pm, R.gu, R.tb⟩
  · simp only [wOf, List.nodup_append, List.mem_append] at nd ⊢
    grind
  · intro a ha
    have z := fr a
    simp only [List.mem_append] at z ha
    grind
theorem s_asg {i : Nat} {x : Str} {e : Expr} {m : M AV} {pos' : Pos} (hN : X.N.Nodup) (hi : X.N[i]? = some x) (hx : Loc X.env.scope x) (he : PE X e (rdE X.K Γ W m)) (hs : swapsWith e (some (.Name x pos')) pos.line X.env = pure false := by rfl) (hf : X.fn x = true ∨ X.env.scope.names.lookup x = some .local := by first | exact .inl rfl | exact .inr rfl | assumption) :
    PS X (.Assign [.Name x pos'] e pos) (rdS X.K Γ W (sAsg i m)) := by
  refine ps_imp (ps_set hN hi hx he hs hf) fun D σ H h => ?_
  obtain ⟨st, p, R, hp, h⟩ := h
  refine ⟨st, p, R, ?_⟩
  unfold sAsg at h
  cases ea : m st with
  | bad => rw [ea] at h; exact h
  | err c s1 => rw [ea] at h; exact fun H' R' => h σ H' (hp ▸ R')
  | ok d s1 =>
    rw [ea] at h
    simp only [Res.bind_ok] at h
    exact fun v H' R' => h _ H' (Rel.put (nob_sh hp ▸ R') i)
/-- an owned thing goes into a slot -/
theorem Rel.putO {v : V} {d : AV} (R : Rel K Γ σ H st (p.own v d)) (i : Nat) (hi : i < st.r.length) : Rel K Γ (σ.set i (some v)) H ⟨setSl st.r i (.ow d), st.s⟩ p := by
  obtain ⟨m, ar, am, ao, ab, R⟩ := R
  obtain ⟨ar', h1, h2, h3⟩ := R.rs.drop i
  obtain ⟨b, ao', eo, r1, r2⟩ := R.ro.head
  have nd := R.nd
  have fr := R.fr
  subst eo
  have t0 : Tr H H (wOf Γ ar am (b ++ ao')) (wOf Γ ar' am (b ++ ao')) m m [] := Tr.same fun c z => by
    simp only [wOf, List.mem_append] at z ⊢
    grind
  obtain ⟨a1, a2, ea, rs⟩ := (t0.rs h3 (fun _ _ z => nomatch z)).setOw hi (t0.rp r1 (fun _ _ z => nomatch z))
  subst ea
  have t : Tr H H (wOf Γ ar am (b ++ ao')) (wOf Γ (a1 ++ (b ++ a2)) am ao') m m [] := Tr.same fun c z => by
    simp only [wOf, List.mem_append] at z h1 ⊢
    grind
  have t1 : Tr H H (wOf Γ (a1 ++ a2) am (b ++ ao')) (wOf Γ (a1 ++ (b ++ a2)) am ao') m m [] := Tr.same fun c z => by
    simp only [wOf, List.mem_append] at z ⊢
    grind
  refine ⟨m, a1 ++ (b ++ a2), am, ao', ab, t1.rs rs (fun _ _ z => nomatch z), t.rp R.rm (fun _ _ z => nomatch z), t.rp0 R.ri, t.rp r2 (fun _ _ z => nomatch z), t.rp R.rb (fun _ _ z => nomatch z), ?_, ?_, R.kp, R.pm, R.gu, R.tb⟩
  · simp only [wOf, List.nodup_append, List.mem_append] at nd h1 h2 ⊢
    grind
  · intro a ha
    have z := fr a
    simp only [List.mem_append] at z ha h1
    grind
def sAsgOw (i : Nat) (e : M AV) : M Fl := fun st => (e st).bind fun d s1 => if i < s1.r.length then .ok .nx ⟨setSl s1.r i (.ow d), s1.s⟩ else .bad
theorem s_asgO {i : Nat} {x : Str} {e : Expr} {m : M AV} {pos' : Pos} (hN : X.N.Nodup) (hi : X.N[i]? = some x) (hx : Loc X.env.scope x) (he : PE X e (rdO X.K Γ W m)) (hs : swapsWith e (some (.Name x pos')) pos.line X.env = pure false := by rfl) (hf : X.fn x = true ∨ X.env.scope.names.lookup x = some .local := by first | exact .inl rfl | exact .inr rfl | assumption) :
    PS X (.Assign [.Name x pos'] e pos) (rdS X.K Γ W (sAsgOw i m)) := by
  refine ps_imp (ps_set hN hi hx he hs hf) fun D σ H h => ?_
  obtain ⟨st, p, R, hp, h⟩ := h
  refine ⟨st, p, R, ?_⟩
  unfold sAsgOw at h
  cases ea : m st with
  | bad => rw [ea] at h; exact h
  | err c s1 => rw [ea] at h; exact fun H' R' => h σ H' (hp ▸ R')
  | ok d s1 =>
    rw [ea] at h
    simp only [Res.bind_ok] at h
    by_cases c : i < s1.r.length
    · rw [if_pos c] at h
      intro v H' R'
      have e : p.nob.own v d = p.own v d := by rw [hp]
      rw [e] at R'
      exact h _ H' (Rel.putO R' i c)
    · rw [if_neg c] at h; exact h.elim
end
end Fk
/-! ## defs and their calls -/
namespace Fk
open PySem PySem.Spec PyProof.Rows L2
/-- what a def leaves: U is not touched, objects stand at m, own am -/
def Pst (K : PySem.W.Frag) (T : List (Addr × Str)) (U m am : List Addr) (H : Hp) (vs : List V) (xs S : List AV) (H' : Hp) : Prop := ∃ m' am', Rp K H' (U ++ am') m' vs xs [] ∧ Rp K H' (U ++ am') m' (m'.map V.ref) S am' ∧ (U ++ am').Nodup ∧
  (∀ a ∈ am', a ∈ am ∨ H a = none) ∧ (∀ a o, H a = some o → a ∉ am → ∃ o', H' a = some o' ∧ (NoTbl o → o' = o)) ∧ (∀ (l : Nat) a, m[l]? = some a → m'[l]? = some a) ∧ Tb T H'
abbrev Fn := List AV → List AV → Res AV (List AV)
/-- a def that is worth f -/
def spM (K : PySem.W.Frag) (T : List (Addr × Str)) (n : Nat) (f : Fn) : Sp := fun vs H Q E => vs.length = n ∧ ∃ U m am xs S, Rp K H (U ++ am) m vs xs [] ∧ Rp K H (U ++ am) m (m.map V.ref) S am ∧ (U ++ am).Nodup ∧ (∀ a ∈ U, ∃ o, H a = some o ∧ mutO o = true) ∧ Tb T H ∧
  match f xs S with
  | .ok d S' => ∀ v H', Pst K T U m am H [v] [d] S' H' → Q v H'
  | .err c S' => ∀ H', Pst K T U m am H [] [] S' H' → E (.ref (He.ga K c)) none H'
  | .bad => False
def fnM (n : Nat) (body : M Fl) : Fn := fun xs S => match body ⟨xs.map Sl.im ++ List.replicate n .no, S⟩ with
  | .ok (.rt d) st => .ok d st.s
  | .ok .nx st => .ok .non st.s
  | .err c st => .err c st.s
  | _ => .bad
section
variable {K : PySem.W.Frag} {Γ : Gam} {σ : L2.St} {H H' : Hp} {st : Ss} {p : Pd} {m ar am ao ab : List Addr} {vs : List V} {xs S : List AV}
theorem rs_args {W : List Addr} : ∀ {vs : List V} {xs : List AV} (n : Nat), Rp K H W m vs xs [] → Rs K H W m (vs.map some ++ List.replicate n none) (xs.map Sl.im ++ List.replicate n .no) []
  | [], xs, n, r => by
    obtain ⟨rfl, _⟩ := r.nil_inv'
    induction n with
    | zero => exact .nil
    | succ n ih => exact .no ih
  | v :: vs, [], n, r => by cases r.nil_inv.1
  | v :: vs, x :: xs, n, r => .im r.head0.1 (rs_args n r.head0.2)
/-- a def's entry -/
theorem ent {T : List (Addr × Str)} {U : List Addr} {n : Nat} (r1 : Rp K H (U ++ am) m vs xs []) (r2 : Rp K H (U ++ am) m (m.map V.ref) S am) (nd : (U ++ am).Nodup) (hu : ∀ a ∈ U, ∃ o, H a = some o ∧ mutO o = true) (tb : Tb T H) :
    Rel K ⟨U, H, am, m, T⟩ (vs.map some ++ List.replicate n none) H ⟨xs.map Sl.im ++ List.replicate n .no, S⟩ {} := by
  have e : U ++ am = wOf ⟨U, H, am, m, T⟩ [] am [] := by simp [wOf]
  rw [e] at r1 r2 nd
  refine ⟨m, [], am, [], [], rs_args n r1, r2, .nil, .nil, .nil, nd, fun a ha => .inl (by simpa using ha), fun a o h _ => ⟨o, h, fun _ => rfl⟩, fun _ _ h => h, fun a ha => ⟨hu a ha, fun z => ?_⟩, tb⟩
  rw [← e] at nd
  exact (List.nodup_append.mp nd).2.2 a ha a z rfl
/-- .. and its end -/
theorem ext_ {U A0 m0 : List Addr} {H0 : Hp} {T : List (Addr × Str)} (R : Rel K ⟨U, H0, A0, m0, T⟩ σ H st p) (hv : p.iv = vs) (hx : p.ix = xs) : Pst K T U m0 A0 H0 vs xs st.s H := by
  obtain ⟨m, ar, am, ao, ab, R⟩ := R
  subst hv hx
  have h1 : ∀ b, b ∈ U ++ am → b ∈ wOf ⟨U, H0, A0, m0, T⟩ ar am ao := fun b z => by
    simp only [wOf, List.mem_append] at z ⊢
    grind
  refine ⟨m, am, R.ri.perm h1, R.rm.perm h1, ?_, fun a ha => R.fr a (by simp [ha]), R.kp, R.pm, R.tb⟩
  have nd := R.nd
  simp only [wOf, List.nodup_append, List.mem_append] at nd ⊢
  grind
/-- what is handed to a def -/
theorem Rl.enter (R : Rl K Γ σ H st p m ar am ao ab) (r : Rp K H (wOf Γ ar am ao) m vs xs []) : Rp K H ((Γ.U ++ (ar ++ ao)) ++ am) m vs xs [] ∧ Rp K H ((Γ.U ++ (ar ++ ao)) ++ am) m (m.map V.ref) st.s am ∧ ((Γ.U ++ (ar ++ ao)) ++ am).Nodup ∧
    (∀ a ∈ Γ.U ++ (ar ++ ao), ∃ o, H a = some o ∧ mutO o = true) ∧ Tb Γ.T H := by
  have h1 : ∀ b, b ∈ (Γ.U ++ (ar ++ ao)) ++ am → b ∈ wOf Γ ar am ao := fun b z => by
    simp only [wOf, List.mem_append] at z ⊢
    grind
  refine ⟨r.perm h1, R.rm.perm h1, ?_, fun a ha => R.own a ?_, R.tb⟩
  · have nd := R.nd
    simp only [wOf, List.nodup_append, List.mem_append] at nd ⊢
    grind
  · simp only [wOf, List.mem_append] at ha ⊢
    grind
/-- back from it -/
theorem Rl.back (R : Rl K Γ σ H st p m ar am ao ab) {U : List Addr} (hU : U = Γ.U ++ (ar ++ ao)) (h : Pst K Γ.T U m am H vs xs S H') : ∃ m' am', Rl K Γ σ H' ⟨st.r, S⟩ p.nob m' ar am' ao [] ∧ Rp K H' (wOf Γ ar am' ao) m' vs xs [] := by
  subst hU
  obtain ⟨m', am', r1, r2, nd, fr, kp, pm, tb⟩ := h
  have w1 : ∀ b, b ∈ wOf Γ ar am' ao → b ∈ (Γ.U ++ (ar ++ ao)) ++ am' := fun b z => by
    simp only [wOf, List.mem_append] at z ⊢
    grind
  have k : Kp H H' am := ⟨fun b o e n t => by
    obtain ⟨o', e', f⟩ := kp b o e n
    rw [f t] at e'
    exact e', fun b hb => R.rm.there b hb⟩
  have t : Tr H H' (wOf Γ ar am ao) (wOf Γ ar am' ao) m m' am := by
    refine ⟨k, fun b hb => by simp only [wOf, List.mem_append]; grind, fun b ⟨o, e⟩ n z => ?_, pm⟩
    have f := fr b
    simp only [wOf, List.mem_append] at n z
    grind
  have dr : ∀ b ∈ ar, b ∉ am := fun b hb z => by
    have n := R.nd
    simp only [wOf, List.nodup_append, List.mem_append] at n
    grind
  have dq : ∀ b ∈ ao, b ∉ am := fun b hb z => by
    have n := R.nd
    simp only [wOf, List.nodup_append, List.mem_append] at n
    grind
  refine ⟨m', am', ⟨t.rs R.rs dr, r2.perm w1, t.rp0 R.ri, t.rp R.ro dq, .nil, ?_, fun a ha => ?_, fun a o e n => ?_, fun l a h => pm l a (R.pm l a h), R.gu, tb⟩, r1.perm w1⟩
  · simp only [wOf, List.nodup_append, List.mem_append] at nd ⊢
    grind
  · have f := fr a
    have g := R.fr a
    simp only [List.mem_append] at ha f g
    rcases ha with ha | ha | ha
    · exact g (.inl ha)
    · rcases f ha with z | z
      · exact g (.inr (.inl z))
      · exact R.free0 z
    · exact g (.inr (.inr ha))
  · obtain ⟨o1, e1, f1⟩ := R.kp a o e n
    by_cases c : a ∈ am
    · have g := R.fr a (by simp [c])
      rcases g with g | g
      · exact absurd g n
      · rw [e] at g; cases g
    · obtain ⟨o2, e2, f2⟩ := kp a o1 e1 c
      refine ⟨o2, e2, fun z => ?_⟩
      have z1 := f1 z
      subst z1
      exact f2 z
end
/-! ### a def of the text -/
structure FnN (P : Program) (w : World) (K : PySem.W.Frag) (mg : Str → Option Value) (base : Heap) (k : Nat) (f : Addr) (fd : FuncData) (ps : List Str) (sp : Sp) : Prop where
  len : ∀ vs H Q E, sp vs H Q E → vs.length = ps.length
  run : ∀ (A : Around) (outer : List Env) (s : Shared) (H : Hp) (args : Args) (us : List Value) (vs : List V) (Q : VK) (E : XK), A.guards = some [] → Room k A → Env0 P w K mg base A outer s H →
    BindsTo s fd args (ps.zip us) → Vals vs us → sp vs H Q E → codeAny (model P w) A (.call (.ref f) args) (CR (L2N.CX P w) outer P w H s Q E) s
abbrev cxN (P : Program) (w : World) (K : PySem.W.Frag) (mg : Str → Option Value) (base : Heap) (N : List Str) (qual : Str) (scope : Scope) (f : Addr) (cd : Value) (A : Around) (outer : List Env) (s : Shared) (H : Hp) (E : XK) : Cx :=
  cxOf (L2N.CX P w) P w K mg base N qual scope f cd A outer s H E
section
variable {P : Program} {w : World} {K : PySem.W.Frag} {mg : Str → Option Value} {base : Heap} {k : Nat} {f : Addr} {fd : FuncData} {ps N : List Str} {sp : Sp} {x qual : Str} {params : Arguments} {body : List Stmt} {scope : Scope} {dvs : List V} {kws : List (Str × V)} {T : List (Addr × Str)}
theorem okN (F : FunD K x qual params body scope dvs kws f fd) (S : FnScope N ps scope) (len : ∀ vs H Q E, sp vs H Q E → vs.length = ps.length)
    (hb : ∀ (cdv : Value) (A : Around) (outer : List Env) (s : Shared) (H : Hp) (vs : List V) (Q : VK) (E : XK), A.guards = some [] → Room k (A.deeper (envOfC qual scope s.heap.objs.size f cdv)) → sp vs H Q E →
      ∃ t, PSs (cxN P w K mg base N qual scope f cdv A outer s H E) body t ∧ t { nx := fun _ H' => Q .non H', rt := Q } (start N vs) H) : FnN P w K mg base (k + 1) f fd ps sp := by
  obtain ⟨oc, od, dV, kV, doc, pm, an, cdv, ct, osl, rfl, lk, hcd, _, _⟩ := F.ex
  refine ⟨len, ?_⟩
  intro A outer s H args us vs Q E hG hr e0 hbi r hsp
  have inK : K.In s.heap := e0.mod.kin.keeps fun b o e => (e0.bs b o e).1
  have lim : s.heap.NoLimit := e0.mod.nolimit.keeps fun b o e => (e0.bs b o e).1
  refine codeAny_call_function hr.depth (inK _ _ lk) rfl S.co S.gen rfl (PySem.W.codeRec_of inK hcd) (hbi _ _ _ _ ?_)
  refine wpAny_newFunctionEnv_cells S.kind ?_ ?_
  · rintro ⟨n, v⟩ hy
    rcases S.par n (List.of_mem_zip hy).1 with z | z
    · exact .inl z
    · exact .inr ⟨z, PySem.W.cellsFrom_some _ _ _ (.inl z)⟩
  intro env he s1 y
  subst he
  refine ⟨lim.keeps y.toInCall.keep, codeAny_func ?_⟩
  obtain ⟨t, ht, hq⟩ := hb cdv A outer s H vs Q E hG (hr.deeper _) hsp
  have I := inv_start (CX := L2N.CX P w) (E := E) S hr.hd e0 (len _ _ _ _ hsp) r y
  refine wpAny_mono (ht.run [] s1 (start N vs) H _ I hq) ?_ (fun e s' z => z)
  intro fl s' z
  cases fl with
  | ret u =>
    obtain ⟨v, σ', H', J, rv, q⟩ := z
    exact ⟨v, H', J.os, J.bare, J.base, J.hok, rv, q⟩
  | next =>
    obtain ⟨σ', H', J, q⟩ := z
    exact ⟨V.non, H', J.os, J.bare, J.base, J.hok, rfl, q⟩
  | brk => obtain ⟨_, _, _, q⟩ := z; exact q.elim
  | cont => obtain ⟨_, _, _, q⟩ := z; exact q.elim
theorem takes_N {cd : Value} {A : Around} {outer : List Env} {s : Shared} {H : Hp} {E : XK} : L2N.Takes (cxN P w K mg base N qual scope f cd A outer s H E) (fun cls d _ H => E cls d H) := L2N.takes_of rfl rfl rfl rfl
/-- a def by its body's plain meaning -/
theorem okM {mb : M Fl} {n : Nat} (F : FunD K x qual params body scope dvs kws f fd) (S : FnScope N ps scope) (hn : N.length - ps.length = n)
    (hb : ∀ (cdv : Value) (A : Around) (outer : List Env) (s : Shared) (H : Hp) (E : XK) (Γ : Gam), Γ.T = T → A.guards = some [] → Room k (A.deeper (envOfC qual scope s.heap.objs.size f cdv)) →
      PSs (cxN P w K mg base N qual scope f cdv A outer s H E) body (rdS K Γ (fun cls d _ H => E cls d H) mb)) : FnN P w K mg base (k + 1) f fd ps (spM K T ps.length (fnM n mb)) := by
  refine okN F S (fun vs H Q E h => h.1) ?_
  intro cdv A outer s H vs Q E hG hr hsp
  obtain ⟨hl, U, m, am, xs, S0, r1, r2, nd, hu, tb, h⟩ := hsp
  refine ⟨_, hb cdv A outer s H E ⟨U, H, am, m, T⟩ rfl hG hr, ?_⟩
  have e : L2.start N vs = vs.map some ++ List.replicate n none := by unfold L2.start; rw [hl, hn]
  rw [e]
  refine ⟨_, _, ent (n := n) r1 r2 nd hu tb, rfl, ?_⟩
  unfold fnM at h
  cases em : mb ⟨xs.map Sl.im ++ List.replicate n .no, S0⟩ with
  | bad => rw [em] at h; exact h
  | err c st => rw [em] at h; exact fun σ' H' R' => h H' (ext_ R' rfl rfl)
  | ok fl st =>
    rw [em] at h
    cases fl with
    | nx => exact fun σ' H' R' => h .non H' (ext_ R'.non rfl rfl)
    | rt d => exact fun v σ' H' R' => h v H' (ext_ R' rfl rfl)
    | bk => exact h.elim
    | ct => exact h.elim
end
/-- a function of the text that stands behind its name -/
structure CalN (P : Program) (w : World) (K : PySem.W.Frag) (mg : Str → Option Value) (base : Heap) (T : List (Addr × Str)) (k : Nat) (x : Str) (ps : List Str) (ds : List AV) (f : Fn) : Prop where
  ex : ∃ (a : Addr) (fd : FuncData) (dvs : List V) (us : List Value), FnN P w K mg base k a fd ps (spM K T ps.length f) ∧ mg x = some (.ref a) ∧ PySem.W.keepIn K (.ref a) = true ∧ Binds K fd ps us ∧ Vals dvs us ∧ ∀ H W m, Rp K H W m dvs ds []
/-- what a def leaves, taken over -/
def back (r : List Sl) : Res AV (List AV) → Res AV Ss
  | .ok d S => .ok d ⟨r, S⟩
  | .err c S => .err c ⟨r, S⟩
  | .bad => .bad
@[simp] theorem back_ok (r : List Sl) (d : AV) (S : List AV) : back r (.ok d S) = .ok d ⟨r, S⟩ := rfl
@[simp] theorem back_err (r : List Sl) (c : Str) (S : List AV) : back r (.err c S) = .err c ⟨r, S⟩ := rfl
@[simp] theorem back_bad (r : List Sl) : back r .bad = .bad := rfl
def eCall (n : Nat) (f : Fn) (ds : List AV) (a : M (List AV)) : M AV := fun st => (a st).bind fun xs s1 => if xs.length + ds.length = n then back s1.r (f (xs ++ ds) s1.s) else .bad
section
variable {X : Cx} {Γ : Gam} {W : WX} {σ : L2.St} {H : Hp} {st : Ss} {p : Pd} {K : PySem.W.Frag} {pos q : Pos} {k j : Nat} {x : Str} {ps : List Str} {ds : List AV} {f : Fn} {e : Expr} {es : List Expr} {ma : M (List AV)}
theorem run_N {pins : List (Addr × Obj)} {s : Shared} {Q : VK} {us ws : List Value} {vs dvs : List V} {a : Addr} {fd : FuncData} {sp : Sp} {E : XK} (F : FnN X.prog X.w X.K X.mg X.base k a fd ps sp) (hG : X.A.guards = some []) (hr : Room k X.A) (hb : Binds X.K fd ps ws) (hd : Vals dvs ws)
    (hx : PassesAt (L2N.CX X.prog X.w) X σ E) (I : Inv X pins σ H s) (r : Vals vs us) (h : sp (vs ++ dvs) H Q E) : wpAny (model X.prog X.w) X.A (call (.ref a) us) (EP X pins σ Q) X.xe s := by
  have r2 := r.append hd
  have hl : (us ++ ws).length = ps.length := r2.length.symm.trans (F.len _ _ _ _ h)
  refine wpAny_call (codeAny_mono (F.run X.A X.stack s H ⟨us, []⟩ (us ++ ws) (vs ++ dvs) Q E hG hr I.env0 (hb s us I.kIn hl) r2 h) ?_)
  intro r s' z
  cases r with
  | error e => exact hx pins H s e s' I z
  | ok fl => cases fl with
    | ret u => exact I.after z
    | next => exact z.elim
    | brk => exact z.elim
    | cont => exact z.elim
/-- arguments, then the def -/
theorem call_in {n : Nat} {dvs : List V} {Q : VK} (hd : ∀ H W m, Rp K H W m dvs ds []) (h : rdE K Γ W (eCall n f ds ma) σ H Q) : rdA K Γ W ma σ H fun vs H1 => spM K Γ.T n f (vs ++ dvs) H1 Q (WE W σ) := by
  obtain ⟨st, p, R, h⟩ := h
  refine ⟨st, p, R, ?_⟩
  unfold eCall at h
  cases ea : ma st with
  | bad => rw [ea] at h; exact h
  | err c s1 => rw [ea] at h; exact h
  | ok xs s1 =>
    rw [ea] at h
    simp only [Res.bind_ok] at h
    by_cases cn : xs.length + ds.length = n
    · rw [if_pos cn] at h
      intro vs H1 hl R1
      obtain ⟨m, ar, am, ao, ab, R2, r⟩ := Rel.args (p := p.nob) hl R1
      obtain ⟨c1, c2, c3, c4, c5⟩ := R2.enter (r.app (hd _ _ _))
      have l2 := (hd H1 [] []).len
      refine ⟨by rw [List.length_append]; omega, _, m, am, xs ++ ds, s1.s, c1, c2, c3, c4, c5, ?_⟩
      cases ef : f (xs ++ ds) s1.s with
      | bad => rw [ef] at h; exact h
      | err c S' =>
        rw [ef] at h
        intro H2 hp
        obtain ⟨m', am', R3, _⟩ := R2.back rfl hp
        exact h H2 R3.rel
      | ok d S' =>
        rw [ef] at h
        intro v H2 hp
        obtain ⟨m', am', R3, r3⟩ := R2.back rfl hp
        exact h v H2 (R3.sh r3)
    · rw [if_neg cn] at h
      exact h.elim
theorem s_call (F : CalN X.prog X.w X.K X.mg X.base Γ.T k x ps ds f) (hG : X.A.guards = some []) (hr : Room j X.A) (hk : k ≤ j) (hg : Gl X x) (tk : L2N.Takes X W) (ha : PA X (e :: es) (rdA X.K Γ W ma))
    (hdb : (x == ("__debug__" : Str)) = false := by decide) (he : starEach (e :: es) X.env = (false, eval e X.env) :: starEach es X.env := by rfl) (hpl : (backTo pos (starEach es X.env)).any (·.1) = false := by rfl) :
    PE X (.Call (.Name x q) (e :: es) [] pos) (rdE X.K Γ W (eCall ps.length f ds ma)) := by
  obtain ⟨a, fd, dvs, us, G, gm, kp, b, v, hd⟩ := F.ex
  refine ⟨fun pins s σ H Q I h => wpAny_Call_Name_kw (ld_glob I hg gm ?_ hdb)⟩
  refine PySem.W.callWith_K (h₀ := X.base) I.ok.mod.kin kp (thn (ha.run pos pins s σ H _ I (call_in hd h)) ?_) he hpl
  rintro us s1 ⟨vs, H1, I1, r, q⟩
  exact ⟨I1.kIn, run_N G hG (hr.mono hk) b v (L2N.passAt tk σ) I1 r q⟩
/-! ### raise -/
def sRaise (c : Str) : M Fl := fun st => .err c st
theorem s_raise {mt : Str} {i : Nat} {p1 p2 pos' : Pos} (F : ExcF X.K X.mg x) (hc : X.calm = true) (tk : L2N.Takes X W) (hg : Gl X x) (hdb : (x == ("__debug__" : Str)) = false := by decide) :
    PS X (.Raise (some (.Call (.Name x p1) [.Constant (.str mt) i p2] [] pos)) none pos') (rdS X.K Γ W (sRaise x)) := by
  refine ps_imp (L2N.ps_raise hc tk (L2N.pmk_own PySem.F.excBase_ValueError F.ex F.gl F.kp (raises_own F.sub F.ty) hg hdb)) fun D σ H h => ?_
  obtain ⟨st, p, R, hp, h⟩ := h
  exact h σ H R
end
end Fk
/-! ## targets, loops, comprehensions -/
namespace Fk
open PySem PySem.Spec PyProof.Rows L2
abbrev Tg := AV → Ss → Option Ss
/-- a target: ns are the slots that it stores to -/
def rdG (K : PySem.W.Frag) (Γ : Gam) (ns : List Nat) (t : Tg) : TG := fun v σ H Q => ∃ st p d st', Rel K Γ σ H st (p.sh v d) ∧ t d st = some st' ∧ ∀ σ' H', wipe σ' ns = wipe σ ns → Rel K Γ σ' H' st' p → Q σ' H'
def rdGs (K : PySem.W.Frag) (Γ : Gam) (ns : List Nat) (t : List AV → Ss → Option Ss) : TGs := fun vs σ H Q => ∃ st p ds st', vs.length = ds.length ∧ Rel K Γ σ H st { p with iv := vs ++ p.iv, ix := ds ++ p.ix } ∧ t ds st = some st' ∧ ∀ σ' H', wipe σ' ns = wipe σ ns → Rel K Γ σ' H' st' p → Q σ' H'
def gN (i : Nat) : Tg := fun d st => some ⟨setSl st.r i (.im d), st.s⟩
def gNil' : List AV → Ss → Option Ss
  | [], st => some st
  | _ :: _, _ => none
def gCons' (t : Tg) (u : List AV → Ss → Option Ss) : List AV → Ss → Option Ss
  | d :: ds, st => (t d st).bind fun s1 => u ds s1
  | [], _ => none
def gT (n : Nat) (u : List AV → Ss → Option Ss) : Tg := fun d st => match d with
  | .tup xs => if xs.length = n then u xs st else none
  | .lst _ xs => if xs.length = n then u xs st else none
  | _ => none
theorem pg_or {X : Cx} {tg : Expr} {g1 g2 : TG} (h1 : PG X tg g1) (h2 : PG X tg g2) : PG X tg (fun v σ H Q => g1 v σ H Q ∨ g2 v σ H Q) := ⟨fun pins s σ H v u Q I r h => h.elim (h1.run pins s σ H v u Q I r) (h2.run pins s σ H v u Q I r)⟩
theorem wipe_sub {σ σ' : L2.St} {ns ms : List Nat} (h : wipe σ' ns = wipe σ ns) (hs : ∀ i ∈ ns, i ∈ ms) : wipe σ' ms = wipe σ ms := by
  have len : σ'.length = σ.length := by rw [← wipe_length σ' ns, h, wipe_length]
  apply List.ext_getElem?
  intro i
  by_cases c : i ∈ ms
  · have z : ∀ (τ : L2.St) (l : List Nat), i ∈ l → (wipe τ l)[i]? = if i < τ.length then some none else none := fun τ l => by
      induction l with
      | nil => intro z; cases z
      | cons a l ih =>
        intro z
        unfold wipe
        by_cases e : a = i
        · subst e
          by_cases hl : a < τ.length
          · rw [if_pos hl, List.getElem?_set_self (by rw [wipe_length]; exact hl)]
          · rw [if_neg hl, List.getElem?_eq_none (by rw [List.length_set, wipe_length]; omega)]
        · rw [List.getElem?_set_ne e]
          exact ih (by
            rcases List.mem_cons.mp z with z | z
            · exact absurd z.symm e
            · exact z)
    rw [z _ _ c, z _ _ c, len]
  · rw [wipe_out c, wipe_out c]
    have c2 : i ∉ ns := fun z => c (hs i z)
    have e1 := wipe_out (σ := σ') c2
    have e2 := wipe_out (σ := σ) c2
    rw [← e1, ← e2, h]
theorem wipe_set {σ : L2.St} {i : Nat} {o : Option V} : wipe (σ.set i o) [i] = wipe σ [i] := by
  show ((σ.set i o).set i none) = σ.set i none
  rw [List.set_set]
section
variable {X : Cx} {Γ : Gam} {W : WX} {σ : L2.St} {H : Hp} {st : Ss} {p : Pd} {K : PySem.W.Frag} {pos : Pos}
theorem pg_imp {e : Expr} {t t' : TG} (h : PG X e t) (i : ∀ v σ H Q, t' v σ H Q → t v σ H Q) : PG X e t' := ⟨fun pins s σ H v u Q I r q => h.run pins s σ H v u Q I r (i v σ H Q q)⟩
theorem pgs_imp {e : List Expr} {t t' : TGs} (h : PGs X e t) (i : ∀ v σ H Q, t' v σ H Q → t v σ H Q) : PGs X e t' := ⟨fun pins s σ H v u Q I r q => h.run pins s σ H v u Q I r (i v σ H Q q)⟩
theorem s_gn {i : Nat} {x : Str} (hN : X.N.Nodup) (hi : X.N[i]? = some x) (hx : Loc X.env.scope x) (hf : X.fn x = true ∨ X.env.scope.names.lookup x = some .local := by first | exact .inl rfl | exact .inr rfl | assumption) : PG X (.Name x pos) (rdG X.K Γ [i] (gN i)) := by
  refine pg_imp (pg_name hN hi hx hf) fun v σ H Q h => ?_
  obtain ⟨st, p, d, st', R, e, h⟩ := h
  cases e
  exact h _ _ wipe_set (R.put i)
theorem s_gnil : PGs X [] (rdGs X.K Γ [] gNil') := by
  refine pgs_imp pgs_nil fun vs σ H Q h => ?_
  obtain ⟨st, p, ds, st', hl, R, e, h⟩ := h
  cases ds with
  | nil =>
    cases e
    cases vs with
    | nil => exact ⟨rfl, h _ _ rfl R⟩
    | cons _ _ => cases hl
  | cons _ _ => cases e
theorem s_gcons {e : Expr} {es : List Expr} {ns ms : List Nat} {t : Tg} {u : List AV → Ss → Option Ss} (h1 : PG X e (rdG X.K Γ ns t)) (h2 : PGs X es (rdGs X.K Γ ms u))
    (hs : (assignEach (e :: es) X.env).map (·.2) = assign e X.env :: (assignEach es X.env).map (·.2) := by rfl) : PGs X (e :: es) (rdGs X.K Γ (ns ++ ms) (gCons' t u)) := by
  refine pgs_imp (pgs_cons h1 h2 hs) fun vs σ H Q h => ?_
  obtain ⟨st, p, ds, st', hl, R, e, h⟩ := h
  cases ds with
  | nil => cases e
  | cons d ds =>
    cases vs with
    | nil => cases hl
    | cons v vs =>
      have e2 : (t d st).bind (fun s1 => u ds s1) = some st' := e
      cases et : t d st with
      | none => rw [et] at e2; cases e2
      | some s1 =>
        rw [et] at e2
        refine ⟨v, vs, rfl, st, { p with iv := vs ++ p.iv, ix := ds ++ p.ix }, d, s1, R, et, fun σ' H' w1 R1 => ⟨s1, p, ds, st', by simpa using hl, R1, e2, fun σ2 H2 w2 R2 => h σ2 H2 ?_ R2⟩⟩
        exact (wipe_sub w2 (fun i hi => by simp [hi])).trans (wipe_sub w1 (fun i hi => by simp [hi]))
theorem s_gt {es : List Expr} {k n : Nat} {ns : List Nat} {u : List AV → Ss → Option Ss} (hc : X.calm = true) (h : PGs X es (rdGs X.K Γ ns u)) (hn : (assignEach es X.env).length = n := by rfl) (hst : (assignEach es X.env).findIdx? (·.1) = none := by rfl) :
    PG X (.Tuple es k pos) (rdG X.K Γ ns (gT n u)) := by
  refine pg_imp (pg_or (pg_tup hc h hn hst) (pg_lst hc h hn hst)) fun v σ H Q h => ?_
  obtain ⟨st, p, d, st', R, e, h⟩ := h
  unfold gT at e
  cases d with
  | tup xs =>
    obtain ⟨m, ar, am, ao, ab, R0, r⟩ := R.one
    obtain ⟨a, us, rfl, hs, q⟩ := r.tup_i
    by_cases c : xs.length = n
    · simp only [c, if_true] at e
      exact .inl ⟨a, us, rfl, hs, by rw [q.len]; exact c, st, p, xs, st', q.len, ⟨m, ar, am, ao, ab, R0.setI (q.app R0.ri)⟩, e, h⟩
    · simp only [c, if_false] at e
      cases e
  | lst o xs =>
    obtain ⟨m, ar, am, ao, ab, R0, r⟩ := R.one
    obtain ⟨a, us, rfl, hs, q⟩ := r.lst_i
    by_cases c : xs.length = n
    · simp only [c, if_true] at e
      exact .inr ⟨a, us, rfl, SqL.of hs, by rw [q.len]; exact c, st, p, xs, st', q.len, ⟨m, ar, am, ao, ab, R0.setI (q.app R0.ri)⟩, e, h⟩
    · simp only [c, if_false] at e
      cases e
  | _ => cases e
/-! ### what is walked -/
abbrev Pd.shs (p : Pd) (vs : List V) (xs : List AV) : Pd := { p with iv := vs ++ p.iv, ix := xs ++ p.ix }
theorem Rel.dropL {vs : List V} {xs : List AV} (hl : vs.length = xs.length) (R : Rel K Γ σ H st (p.shs vs xs)) : Rel K Γ σ H st p := by
  obtain ⟨m, ar, am, ao, ab, R, _⟩ := Rel.args hl R
  exact R.rel
theorem Rel.dropL1 {vs : List V} {xs : List AV} {v : V} {d : AV} (hl : vs.length = xs.length) (R : Rel K Γ σ H st ((p.shs vs xs).sh v d)) : Rel K Γ σ H st (p.sh v d) := by
  obtain ⟨m, ar, am, ao, ab, R, r⟩ := R.one
  obtain ⟨a1, a2, e, r1, r2⟩ := Rp.app_inv hl R.ri
  obtain ⟨e1, e2⟩ := List.append_eq_nil_iff.mp e.symm
  subst e1 e2
  exact ⟨m, ar, am, ao, ab, R.setI (p := p.shs vs xs) (r.cons0 r2)⟩
/-- J walks ds as long as what is pending stands -/
def ItR (K : PySem.W.Frag) (Γ : Gam) (J : It) (p : Pd) (ds : List AV) : Prop :=
  (∀ (i : Nat) d σ H st ov ox, ds[i]? = some d → Rel K Γ σ H st { p with ov := ov, ox := ox } → J.go i H ∧ ∀ x H', J.yld i H x H' → Rel K Γ σ H' st ({ p with ov := ov, ox := ox }.sh x d)) ∧ ∀ σ H st ov ox, Rel K Γ σ H st { p with ov := ov, ox := ox } → J.stop ds.length H
def rdI (K : PySem.W.Frag) (Γ : Gam) (W : WX) (m : M (List AV)) : TI := fun σ H R => ∃ st p, Rel K Γ σ H st p ∧ match m st with
  | .ok ds st' => ∀ J H' vs xs, vs.length = xs.length → Rel K Γ σ H' st' (p.nob.shs vs xs) → ItR K Γ J (p.nob.shs vs xs) ds → R J H'
  | .err c st' => ∀ H', Rel K Γ σ H' st' p.nob → W (.ref (He.ga K c)) none σ H'
  | .bad => False
theorem pi_imp {tg it : Expr} {t t' : TI} (h : PI X tg it t) (i : ∀ σ H R, t' σ H R → t σ H R) : PI X tg it t' := ⟨fun pins s σ H R I q => h.run pins s σ H R I (i σ H R q)⟩
/-- a list's, a tuple's items -/
def itemsOf : AV → Option (List AV)
  | .lst _ xs => some xs
  | .tup xs => some xs
  | .scr xs => some xs
  | _ => none
def iOf (m : M AV) : M (List AV) := fun st => (m st).bind fun x s1 => ofO (itemsOf x) s1
theorem s_it {tg e : Expr} {m : M AV} (h : PE X e (rdE X.K Γ W m)) : PI X tg e (rdI X.K Γ W (iOf m)) := by
  refine pi_imp (pi_or (pi_list h) (pi_tup h)) fun σ H R q => ?_
  obtain ⟨st, p, R0, q⟩ := q
  unfold iOf at q
  cases ea : m st with
  | bad => rw [ea] at q; exact q.elim
  | err c s1 =>
    rw [ea] at q
    exact .inl ⟨st, p, R0, by rw [ea]; exact q⟩
  | ok d s1 =>
    rw [ea] at q
    simp only [Res.bind_ok] at q
    cases d with
    | lst o xs =>
      refine .inl ⟨st, p, R0, ?_⟩
      rw [ea]
      intro v H1 R1
      obtain ⟨mm, ar, am, ao, ab, R2, r⟩ := R1.one
      obtain ⟨a, us, rfl, hs, _⟩ := r.lst_i
      refine ⟨a, rfl, ⟨us, SqL.of hs⟩, q (Itl X.K a) H1 [.ref a] [(.lst o xs)] rfl R1 ⟨fun i d σ H st ov ox e R3 => ?_, fun σ H st ov ox R3 => ?_⟩⟩
      · obtain ⟨m3, ar3, am3, ao3, ab3, R4, r4⟩ := Rel.one (p := { p.nob with ov := ov, ox := ox }) R3
        obtain ⟨a2, us2, e2, hs2, q2⟩ := r4.lst_i
        cases e2
        obtain ⟨u, eu, ru⟩ := q2.get0 e
        refine ⟨⟨us2, u, SqL.of hs2, eu⟩, fun x H' y => ?_⟩
        obtain ⟨eh, y⟩ := y
        subst eh
        have z := y us2 (SqL.of hs2)
        rw [eu] at z
        cases z
        exact ⟨m3, ar3, am3, ao3, ab3, R4.setI (ru.cons0 (r4.cons0 R4.ri))⟩
      · obtain ⟨m3, ar3, am3, ao3, ab3, R4, r4⟩ := Rel.one (p := { p.nob with ov := ov, ox := ox }) R3
        obtain ⟨a2, us2, e2, hs2, q2⟩ := r4.lst_i
        cases e2
        exact ⟨us2, SqL.of hs2, Nat.le_of_eq q2.len⟩
    | scr xs =>
      refine .inl ⟨st, p, R0, ?_⟩
      rw [ea]
      intro v H1 R1
      obtain ⟨mm, ar, am, ao, ab, R2, r⟩ := R1.one
      obtain ⟨a, us, rfl, hs, _⟩ := r.scr_i
      refine ⟨a, rfl, ⟨us, hs.sq⟩, q (Itl X.K a) H1 [.ref a] [(.scr xs)] rfl R1 ⟨fun i d σ H st ov ox e R3 => ?_, fun σ H st ov ox R3 => ?_⟩⟩
      · obtain ⟨m3, ar3, am3, ao3, ab3, R4, r4⟩ := Rel.one (p := { p.nob with ov := ov, ox := ox }) R3
        obtain ⟨a2, us2, e2, hs2, q2⟩ := r4.scr_i
        cases e2
        obtain ⟨u, eu, ru⟩ := q2.get0 e
        refine ⟨⟨us2, u, hs2.sq, eu⟩, fun x H' y => ?_⟩
        obtain ⟨eh, y⟩ := y
        subst eh
        have z := y us2 hs2.sq
        rw [eu] at z
        cases z
        exact ⟨m3, ar3, am3, ao3, ab3, R4.setI (ru.cons0 (r4.cons0 R4.ri))⟩
      · obtain ⟨m3, ar3, am3, ao3, ab3, R4, r4⟩ := Rel.one (p := { p.nob with ov := ov, ox := ox }) R3
        obtain ⟨a2, us2, e2, hs2, q2⟩ := r4.scr_i
        cases e2
        exact ⟨us2, hs2.sq, Nat.le_of_eq q2.len⟩
    | tup xs =>
      refine .inr ⟨st, p, R0, ?_⟩
      rw [ea]
      intro v H1 R1
      obtain ⟨mm, ar, am, ao, ab, R2, r⟩ := R1.one
      obtain ⟨a, us, rfl, hs, _⟩ := r.tup_i
      refine ⟨a, rfl, ⟨us, hs⟩, q (Itt X.K a) H1 [.ref a] [(.tup xs)] rfl R1 ⟨fun i d σ H st ov ox e R3 => ?_, fun σ H st ov ox R3 => ?_⟩⟩
      · obtain ⟨m3, ar3, am3, ao3, ab3, R4, r4⟩ := Rel.one (p := { p.nob with ov := ov, ox := ox }) R3
        obtain ⟨a2, us2, e2, hs2, q2⟩ := r4.tup_i
        cases e2
        obtain ⟨u, eu, ru⟩ := q2.get0 e
        refine ⟨⟨us2, u, hs2, eu⟩, fun x H' y => ?_⟩
        obtain ⟨eh, y⟩ := y
        subst eh
        have z := y us2 hs2
        rw [eu] at z
        cases z
        exact ⟨m3, ar3, am3, ao3, ab3, R4.setI (ru.cons0 (r4.cons0 R4.ri))⟩
      · obtain ⟨m3, ar3, am3, ao3, ab3, R4, r4⟩ := Rel.one (p := { p.nob with ov := ov, ox := ox }) R3
        obtain ⟨a2, us2, e2, hs2, q2⟩ := r4.tup_i
        cases e2
        exact ⟨us2, hs2, Nat.le_of_eq q2.len⟩
    | _ => exact q.elim
/-- range -/
def rngL (lo hi : Int) : List AV := (List.range (hi - lo).toNat).map fun (i : Nat) => AV.int (lo + i)
def rng1 : List AV → Option (List AV)
  | [.int n] => if -(2 ^ 62) ≤ n ∧ n < 2 ^ 62 then some (rngL 0 n) else none
  | _ => none
def iArg (f : List AV → Option (List AV)) (m : M (List AV)) : M (List AV) := fun st => (m st).bind fun xs s1 => ofO (f xs) s1
theorem itr_r {lo : Int} {n : Nat} : ItR K Γ (Itr lo n) p ((List.range n).map fun (i : Nat) => AV.int (lo + i)) := by
  refine ⟨fun i d σ H st ov ox e R => ?_, fun σ H st ov ox R => by rw [List.length_map, List.length_range]; exact Nat.le_refl _⟩
  rw [List.getElem?_map] at e
  by_cases c : i < n
  · rw [List.getElem?_range c] at e
    cases e
    refine ⟨c, fun x H' y => ?_⟩
    obtain ⟨eh, ex⟩ := y
    subst eh ex
    exact R.int _
  · rw [List.getElem?_eq_none (by rw [List.length_range]; omega)] at e
    cases e
theorem s_rng1 {tg a : Expr} {ma : M (List AV)} {q : Pos} (hg : Gl X "range") (hm : X.mg "range" = none) (ha : PA X [a] (rdA X.K Γ W ma)) (hs : starEach [a] X.env = [(false, eval a X.env)] := by rfl) : PI X tg (.Call (.Name "range" q) [a] [] pos) (rdI X.K Γ W (iArg rng1 ma)) := by
  refine pi_imp (pi_range1 hg hm ha hs) fun σ H R h => ?_
  obtain ⟨st, p, R0, h⟩ := h
  refine ⟨st, p, R0, ?_⟩
  unfold iArg at h
  cases ea : ma st with
  | bad => rw [ea] at h; exact h
  | err c s1 => rw [ea] at h; exact h
  | ok xs s1 =>
    rw [ea] at h
    simp only [Res.bind_ok] at h
    intro vs H1 hl R1
    obtain ⟨m, ar, am, ao, ab, R2, r⟩ := Rel.args (p := p.nob) hl R1
    cases e : rng1 xs with
    | none => rw [e] at h; exact h.elim
    | some ds =>
      rw [e] at h
      unfold rng1 at e
      split at e
      · split at e
        · cases e
          rename_i n c
          obtain ⟨v, vs', rfl⟩ : ∃ v vs', vs = v :: vs' := by
            cases vs with
            | nil => cases hl
            | cons v vs' => exact ⟨v, vs', rfl⟩
          have e1 := r.head0.1.int_i
          have e2 := (r.head0.2.nil_inv).1
          subst e1 e2
          refine ⟨n, rfl, c.1, c.2, h _ H1 [] [] rfl R2.rel ?_⟩
          have e3 : n.toNat = (n - 0).toNat := by omega
          unfold rngL
          rw [← e3]
          exact itr_r
        · cases e
      · cases e
/-! ### for -/
def forM (t : Tg) (body : M Fl) : List AV → M Fl
  | [], st => .ok .nx st
  | d :: ds, st => match t d st with
    | none => .bad
    | some s0 => match body s0 with
      | .ok .nx s1 => forM t body ds s1
      | .ok .ct s1 => forM t body ds s1
      | .ok .bk s1 => .ok .nx s1
      | .ok (.rt d) s1 => .ok (.rt d) s1
      | .err c s1 => .err c s1
      | .bad => .bad
def sFor (mi : M (List AV)) (t : Tg) (body : M Fl) : M Fl := fun st => (mi st).bind fun ds s1 => forM t body ds s1
def Pos_ (K : PySem.W.Frag) (Γ : Gam) (W : WX) (D : Ends) (p : Pd) (r : Res Fl Ss) : Prop := match r with
  | .ok .nx st' => ∀ σ' H', Rel K Γ σ' H' st' p → D.nx σ' H'
  | .ok (.rt d) st' => ∀ v σ' H', Rel K Γ σ' H' st' (p.sh v d) → D.rt v H'
  | .ok .bk st' => ∀ σ' H', Rel K Γ σ' H' st' p → D.bk σ' H'
  | .ok .ct st' => ∀ σ' H', Rel K Γ σ' H' st' p → D.ct σ' H'
  | .err c st' => ∀ σ' H', Rel K Γ σ' H' st' p → W (.ref (He.ga K c)) none σ' H'
  | .bad => False
theorem s_for {tg iter : Expr} {body : List Stmt} {mi : M (List AV)} {ns : List Nat} {t : Tg} {mb : M Fl} (hp : PassesOwn (model X.prog X.w) X.A X.env X.xe) (hc : X.calm = true) (hi : PI X tg iter (rdI X.K Γ W mi)) (hg : PG X tg (rdG X.K Γ ns t)) (hb : PSs X body (rdS X.K Γ W mb))
    (hs : ∀ x, foldedSetIterable iter X.env x = pure x := by intro _; rfl) : PS X (.For tg iter body [] pos) (rdS X.K Γ W (sFor mi t mb)) := by
  refine ps_imp (ps_for hp hc hi hg hb hs) fun D σ H h => ?_
  obtain ⟨st, p, R, hp, h⟩ := h
  refine ⟨st, p, R, ?_⟩
  unfold sFor at h
  cases ea : mi st with
  | bad => rw [ea] at h; exact h
  | err c s1 => rw [ea] at h; exact fun H' R' => h σ H' (hp ▸ R')
  | ok ds s1 =>
    rw [ea] at h
    simp only [Res.bind_ok] at h
    have h : Pos_ X.K Γ W D p (forM t mb ds s1) := h
    intro J H1 vs xs hl R1 J1
    rw [hp] at R1 J1
    have hw : ∀ σ H st, Rel X.K Γ σ H st (p.shs vs xs) → Rel X.K Γ σ H st p := fun _ _ _ z => z.dropL hl
    have np : (p.shs vs xs).nob = p.shs vs xs := by
      have e := hp
      have e1 : p.bv = [] := by rw [← hp]
      have e2 : p.bx = [] := by rw [← hp]
      show { p.shs vs xs with bv := [], bx := [] } = p.shs vs xs
      rw [← e1, ← e2]
    refine ⟨fun i n σ H => n = ds.length - i ∧ i ≤ ds.length ∧ ∃ st, Rel X.K Γ σ H st (p.shs vs xs) ∧ Pos_ X.K Γ W D p (forM t mb (ds.drop i) st), ⟨_, rfl, Nat.zero_le _, s1, R1, h⟩, ?_⟩
    rintro i n σ H ⟨rfl, hi, st, R2, h2⟩
    by_cases c : i < ds.length
    · rw [List.drop_eq_getElem_cons c] at h2
      unfold forM at h2
      cases et : t ds[i] st with
      | none => rw [et] at h2; exact h2.elim
      | some s0 =>
        rw [et] at h2
        have h2 : Pos_ X.K Γ W D p (match mb s0 with
          | .ok .nx s1 => forM t mb (ds.drop (i + 1)) s1
          | .ok .ct s1 => forM t mb (ds.drop (i + 1)) s1
          | .ok .bk s1 => .ok .nx s1
          | .ok (.rt d) s1 => .ok (.rt d) s1
          | .err c s1 => .err c s1
          | .bad => .bad) := h2
        obtain ⟨go, yl⟩ := J1.1 i ds[i] σ H st p.ov p.ox (by simp [c]) R2
        refine .inr ⟨go, fun σ' H' => ∃ st, Rel X.K Γ σ' H' st (p.shs vs xs) ∧ Pos_ X.K Γ W D p (forM t mb (ds.drop (i + 1)) st), fun σ' H' ⟨st, R3, h3⟩ => ⟨_, by omega, rfl, c, st, R3, h3⟩, fun x H' y => ?_⟩
        refine ⟨st, p.shs vs xs, ds[i], s0, yl x H' y, et, fun σ2 H2 _ R3 => ⟨s0, p.shs vs xs, R3, np, ?_⟩⟩
        cases em : mb s0 with
        | bad => rw [em] at h2; exact h2
        | err c s2 => rw [em] at h2; exact fun σ3 H3 R4 => h2 σ3 H3 (hw _ _ _ R4)
        | ok f s2 =>
          rw [em] at h2
          cases f with
          | nx => exact fun σ3 H3 R4 => ⟨s2, R4, h2⟩
          | ct => exact fun σ3 H3 R4 => ⟨s2, R4, h2⟩
          | bk => exact fun σ3 H3 R4 => h2 σ3 H3 (hw _ _ _ R4)
          | rt d => exact fun v σ3 H3 R4 => h2 v σ3 H3 (R4.dropL1 hl)
    · have e : i = ds.length := by omega
      subst e
      rw [List.drop_length] at h2
      exact .inl ⟨J1.2 σ H st p.ov p.ox R2, h2 σ H (hw _ _ _ R2)⟩
end
end Fk
/-! ## list comprehensions -/
namespace Fk
open PySem PySem.Spec PyProof.Rows L2
def wipeSl (r : List Sl) : List Nat → List Sl
  | [] => r
  | v :: vs => setSl (wipeSl r vs) v .no
abbrev Ss.wipe (st : Ss) (vs : List Nat) : Ss := ⟨wipeSl st.r vs, st.s⟩
def noX : WX := fun _ _ _ _ => False
def compM (t : Tg) (tt : M Bool) (te : M AV) (vs : List Nat) : List AV → List AV → Ss → Res (List AV) Ss
  | [], acc, st => .ok acc st
  | d :: ds, acc, st => match t d st with
    | none => .bad
    | some s0 => match tt s0 with
      | .ok true s1 => (match te s1 with
        | .ok y s2 => if acc.length < 16777216 then compM t tt te vs ds (acc ++ [y]) (s2.wipe vs) else .bad
        | _ => .bad)
      | .ok false s1 => compM t tt te vs ds acc (s1.wipe vs)
      | _ => .bad
theorem wipe_wipe {σ : L2.St} {vs : List Nat} : L2.wipe (L2.wipe σ vs) vs = L2.wipe σ vs := by
  apply List.ext_getElem?
  intro i
  by_cases c : i ∈ vs
  · have z : ∀ (τ : L2.St) (l : List Nat), i ∈ l → (L2.wipe τ l)[i]? = if i < τ.length then some none else none := fun τ l => by
      induction l with
      | nil => intro z; cases z
      | cons a l ih =>
        intro z
        unfold L2.wipe
        by_cases e : a = i
        · subst e
          by_cases hl : a < τ.length
          · rw [if_pos hl, List.getElem?_set_self (by rw [wipe_length]; exact hl)]
          · rw [if_neg hl, List.getElem?_eq_none (by rw [List.length_set, wipe_length]; omega)]
        · rw [List.getElem?_set_ne e]
          exact ih (by
            rcases List.mem_cons.mp z with z | z
            · exact absurd z.symm e
            · exact z)
    rw [z _ _ c, z _ _ c, wipe_length]
  · rw [wipe_out c]
def tTrue : M Bool := fun st => .ok true st
def lcM (mi : M (List AV)) (t : Tg) (tt : M Bool) (te : M AV) (vs : List Nat) : M (List AV) := fun st => (mi st).bind fun ds s1 => compM t tt te vs ds [] (s1.wipe vs)
def eLc (o : Bool) (m : M (List AV)) : M AV := fun st => (m st).bind fun xs s1 => .ok (.lst o xs) s1
section
variable {K : PySem.W.Frag} {H H' : Hp} {W m : List Addr} {as : List Addr} {σ : L2.St} {r : List Sl}
theorem Rs.wipe1 (q : Rs K H W m σ r as) (i : Nat) : ∃ as', (∀ b ∈ as', b ∈ as) ∧ (as.Nodup → as'.Nodup) ∧ Rs K H W m (σ.set i none) (setSl r i .no) as' := by
  obtain ⟨as', h1, h2, h3⟩ := q.drop i
  refine ⟨as', h1, h2, ?_⟩
  clear h1 h2 q
  induction r generalizing i σ as' with
  | nil =>
    cases h3
    exact .nil
  | cons x r ih => cases i with
    | zero =>
      cases h3 with
      | no q => exact .no q
    | succ i =>
      cases h3 with
      | no q => exact .no (ih _ _ q)
      | im h0 q => exact .im h0 (ih _ _ q)
      | ow h0 q => exact .ow h0 (ih _ _ q)
theorem Rs.wipes (q : Rs K H W m σ r as) : ∀ vs : List Nat, ∃ as', (∀ b ∈ as', b ∈ as) ∧ (as.Nodup → as'.Nodup) ∧ Rs K H W m (L2.wipe σ vs) (wipeSl r vs) as'
  | [] => ⟨as, fun _ z => z, fun z => z, q⟩
  | v :: vs => by
    obtain ⟨a1, h1, h2, h3⟩ := q.wipes vs
    obtain ⟨a2, g1, g2, g3⟩ := h3.wipe1 v
    exact ⟨a2, fun b z => h1 b (g1 b z), fun z => g2 (h2 z), g3⟩
/-- a slot that tells nothing may hold anything -/
theorem Rs.any1 {i : Nat} {o : Option V} (q : Rs K H W m (σ.set i o) (setSl r i .no) as) : Rs K H W m σ (setSl r i .no) as := by
  induction r generalizing i σ as with
  | nil =>
    cases σ with
    | nil => exact q
    | cons a b =>
      have l := q.len
      simp [setSl] at l
  | cons x r ih => cases i with
    | zero =>
      cases σ with
      | nil => exact q
      | cons a b =>
        cases q with
        | no q => exact .no q
    | succ i =>
      cases σ with
      | nil => exact q
      | cons a b =>
        cases q with
        | no q => exact .no (ih q)
        | im h0 q => exact .im h0 (ih q)
        | ow h0 q => exact .ow h0 (ih q)
theorem setSl_comm : ∀ (r : List Sl) (i j : Nat), setSl (setSl r i .no) j .no = setSl (setSl r j .no) i .no
  | [], _, _ => rfl
  | _ :: _, 0, 0 => rfl
  | _ :: _, 0, _ + 1 => rfl
  | _ :: _, _ + 1, 0 => rfl
  | x :: r, i + 1, j + 1 => by simp [setSl_comm r i j]
theorem wipeSl_set : ∀ (vs : List Nat) (r : List Sl) (i : Nat), wipeSl (setSl r i .no) vs = setSl (wipeSl r vs) i .no
  | [], _, _ => rfl
  | v :: vs, r, i => by
    show setSl (wipeSl (setSl r i .no) vs) v .no = setSl (setSl (wipeSl r vs) v .no) i .no
    rw [wipeSl_set vs r i, setSl_comm]
theorem Rs.any : ∀ (vs : List Nat) {σ : L2.St} {r : List Sl} {as : List Addr}, Rs K H W m (L2.wipe σ vs) (wipeSl r vs) as → Rs K H W m σ (wipeSl r vs) as
  | [], _, _, _, q => q
  | v :: vs, σ, r, as, q => by
    have q1 : Rs K H W m (L2.wipe σ vs) (setSl (wipeSl r vs) v .no) as := Rs.any1 (show Rs K H W m ((L2.wipe σ vs).set v none) (setSl (wipeSl r vs) v .no) as from q)
    rw [← wipeSl_set] at q1
    have q2 := Rs.any vs q1
    rw [wipeSl_set] at q2
    exact q2
end
section
variable {X : Cx} {Γ : Gam} {W : WX} {σ : L2.St} {H : Hp} {st : Ss} {p : Pd} {K : PySem.W.Frag} {pos : Pos}
theorem Rel.wipe (R : Rel K Γ σ H st p) (vs : List Nat) : Rel K Γ (L2.wipe σ vs) H (st.wipe vs) p := by
  obtain ⟨m, ar, am, ao, ab, R⟩ := R
  obtain ⟨ar', h1, h2, h3⟩ := R.rs.wipes vs
  have nd := R.nd
  have fr := R.fr
  have t : Tr H H (wOf Γ ar am ao) (wOf Γ ar' am ao) m m [] := Tr.same fun c z => by
    simp only [wOf, List.mem_append] at z ⊢
    grind
  refine ⟨m, ar', am, ao, ab, t.rs h3 (fun _ _ z => nomatch z), t.rp R.rm (fun _ _ z => nomatch z), t.rp0 R.ri, t.rp R.ro (fun _ _ z => nomatch z), t.rp R.rb (fun _ _ z => nomatch z), ?_, ?_, R.kp, R.pm, R.gu, R.tb⟩
  · simp only [wOf, List.nodup_append, List.mem_append] at nd ⊢
    grind
  · intro a ha
    have z := fr a
    simp only [List.mem_append] at z ha
    grind
theorem Rel.unwipe {vs : List Nat} {s0 : Ss} (R : Rel K Γ (L2.wipe σ vs) H (s0.wipe vs) p) : Rel K Γ σ H (s0.wipe vs) p := by
  obtain ⟨m, ar, am, ao, ab, R⟩ := R
  exact ⟨m, ar, am, ao, ab, Rs.any vs R.rs, R.rm, R.ri, R.ro, R.rb, R.nd, R.fr, R.kp, R.pm, R.gu, R.tb⟩
/-- the owned list that is pending gets an item more -/
theorem Rel.appO {D : Addr} {acc : List AV} {y : V} {d : AV} (R : Rel K Γ σ H st ((p.own (.ref D) (.lst true acc)).sh y d)) : ∃ us, H D = some (.lst us) ∧ us.length = acc.length ∧ Rel K Γ σ (upd H D (.lst (us ++ [y]))) st (p.own (.ref D) (.lst true (acc ++ [d]))).nob := by
  obtain ⟨m, ar, am, ao, ab, R⟩ := R
  have ry := R.ri.head0.1
  have ri := R.ri.head0.2
  obtain ⟨b, ao', eo, r1, r2⟩ := R.ro.head
  obtain ⟨_, us, e0, rfl, h, q⟩ := r1.lsO_i
  cases e0
  · subst eo
    have nd := R.nd
    have hD : D ∈ wOf Γ ar am ([D] ++ ao') := by simp [wOf]
    have t : Tr H (upd H D (.lst (us ++ [y]))) (wOf Γ ar am ([D] ++ ao')) (wOf Γ ar am ([D] ++ ao')) m m [D] := Tr.put h rfl hD fun _ z => z
    have n1 : ∀ b ∈ ar, b ∉ [D] := fun b hb z => by
      simp only [wOf, List.nodup_append, List.mem_append, List.mem_singleton] at nd z
      grind
    have n2 : ∀ b ∈ am, b ∉ [D] := fun b hb z => by
      simp only [wOf, List.nodup_append, List.mem_append, List.mem_singleton] at nd z
      grind
    have n3 : ∀ b ∈ ao', b ∉ [D] := fun b hb z => by
      simp only [wOf, List.nodup_append, List.mem_append, List.mem_singleton] at nd z
      grind
    refine ⟨us, h, q.len, m, ar, am, [D] ++ ao', [], t.rs R.rs n1, t.rp R.rm n2, t.rp0 ri, (Rp.lsO upd_same ((t.rp0 q).app (t.rp0 ry)) .nil).cons (t.rp r2 n3), .nil, nd, R.fr, fun a o e n => ?_, R.pm, R.gu, tabs_put R.tb h rfl⟩
    obtain ⟨o', e', f⟩ := R.kp a o e n
    have ne : a ≠ D := by
      rintro rfl
      rcases R.fr a (by simp) with z | z
      · exact n z
      · rw [e] at z; cases z
    exact ⟨o', by rw [upd_ne ne]; exact e', f⟩
/-- what is owned and pending is given up -/
theorem Rel.frzO {v : V} {x d : AV} (R : Rel K Γ σ H st (p.own v x)) (e : Fk.frz x = some d) : Rel K Γ σ H st (p.sh v d) := by
  obtain ⟨m, ar, am, ao, ab, R⟩ := R
  obtain ⟨b, ao', eo, r1, r2⟩ := R.ro.head
  subst eo
  have nd := R.nd
  have fr := R.fr
  have hw : ∀ c, c ∈ wOf Γ ar am ao' → c ∈ wOf Γ ar am (b ++ ao') := fun c z => by
    simp only [wOf, List.mem_append] at z ⊢
    grind
  have t : Tr H H (wOf Γ ar am (b ++ ao')) (wOf Γ ar am ao') m m [] := Tr.same hw
  have rd := r1.frz e hw (fun c z => by
    simp only [wOf, List.nodup_append, List.mem_append] at nd ⊢
    grind)
  refine ⟨m, ar, am, ao', ab, t.rs R.rs (fun _ _ z => nomatch z), t.rp R.rm (fun _ _ z => nomatch z), rd.cons0 (t.rp0 R.ri), t.rp r2 (fun _ _ z => nomatch z), t.rp R.rb (fun _ _ z => nomatch z), ?_, ?_, R.kp, R.pm, R.gu, R.tb⟩
  · simp only [wOf, List.nodup_append, List.mem_append] at nd ⊢
    grind
  · intro a ha
    have z := fr a
    simp only [List.mem_append] at z ha
    grind
theorem pts_imp {es : List Expr} {t t' : TT} (h : PTs X es t) (i : ∀ σ H Q, t' σ H Q → t σ H Q) : PTs X es t' := ⟨fun pins s σ H Q I q => h.run pins s σ H Q I (i σ H Q q)⟩
theorem s_ts0 : PTs X [] (rdT X.K Γ W tTrue) := by
  refine pts_imp pts_nil fun σ H Q h => ?_
  obtain ⟨st, p, R, h⟩ := h
  exact h H R.nob
theorem s_ts1 {c : Expr} {m : M Bool} (h : PT X c (rdT X.K Γ W m)) : PTs X [c] (rdT X.K Γ W m) := pts_one h
/-- the comprehension's reading, the list that comes owned -/
theorem lc_in {mi : M (List AV)} {ns vs : List Nat} {t : Tg} {mt : M Bool} {me : M AV} {Q : VK} (hns : ∀ i ∈ ns, i ∈ vs) (h : rdO K Γ W (eLc true (lcM mi t mt me vs)) σ H Q) : tLc (rdI K Γ W mi) (rdG K Γ ns t) (rdT K Γ noX mt) (rdE K Γ noX me) vs σ H Q := by
  obtain ⟨st, p, R, h⟩ := h
  refine ⟨st, p, R, ?_⟩
  unfold eLc lcM at h
  cases ea : mi st with
  | bad => rw [ea] at h; exact h
  | err c s1 => rw [ea] at h; exact h
  | ok ds s1 =>
    rw [ea] at h
    simp only [Res.bind_ok] at h
    have h : match compM t mt me vs ds [] (s1.wipe vs) with
      | .ok xs st' => ∀ v H', Rel K Γ σ H' st' (p.nob.own v (.lst true xs)) → Q v H'
      | _ => False := by
      cases ec : compM t mt me vs ds [] (s1.wipe vs) with
      | bad => rw [ec] at h; exact h
      | err c s => 
        exfalso
        have noerr : ∀ (ds acc : List AV) (st : Ss) (c : Str) (s : Ss), compM t mt me vs ds acc st ≠ .err c s := fun ds => by
          induction ds with
          | nil => intro acc st c s z; cases z
          | cons d ds ih =>
            intro acc st c s z
            unfold compM at z
            cases e1 : t d st with
            | none => rw [e1] at z; cases z
            | some s0 =>
              rw [e1] at z
              cases e2 : mt s0 with
              | bad => simp only [e2] at z; cases z
              | err _ _ => simp only [e2] at z; cases z
              | ok b s1 =>
                cases b with
                | false => simp only [e2] at z; exact ih _ _ _ _ z
                | true =>
                  simp only [e2] at z
                  cases e3 : me s1 with
                  | bad => simp only [e3] at z; cases z
                  | err _ _ => simp only [e3] at z; cases z
                  | ok y s2 =>
                    simp only [e3] at z
                    split at z
                    · exact ih _ _ _ _ z
                    · cases z
        exact noerr _ _ _ _ _ ec
      | ok xs s => rw [ec] at h; exact h
    intro J H1 pv px hl R1 J1 D hD
    refine ⟨fun i n H => n = ds.length - i ∧ i ≤ ds.length ∧ ∃ (s0 : Ss) (acc : List AV), Rel K Γ (L2.wipe σ vs) H (s0.wipe vs) ((p.nob.shs pv px).own (.ref D) (.lst true acc)) ∧ (match compM t mt me vs (ds.drop i) acc (s0.wipe vs) with
      | .ok xs st' => ∀ v H', Rel K Γ σ H' st' (p.nob.own v (.lst true xs)) → Q v H'
      | _ => False), ⟨_, rfl, Nat.zero_le _, s1, [], ?_, h⟩, ?_⟩
    · obtain ⟨m, ar, am, ao, ab, R2⟩ := R1.wipe vs
      exact R2.newLst hD .nil
    rintro i n H ⟨rfl, hi, s0, acc, R2, h2⟩
    by_cases c : i < ds.length
    · rw [List.drop_eq_getElem_cons c] at h2
      unfold compM at h2
      cases et : t ds[i] (s0.wipe vs) with
      | none => rw [et] at h2; exact h2.elim
      | some s2 =>
        rw [et] at h2
        obtain ⟨go, yl⟩ := J1.1 i ds[i] (L2.wipe σ vs) H (s0.wipe vs) _ _ (by simp [c]) R2
        refine .inr ⟨go, fun H' => ∃ (s0 : Ss) (acc : List AV), Rel K Γ (L2.wipe σ vs) H' (s0.wipe vs) ((p.nob.shs pv px).own (.ref D) (.lst true acc)) ∧ (match compM t mt me vs (ds.drop (i + 1)) acc (s0.wipe vs) with
          | .ok xs st' => ∀ v H', Rel K Γ σ H' st' (p.nob.own v (.lst true xs)) → Q v H'
          | _ => False), fun H' ⟨s3, acc3, R3, h3⟩ => ⟨_, by omega, rfl, c, s3, acc3, R3, h3⟩, fun x H' y => ?_⟩
        refine ⟨_, _, ds[i], s2, yl x H' y, et, fun σ2 H2 w1 R3 => ⟨?_, s2, _, R3, ?_⟩⟩
        · have w2 := wipe_sub w1 hns
          have w3 : L2.wipe (L2.wipe σ vs) vs = L2.wipe σ vs := wipe_wipe
          exact w2.trans w3
        have back : ∀ {H : Hp} {st : Ss} {q : Pd}, Rel K Γ σ2 H st q → Rel K Γ (L2.wipe σ vs) H (st.wipe vs) q := fun z => by
          have z1 := z.wipe vs
          have w2 := wipe_sub w1 hns
          have w3 : L2.wipe (L2.wipe σ vs) vs = L2.wipe σ vs := wipe_wipe
          rw [w2.trans w3] at z1
          exact z1
        cases em : mt s2 with
        | bad => simp only [em] at h2
        | err _ _ => simp only [em] at h2
        | ok b s3 =>
          intro H3 R4
          cases b with
          | false =>
            simp only [em] at h2
            rw [if_neg Bool.false_ne_true]
            exact ⟨s3, acc, back R4, h2⟩
          | true =>
            simp only [em] at h2
            rw [if_pos rfl]
            refine ⟨s3, _, R4, ?_⟩
            cases ee : me s3 with
            | bad => simp only [ee] at h2
            | err _ _ => simp only [ee] at h2
            | ok d s4 =>
              simp only [ee] at h2
              intro y H4 R5
              obtain ⟨us, e1, e2, R6⟩ := Rel.appO (p := p.nob.shs pv px) R5
              by_cases cz : acc.length < 16777216
              · simp only [cz, if_true] at h2
                exact ⟨us, e1, by rw [e2, mx_eq]; exact cz, s4, acc ++ [d], back R6, h2⟩
              · simp only [cz, if_false] at h2
    · have e : i = ds.length := by omega
      subst e
      rw [List.drop_length] at h2
      refine .inl ⟨J1.2 _ H _ _ _ R2, ?_⟩
      have R3 := R2.unwipe
      exact h2 (.ref D) H (Rel.dropL (p := p.nob.own (.ref D) (.lst true acc)) hl R3)
theorem s_lcO {elt tg iter : Expr} {ifs : List Expr} {scope : Scope} {own : List (Str × Nat)} {mi : M (List AV)} {ns : List Nat} {t : Tg} {mt : M Bool} {me : M AV} (hc : X.calm = true) (hN : X.N.Nodup) (hi : PI X tg iter (rdI X.K Γ W mi)) (ok : BlkOk X.N X.env.scope scope own)
    (hg : ∀ (s : Shared) (H : Hp) (C : Addr) (cl : List (Str × Addr)) (fp : List Addr), PG (X.blk s H scope (compEnvC scope cl C X.env) fp) tg (rdG X.K Γ ns t)) (ht : ∀ (s : Shared) (H : Hp) (C : Addr) (cl : List (Str × Addr)) (fp : List Addr), PTs (X.blk s H scope (compEnvC scope cl C X.env) fp) ifs (rdT X.K Γ noX mt))
    (he : ∀ (s : Shared) (H : Hp) (C : Addr) (cl : List (Str × Addr)) (fp : List Addr), PE (X.blk s H scope (compEnvC scope cl C X.env) fp) elt (rdE X.K Γ noX me)) (hns : ∀ i ∈ ns, i ∈ own.map (·.2) := by decide) (hs : ∀ x, foldedSetIterable iter X.env x = pure x := by intro _; rfl) :
    PE X (.ListComp elt [⟨tg, iter, ifs, 0⟩] scope pos) (rdO X.K Γ W (eLc true (lcM mi t mt me (own.map (·.2))))) :=
  pe_imp (pe_lc hc hN hi ok hg ht he hs) fun σ H Q h => lc_in hns h
theorem frz_in {m : M (List AV)} {Q : VK} (h : rdE K Γ W (eLc false m) σ H Q) : rdO K Γ W (eLc true m) σ H Q := by
  obtain ⟨st, p, R, h⟩ := h
  refine ⟨st, p, R, ?_⟩
  unfold eLc at h ⊢
  cases ea : m st with
  | bad => rw [ea] at h; exact h
  | err c s1 => rw [ea] at h; exact h
  | ok xs s1 => rw [ea] at h; exact fun v H' R' => h v H' (R'.frzO rfl)
theorem s_lc {elt tg iter : Expr} {ifs : List Expr} {scope : Scope} {own : List (Str × Nat)} {mi : M (List AV)} {ns : List Nat} {t : Tg} {mt : M Bool} {me : M AV} (hc : X.calm = true) (hN : X.N.Nodup) (hi : PI X tg iter (rdI X.K Γ W mi)) (ok : BlkOk X.N X.env.scope scope own)
    (hg : ∀ (s : Shared) (H : Hp) (C : Addr) (cl : List (Str × Addr)) (fp : List Addr), PG (X.blk s H scope (compEnvC scope cl C X.env) fp) tg (rdG X.K Γ ns t)) (ht : ∀ (s : Shared) (H : Hp) (C : Addr) (cl : List (Str × Addr)) (fp : List Addr), PTs (X.blk s H scope (compEnvC scope cl C X.env) fp) ifs (rdT X.K Γ noX mt))
    (he : ∀ (s : Shared) (H : Hp) (C : Addr) (cl : List (Str × Addr)) (fp : List Addr), PE (X.blk s H scope (compEnvC scope cl C X.env) fp) elt (rdE X.K Γ noX me)) (hns : ∀ i ∈ ns, i ∈ own.map (·.2) := by decide) (hs : ∀ x, foldedSetIterable iter X.env x = pure x := by intro _; rfl) :
    PE X (.ListComp elt [⟨tg, iter, ifs, 0⟩] scope pos) (rdE X.K Γ W (eLc false (lcM mi t mt me (own.map (·.2))))) :=
  pe_imp (s_lcO hc hN hi ok hg ht he hns hs) fun σ H Q h => frz_in h
theorem takes_noX : L2N.Takes X noX := fun u s' x => by
  obtain ⟨_, _, _, _, _, _, _, _, _, _, _, _, _, _, _, _, w⟩ := x
  exact w.elim
end
end Fk
/-! ## built-ins, subscripts, what is looked at alone -/
namespace Fk
open PySem PySem.Spec PyProof.Rows L2
/-- from values (the objects told) a shared one -/
def OpA (K : PySem.W.Frag) (r : List V → Hp → VK → Prop) (f : List AV → List AV → Option AV) : Prop := ∀ (Γ : Gam) (σ : L2.St) (H : Hp) (st : Ss) (p : Pd) (m ar am ao ab : List Addr) (vs : List V) (xs : List AV) (as : List Addr) (d : AV) (Q : VK),
  Rl K Γ σ H st p m ar am ao ab → Rp K H (wOf Γ ar am ao) m vs xs as → f st.s xs = some d → (∀ v H', Rel K Γ σ H' st (p.nob.sh v d) → Q v H') → r vs H Q
/-- .. a new list -/
def OpL (K : PySem.W.Frag) (r : List V → Hp → VK → Prop) (f : List AV → List AV → Option (List AV)) : Prop := ∀ (Γ : Gam) (σ : L2.St) (H : Hp) (st : Ss) (p : Pd) (m ar am ao ab : List Addr) (vs : List V) (xs : List AV) (as : List Addr) (ys : List AV) (Q : VK),
  Rl K Γ σ H st p m ar am ao ab → Rp K H (wOf Γ ar am ao) m vs xs as → f st.s xs = some ys → (∀ q us, H q = none → Rp K H (wOf Γ ar am ao) m us ys [] → Q (.ref q) (upd H q (.lst us))) → r vs H Q
def eB (f : List AV → List AV → Option AV) (a : M (List AV)) : M AV := fun st => (a st).bind fun xs s1 => ofO (f s1.s xs) s1
def fL (o : Bool) (f : List AV → List AV → Option (List AV)) : List AV → List AV → Option AV := fun S xs => (f S xs).map (AV.lst o)
/-- arguments that are looked at alone -/
def rdAP (K : PySem.W.Frag) (Γ : Gam) (m : Ss → Option (List AV)) : TA := fun σ H Q => ∃ st p ds, Rel K Γ σ H st p ∧ m st = some ds ∧ ∀ vs, vs.length = ds.length → Rel K Γ σ H st { p with bv := vs ++ p.bv, bx := ds ++ p.bx } → Q vs H
def eBP (f : List AV → List AV → Option AV) (a : Ss → Option (List AV)) : M AV := fun st => match a st with
  | some xs => ofO (f st.s xs) st
  | none => .bad
def pNil : Ss → Option (List AV) := fun _ => some []
def pCons (a : Ss → Option AV) (r : Ss → Option (List AV)) : Ss → Option (List AV) := fun st => (a st).bind fun x => (r st).map (x :: ·)
def pVar (i : Nat) : Ss → Option AV := fun st => match getSl st.r i with
  | .im d => some d
  | .ow d => some d
  | .no => none
def pC (d : AV) : Ss → Option AV := fun _ => some d
def p2 (f : AV → AV → Option AV) (a b : Ss → Option AV) : Ss → Option AV := fun st => (a st).bind fun x => (b st).bind fun y => f x y
def imm : AV → Bool
  | .lst o _ => !o
  | .dct o _ _ => !o
  | .nst _ => false
  | .ndc _ _ => false
  | .ins _ _ _ => false
  | .set _ => false
  | _ => true
def eP (m : Ss → Option AV) : M AV := fun st => match m st with
  | some d => bif imm d then .ok d st else .bad
  | none => .bad
section
variable {X : Cx} {Γ : Gam} {W : WX} {σ : L2.St} {H : Hp} {st : Ss} {p : Pd} {K : PySem.W.Frag} {pos q : Pos} {e : Expr} {es : List Expr} {ma : M (List AV)} {mp : Ss → Option (List AV)}
theorem Rl.freshL {m ar am ao ab : List Addr} (R : Rl K Γ σ H st p m ar am ao ab) {q : Addr} {us : List V} {ys : List AV} (h : H q = none) (r : Rp K H (wOf Γ ar am ao) m us ys []) (o : Bool) : (o = false → Rel K Γ σ (upd H q (.lst us)) st (p.nob.sh (.ref q) (.lst o ys))) ∧ (o = true → Rel K Γ σ (upd H q (.lst us)) st (p.nob.own (.ref q) (.lst o ys))) :=
  ⟨fun e => by subst e; exact (R.nob.lst h r).rel, fun e => by subst e; exact R.nob.newLst h r⟩
theorem OpL.a {r : List V → Hp → VK → Prop} {f : List AV → List AV → Option (List AV)} (h : OpL K r f) : OpA K r (fL false f) := by
  intro Γ σ H st p m ar am ao ab vs xs as d Q R r1 e q
  obtain ⟨ys, ey, rfl⟩ := Option.map_eq_some_iff.mp e
  exact h Γ σ H st p m ar am ao ab vs xs as ys Q R r1 ey fun a us ha ru => q _ _ ((R.freshL ha ru false).1 rfl)
theorem callB_in {r : List V → Hp → VK → Prop} {f : List AV → List AV → Option AV} {Q : VK} (ho : OpA K r f) (h : rdE K Γ W (eB f ma) σ H Q) : rdA K Γ W ma σ H fun vs H1 => r vs H1 Q := by
  obtain ⟨st, p, R, h⟩ := h
  refine ⟨st, p, R, ?_⟩
  unfold eB at h
  cases ea : ma st with
  | bad => rw [ea] at h; exact h
  | err c s1 => rw [ea] at h; exact h
  | ok xs s1 =>
    rw [ea] at h
    simp only [Res.bind_ok] at h
    intro vs H1 hl R1
    obtain ⟨m, ar, am, ao, ab, R2, r1⟩ := Rel.args (p := p.nob) hl R1
    cases ef : f s1.s xs with
    | none => simp only [ef, ofO_none] at h
    | some d =>
      simp only [ef, ofO_some] at h
      exact ho Γ σ H1 s1 _ m ar am ao ab vs xs _ d Q R2 r1 ef h
theorem callBP_in {r : List V → Hp → VK → Prop} {f : List AV → List AV → Option AV} {Q : VK} (ho : OpA K r f) (h : rdE K Γ W (eBP f mp) σ H Q) : rdAP K Γ mp σ H fun vs H1 => r vs H1 Q := by
  obtain ⟨st, p, R, h⟩ := h
  unfold eBP at h
  cases ea : mp st with
  | none => simp only [ea] at h
  | some xs =>
    simp only [ea] at h
    cases ef : f st.s xs with
    | none => simp only [ef, ofO_none] at h
    | some d =>
      simp only [ef, ofO_some] at h
      refine ⟨st, p, xs, R, ea, fun vs hl R1 => ?_⟩
      obtain ⟨m, ar, am, ao, ab, R1⟩ := R1
      obtain ⟨a1, a2, _, r1, r2⟩ := Rp.app_inv hl R1.rb
      exact ho Γ σ H st p m ar am ao a2 vs xs _ d Q (R1.setB (p := { p with bv := vs ++ p.bv, bx := xs ++ p.bx }) r2) r1 ef h
theorem callOP_in {r : List V → Hp → VK → Prop} {f : List AV → List AV → Option (List AV)} {Q : VK} (ho : OpL K r f) (h : rdO K Γ W (eBP (fL true f) mp) σ H Q) : rdAP K Γ mp σ H fun vs H1 => r vs H1 Q := by
  obtain ⟨st, p, R, h⟩ := h
  unfold eBP at h
  cases ea : mp st with
  | none => simp only [ea] at h
  | some xs =>
    simp only [ea, fL] at h
    cases ef : f st.s xs with
    | none => simp only [ef, Option.map_none, ofO_none] at h
    | some ys =>
      simp only [ef, Option.map_some, ofO_some] at h
      refine ⟨st, p, xs, R, ea, fun vs hl R1 => ?_⟩
      obtain ⟨m, ar, am, ao, ab, R1⟩ := R1
      obtain ⟨a1, a2, _, r1, r2⟩ := Rp.app_inv hl R1.rb
      have R2 := R1.setB (p := { p with bv := vs ++ p.bv, bx := xs ++ p.bx }) r2
      exact ho Γ σ H st p m ar am ao a2 vs xs _ ys Q R2 r1 ef fun a us ha ru => h _ _ ((R2.freshL ha ru true).2 rfl)
/-! calls by name -/
variable {id : String} {x : Str} {r : List V → Hp → VK → Prop} {f : List AV → List AV → Option AV} {fl : List AV → List AV → Option (List AV)} {T : String}
theorem s_cb (hc : CallR X (.builtin id) r) (ho : OpA X.K r f) (hg : Gl X x) (hm : X.mg x = none) (hv : bootBuiltins x = some (.builtin id)) (ha : PA X (e :: es) (rdA X.K Γ W ma)) (hn : x ≠ "__name__" := by decide) (hdb : (x == ("__debug__" : Str)) = false := by decide)
    (he : starEach (e :: es) X.env = (false, eval e X.env) :: starEach es X.env := by rfl) (hpl : (backTo pos (starEach es X.env)).any (·.1) = false := by rfl) : PE X (.Call (.Name x q) (e :: es) [] pos) (rdE X.K Γ W (eB f ma)) :=
  pe_imp (pe_callB hc hg hm hv ha hn hdb he hpl) fun σ H Q h => callB_in ho h
theorem s_cbP (hc : CallR X (.builtin id) r) (ho : OpA X.K r f) (hg : Gl X x) (hm : X.mg x = none) (hv : bootBuiltins x = some (.builtin id)) (ha : PA X (e :: es) (rdAP X.K Γ mp)) (hn : x ≠ "__name__" := by decide) (hdb : (x == ("__debug__" : Str)) = false := by decide)
    (he : starEach (e :: es) X.env = (false, eval e X.env) :: starEach es X.env := by rfl) (hpl : (backTo pos (starEach es X.env)).any (·.1) = false := by rfl) : PE X (.Call (.Name x q) (e :: es) [] pos) (rdE X.K Γ W (eBP f mp)) :=
  pe_imp (pe_callB hc hg hm hv ha hn hdb he hpl) fun σ H Q h => callBP_in ho h
theorem s_ct (hc : CallR X (.type T) r) (ho : OpA X.K r f) (hg : Gl X x) (hm : X.mg x = none) (hv : bootBuiltins x = some (.type T)) (ha : PA X (e :: es) (rdA X.K Γ W ma)) (hn : x ≠ "__name__" := by decide) (hdb : (x == ("__debug__" : Str)) = false := by decide)
    (he : starEach (e :: es) X.env = (false, eval e X.env) :: starEach es X.env := by rfl) (hpl : (backTo pos (starEach es X.env)).any (·.1) = false := by rfl) : PE X (.Call (.Name x q) (e :: es) [] pos) (rdE X.K Γ W (eB f ma)) :=
  pe_imp (pe_callTy hc hg hm hv ha hn hdb he hpl) fun σ H Q h => callB_in ho h
theorem s_ctP (hc : CallR X (.type T) r) (ho : OpA X.K r f) (hg : Gl X x) (hm : X.mg x = none) (hv : bootBuiltins x = some (.type T)) (ha : PA X (e :: es) (rdAP X.K Γ mp)) (hn : x ≠ "__name__" := by decide) (hdb : (x == ("__debug__" : Str)) = false := by decide)
    (he : starEach (e :: es) X.env = (false, eval e X.env) :: starEach es X.env := by rfl) (hpl : (backTo pos (starEach es X.env)).any (·.1) = false := by rfl) : PE X (.Call (.Name x q) (e :: es) [] pos) (rdE X.K Γ W (eBP f mp)) :=
  pe_imp (pe_callTy hc hg hm hv ha hn hdb he hpl) fun σ H Q h => callBP_in ho h
theorem s_ctOP (hc : CallR X (.type T) r) (ho : OpL X.K r fl) (hg : Gl X x) (hm : X.mg x = none) (hv : bootBuiltins x = some (.type T)) (ha : PA X (e :: es) (rdAP X.K Γ mp)) (hn : x ≠ "__name__" := by decide) (hdb : (x == ("__debug__" : Str)) = false := by decide)
    (he : starEach (e :: es) X.env = (false, eval e X.env) :: starEach es X.env := by rfl) (hpl : (backTo pos (starEach es X.env)).any (·.1) = false := by rfl) : PE X (.Call (.Name x q) (e :: es) [] pos) (rdO X.K Γ W (eBP (fL true fl) mp)) :=
  pe_imp (pe_callTy hc hg hm hv ha hn hdb he hpl) fun σ H Q h => callOP_in ho h
/-! looked at alone -/
theorem Rel.lkC {v : V} {d : AV} (R : Rel K Γ σ H st p) (h : ∀ W m, Rp K H W m [v] [d] []) : Rel K Γ σ H st (p.lk v d) := by
  obtain ⟨m, ar, am, ao, ab, R⟩ := R
  exact ⟨m, ar, am, ao, ab, R.setB ((h _ _).cons0 R.rb)⟩
theorem q_var {i : Nat} (hN : X.N[i]? = some x) (hv : Vis X.env.scope x) (hd : (x == ("__debug__" : Str)) = false := by decide) (hcd : (x == ("__classdict__" : Str)) = false := by decide) : PE X (.Name x pos) (rdP X.K Γ (pVar i)) := by
  refine pe_imp (pe_var hN hv hd hcd) fun σ H Q h => ?_
  obtain ⟨st, p, d, R, e, h⟩ := h
  obtain ⟨m, ar, am, ao, ab, R⟩ := R
  unfold pVar at e
  cases eg : getSl st.r i with
  | no => rw [eg] at e; cases e
  | im d' =>
    rw [eg] at e
    cases e
    obtain ⟨v, ev, rv⟩ := R.rs.getIm eg
    exact ⟨v, ev, h v ⟨m, ar, am, ao, ab, R.setB (rv.cons0 R.rb)⟩⟩
  | ow d' =>
    rw [eg] at e
    cases e
    obtain ⟨v, a1, b, a2, ev, _, rv, _⟩ := R.rs.getOw eg
    exact ⟨v, ev, h v ⟨m, ar, am, ao, b ++ ab, R.setB (rv.cons R.rb)⟩⟩
theorem q_int {i : Int} {j : Nat} : PE X (.Constant (.int i) j pos) (rdP X.K Γ (pC (.int i))) := by
  refine pe_imp pe_int fun σ H Q h => ?_
  obtain ⟨st, p, d, R, e, h⟩ := h
  cases e
  exact h _ (R.lkC fun _ _ => .int .nil)
theorem q_str {i : Str} {j : Nat} : PE X (.Constant (.str i) j pos) (rdP X.K Γ (pC (.str i))) := by
  refine pe_imp pe_str fun σ H Q h => ?_
  obtain ⟨st, p, d, R, e, h⟩ := h
  cases e
  exact h _ (R.lkC fun _ _ => .str .nil)
theorem imm_nil {v : V} {d : AV} {W m as : List Addr} (r : Rp K H W m [v] [d] as) (h : imm d = true) : as = [] := by
  cases r with
  | ded r => exact r.nil_inv.2
  | non r => exact r.nil_inv.2
  | bl r => exact r.nil_inv.2
  | int r => exact r.nil_inv.2
  | str r => exact r.nil_inv.2
  | tup _ _ r => exact r.nil_inv.2
  | lsI _ _ _ r => exact r.nil_inv.2
  | lsO _ _ r => cases h
  | dcI _ _ _ _ r => exact r.nil_inv.2
  | dcO _ _ _ r => cases h
  | scr _ _ r => exact r.nil_inv.2
  | nst _ _ r => cases h
  | ndc _ _ _ r => cases h
  | ins _ _ _ r => cases h
  | set _ _ _ => cases h
  | tud _ _ _ r => exact r.nil_inv.2
  | loc _ r => exact r.nil_inv.2
theorem s_ofP {m : Ss → Option AV} (h : PE X e (rdP X.K Γ m)) : PE X e (rdE X.K Γ W (eP m)) := by
  refine pe_imp h fun σ H Q h => ?_
  obtain ⟨st, p, R, h⟩ := h
  unfold eP at h
  cases em : m st with
  | none => simp only [em] at h
  | some d =>
    simp only [em] at h
    refine ⟨st, p, d, R, em, fun v R1 => ?_⟩
    cases ei : imm d with
    | false => simp only [ei, cond_false] at h
    | true =>
      simp only [ei, cond_true] at h
      obtain ⟨m, ar, am, ao, ab, R1⟩ := R1
      obtain ⟨a1, a2, _, r1, r2⟩ := R1.rb.head
      rw [imm_nil r1 ei] at r1
      exact h v H ⟨m, ar, am, ao, [], (R1.setB (p := p.lk v d) .nil).setI (r1.cons0 R1.ri)⟩
theorem q_nil : PA X [] (rdAP X.K Γ pNil) := by
  refine pa_imp pa_nil fun σ H Q h => ?_
  obtain ⟨st, p, ds, R, e, h⟩ := h
  cases e
  exact h [] rfl R
theorem q_cons {m : Ss → Option AV} {mr : Ss → Option (List AV)} (ha : PE X e (rdP X.K Γ m)) (hr : PA X es (rdAP X.K Γ mr)) (hs : starEach (e :: es) X.env = (false, eval e X.env) :: starEach es X.env := by rfl) : PA X (e :: es) (rdAP X.K Γ (pCons m mr)) := by
  refine pa_imp (pa_cons ha hr hs) fun σ H Q h => ?_
  obtain ⟨st, p, ds, R, e, h⟩ := h
  unfold pCons at e
  cases em : m st with
  | none => rw [em] at e; cases e
  | some d =>
    rw [em] at e
    obtain ⟨xs, er, rfl⟩ := Option.map_eq_some_iff.mp e
    refine ⟨st, p, d, R, em, fun v R1 => ⟨st, _, xs, R1, er, fun vs hl R2 => h (v :: vs) (by simp [hl]) ?_⟩⟩
    obtain ⟨m, ar, am, ao, ab, R2⟩ := R2
    obtain ⟨a1, a2, _, r1, r2⟩ := Rp.app_inv hl R2.rb
    obtain ⟨b1, b2, _, r3, r4⟩ := r2.head
    exact ⟨m, ar, am, ao, _, R2.setB (p := { p.lk v d with bv := vs ++ v :: p.bv, bx := xs ++ d :: p.bx }) (r3.cons (r1.app r4))⟩
/-- two that are looked at, an operator -/
theorem p2_in {r : R2} {f : AV → AV → Option AV} {a b : Ss → Option AV} {Q : VK} (ho : Op2 K r f) (h : rdE K Γ W (fun st => match p2 f a b st with | some d => .ok d st | none => .bad) σ H Q) : tOp r (rdP K Γ a) (rdP K Γ b) σ H Q := by
  obtain ⟨st, p, R, h⟩ := h
  unfold p2 at h
  cases ea : a st with
  | none => simp only [ea, Option.bind_none] at h
  | some x =>
    cases eb : b st with
    | none => simp only [ea, eb, Option.bind_some, Option.bind_none] at h
    | some y =>
      simp only [ea, eb, Option.bind_some] at h
      cases ef : f x y with
      | none => simp only [ef] at h
      | some d =>
        simp only [ef] at h
        refine ⟨st, p, x, R, ea, fun v1 R1 => ⟨st, _, y, R1, eb, fun v2 R2 => ?_⟩⟩
        obtain ⟨m, ar, am, ao, ab, R2⟩ := R2
        obtain ⟨c1, c2, _, r1, r2⟩ := R2.rb.head
        obtain ⟨c3, c4, _, r3, r4⟩ := r2.head
        exact ho Γ σ H st p m ar am ao _ v1 v2 x y d _ _ Q (R2.setB (p := (p.lk v1 x).lk v2 y) r4) r3 r1 ef h
def e2P (f : AV → AV → Option AV) (a b : Ss → Option AV) : M AV := fun st => match p2 f a b st with
  | some d => .ok d st
  | none => .bad
theorem s_tcmpP {a b : Expr} {op : CmpOp} {r : R2} {f : AV → AV → Option AV} {ma mb : Ss → Option AV} (hr : OpR X (compareOp op) r) (ho : Op2 X.K r f) (ha : PE X a (rdP X.K Γ ma)) (hb : PE X b (rdP X.K Γ mb)) (hm : behindInMarks op b = false) : PT X (.Compare a [op] [b] pos) (rdT X.K Γ W (tOf (e2P f ma mb))) := by
  refine pt_imp (pt_cmpR hr ha hb hm) fun σ H Q h => ?_
  obtain ⟨st, p, R, h⟩ := tOf_in h
  exact p2_in ho ⟨st, p, R, h⟩
end
end Fk
/-! ## what the built-ins are worth -/
namespace Fk
open PySem PySem.Spec PyProof.Rows L2
theorem CallR.or {X : Cx} {f : Value} {r r' : List V → Hp → VK → Prop} (h : CallR X f r) (h' : CallR X f r') : CallR X f (fun xs H Q => r xs H Q ∨ r' xs H Q) := by
  intro pins s σ H xs us Q I rv q
  rcases q with q | q
  · exact h pins s σ H xs us Q I rv q
  · exact h' pins s σ H xs us Q I rv q
/-- an object looked up -/
def deref (S : List AV) : AV → Option AV
  | .loc l => S[l]?
  | x => some x
def lenA : AV → Option Nat
  | .lst _ xs => some xs.length
  | .tup xs => some xs.length
  | .scr xs => some xs.length
  | .nst xs => some xs.length
  | .str z => if z.length ≤ 16777216 then some z.length else none
  | .dct _ ks _ => some ks.length
  | .ndc ks _ => some ks.length
  | _ => none
def fLen (S : List AV) : List AV → Option AV
  | [x] => ((deref S x).bind lenA).map fun n => .int (n : Nat)
  | _ => none
def fMax2 (_ : List AV) : List AV → Option AV
  | [.int i, .int j] => some (.int (if j > i then j else i))
  | _ => none
def fMin2 (_ : List AV) : List AV → Option AV
  | [.int i, .int j] => some (.int (if j < i then j else i))
  | _ => none
def asBs : List AV → Option (List Bool)
  | [] => some []
  | .bl b :: xs => (asBs xs).map (b :: ·)
  | _ :: _ => none
def lsOf : AV → Option (List AV)
  | .lst _ xs => some xs
  | _ => none
def fAll (_ : List AV) : List AV → Option AV
  | [x] => ((lsOf x).bind asBs).map fun bs => .bl (bs.all id)
  | _ => none
def fTup (S : List AV) : List AV → Option AV
  | [.lst _ xs] => some (.tup xs)
  | [.tup xs] => some (.tup xs)
  | [.loc l] => (match S[l]? with
    | some (.lst _ xs) => some (.tup xs)
    | _ => none)
  | _ => none
def fList (_ : List AV) : List AV → Option (List AV)
  | [.lst _ xs] => some xs
  | [.tup xs] => some xs
  | [.scr xs] => some xs
  | _ => none
def isT (n : String) : AV → Bool
  | .bl _ => n == "bool" || n == "int"
  | .int _ => n == "int"
  | .str _ => n == "str"
  | .tup _ => n == "tuple"
  | .lst _ _ => n == "list"
  | .dct _ _ _ => n == "dict"
  | _ => false
def okT : AV → Bool
  | .non => true
  | .bl _ => true
  | .int _ => true
  | .str _ => true
  | .tup _ => true
  | .lst _ _ => true
  | .dct _ _ _ => true
  | _ => false
def eIsi (n : String) (m : M AV) : M AV := fun st => (m st).bind fun x s1 => bif okT x then .ok (.bl (isT n x)) s1 else .bad
section
variable {K : PySem.W.Frag} {H : Hp} {W m as : List Addr} {v : V} {vs : List V} {xs : List AV} {x : AV} {Γ : Gam} {σ : L2.St} {st : Ss} {p : Pd} {ar am ao ab : List Addr}
theorem Rp.one (r : Rp K H W m vs [x] as) : ∃ v, vs = [v] ∧ Rp K H W m [v] [x] as := by
  cases vs with
  | nil => cases r.nil_inv'.1
  | cons v vs =>
    obtain ⟨a1, a2, e, r1, r2⟩ := r.head
    obtain ⟨rfl, rfl⟩ := r2.nil_inv
    rw [List.append_nil] at e
    subst e
    exact ⟨v, rfl, r1⟩
theorem Rp.twoL {y : AV} (r : Rp K H W m vs [x, y] as) : ∃ v w' a1 a2, vs = [v, w'] ∧ Rp K H W m [v] [x] a1 ∧ Rp K H W m [w'] [y] a2 := by
  cases vs with
  | nil => cases r.nil_inv'.1
  | cons v vs =>
    obtain ⟨a1, a2, e, r1, r2⟩ := r.head
    obtain ⟨w', rfl, r3⟩ := r2.one
    exact ⟨v, w', a1, a2, rfl, r1, r3⟩
theorem Rl.deref (R : Rl K Γ σ H st p m ar am ao ab) {z : AV} (r : Rp K H (wOf Γ ar am ao) m [v] [x] as) (e : Fk.deref st.s x = some z) : ∃ as', Rp K H (wOf Γ ar am ao) m [v] [z] as' := by
  cases x with
  | loc l =>
    obtain ⟨a, rfl, hm⟩ := r.loc_i
    obtain ⟨v', a1, b, a2, e1, e2, _, r2, _⟩ := R.rm.at_ e
    rw [List.getElem?_map, hm] at e1
    cases e1
    exact ⟨b, r2⟩
  | _ =>
    cases e
    exact ⟨as, r⟩
/-- what stands behind a list's, a tuple's .. value -/
theorem Rp.sq {n : Nat} (r : Rp K H W m [v] [x] as) (e : lenA x = some n) : LenV K v H n ∨ ∃ a kvs, v = .ref a ∧ H a = some (.dK kvs) ∧ n = kvs.length := by
  cases r with
  | @str z _ _ _ _ =>
    have e2 : (if z.length ≤ 16777216 then some z.length else none) = some n := e
    by_cases c : z.length ≤ 16777216
    · rw [if_pos c] at e2
      cases e2
      exact .inl ⟨by rw [mx_eq]; exact c, rfl⟩
    · rw [if_neg c] at e2
      cases e2
  | tup h q _ => cases e; exact .inl (.inr ⟨_, h, q.len.symm⟩)
  | lsI h _ q _ => cases e; exact .inl (.inl ⟨_, SqL.of h, q.len.symm⟩)
  | lsO h q _ => cases e; exact .inl (.inl ⟨_, SqL.of h, q.len.symm⟩)
  | nst h q _ => cases e; exact .inl (.inl ⟨_, SqL.of h, q.len.symm⟩)
  | scr h q _ => cases e; exact .inl (.inl ⟨_, h.sq, q.len.symm⟩)
  | dcI h _ ek q _ => cases e; exact .inr ⟨_, _, rfl, h, by rw [← ek]; simp⟩
  | dcO h ek q _ => cases e; exact .inr ⟨_, _, rfl, h, by rw [← ek]; simp⟩
  | ndc h ek q _ => cases e; exact .inr ⟨_, _, rfl, h, by rw [← ek]; simp⟩
  | _ => cases e
def uLen (K : PySem.W.Frag) : List V → Hp → VK → Prop := fun xs H Q => (∃ x n, xs = [x] ∧ LenV K x H n ∧ Q (.int n) H) ∨ ∃ d kvs, xs = [.ref d] ∧ H d = some (.dK kvs) ∧ Q (.int kvs.length) H
theorem o_len : OpA K (uLen K) fLen := by
  intro Γ σ H st p m ar am ao ab vs xs as d Q R r e h
  unfold fLen at e
  split at e
  · obtain ⟨v, rfl, r1⟩ := r.one
    obtain ⟨n, en, rfl⟩ := Option.map_eq_some_iff.mp e
    obtain ⟨z, ez, el⟩ := Option.bind_eq_some_iff.mp en
    obtain ⟨as', r2⟩ := R.deref r1 ez
    rcases r2.sq el with q | ⟨a, kvs, rfl, q1, rfl⟩
    · exact .inl ⟨v, n, rfl, q, h _ _ (R.nob.rel.int _)⟩
    · exact .inr ⟨a, kvs, rfl, q1, h _ _ (R.nob.rel.int _)⟩
  · cases e
theorem o_max2 : OpA K uMax2 fMax2 := by
  intro Γ σ H st p m ar am ao ab vs xs as d Q R r e h
  unfold fMax2 at e
  split at e
  · cases e
    obtain ⟨v, w', a1, a2, rfl, r1, r2⟩ := r.twoL
    obtain rfl := r1.int_i
    obtain rfl := r2.int_i
    exact ⟨_, _, rfl, h _ _ (R.nob.rel.int _)⟩
  · cases e
theorem o_min2 : OpA K uMin2 fMin2 := by
  intro Γ σ H st p m ar am ao ab vs xs as d Q R r e h
  unfold fMin2 at e
  split at e
  · cases e
    obtain ⟨v, w', a1, a2, rfl, r1, r2⟩ := r.twoL
    obtain rfl := r1.int_i
    obtain rfl := r2.int_i
    exact ⟨_, _, rfl, h _ _ (R.nob.rel.int _)⟩
  · cases e
theorem asBs_v : ∀ {xs : List AV} {bs : List Bool} {us : List V} {as : List Addr}, Rp K H W m us xs as → asBs xs = some bs → us = bs.map V.bl
  | [], bs, us, as, r, e => by cases e; exact r.nil_inv.1
  | x :: xs, bs, us, as, r, e => by
    cases x with
    | bl b =>
      obtain ⟨cs, ec, rfl⟩ := Option.map_eq_some_iff.mp (show (asBs xs).map (b :: ·) = some bs from e)
      cases us with
      | nil => cases r.nil_inv'.1
      | cons u us =>
        obtain ⟨a1, a2, _, r1, r2⟩ := r.head
        rw [r1.bl_i, asBs_v r2 ec]
        rfl
    | _ => cases e
theorem lsOf_v {ys : List AV} (r : Rp K H W m [v] [x] as) (e : lsOf x = some ys) : ∃ a us, v = .ref a ∧ H a = some (.lst us) ∧ Rp K H W m us ys [] := by
  cases x with
  | lst o xs => cases e; exact r.lst_i
  | _ => cases e
theorem o_all : OpA K (rAll K) fAll := by
  intro Γ σ H st p m ar am ao ab vs xs as d Q R r e h
  unfold fAll at e
  split at e
  · obtain ⟨v, rfl, r1⟩ := r.one
    obtain ⟨bs, en, rfl⟩ := Option.map_eq_some_iff.mp e
    obtain ⟨z, ez, el⟩ := Option.bind_eq_some_iff.mp en
    obtain ⟨a, us, rfl, hs, q⟩ := lsOf_v r1 ez
    have eu := asBs_v q el
    subst eu
    exact ⟨a, bs, rfl, SqL.of hs, h _ _ (R.nob.rel.bl _)⟩
  · cases e
theorem o_tuple : OpA K (uTuple K) fTup := by
  intro Γ σ H st p m ar am ao ab vs xs as d Q R r e h
  unfold fTup at e
  split at e
  · cases e
    obtain ⟨v, rfl, r1⟩ := r.one
    obtain ⟨a, us, rfl, hs, q⟩ := r1.lst_i
    exact ⟨a, us, rfl, .inl ⟨SqL.of hs, fun l hl => h _ _ (R.nob.tup hl q).rel⟩⟩
  · cases e
    obtain ⟨v, rfl, r1⟩ := r.one
    obtain ⟨a, us, rfl, hs, q⟩ := r1.tup_i
    exact ⟨a, us, rfl, .inr ⟨hs, h _ _ (R.nob.sh (.tup hs q .nil))⟩⟩
  · rename_i l
    obtain ⟨v, rfl, r1⟩ := r.one
    split at e
    · rename_i o ys ez
      cases e
      obtain ⟨as', r2⟩ := R.deref r1 (z := .lst o ys) ez
      obtain ⟨a, us, rfl, hs, q⟩ := r2.lst_i
      exact ⟨a, us, rfl, .inl ⟨SqL.of hs, fun l hl => h _ _ (R.nob.tup hl q).rel⟩⟩
    · cases e
  · cases e
theorem o_list : OpL K (uList K) fList := by
  intro Γ σ H st p m ar am ao ab vs xs as ys Q R r e h
  unfold fList at e
  split at e
  · cases e
    obtain ⟨v, rfl, r1⟩ := r.one
    obtain ⟨a, us, rfl, hs, q⟩ := r1.lst_i
    exact ⟨a, us, rfl, .inl (SqL.of hs), fun l hl => h l us hl q⟩
  · cases e
    obtain ⟨v, rfl, r1⟩ := r.one
    obtain ⟨a, us, rfl, hs, q⟩ := r1.tup_i
    exact ⟨a, us, rfl, .inr hs, fun l hl => h l us hl q⟩
  · cases e
    obtain ⟨v, rfl, r1⟩ := r.one
    obtain ⟨a, us, rfl, hs, q⟩ := r1.scr_i
    exact ⟨a, us, rfl, .inl hs.sq, fun l hl => h l us hl q⟩
  · cases e
end
/-! ### isinstance -/
section
variable {X : Cx} {Γ : Gam} {W : WX} {σ : L2.St} {H : Hp} {st : Ss} {p : Pd} {K : PySem.W.Frag} {pos q : Pos}
def tyA : AV → String
  | .non => "NoneType"
  | .bl _ => "bool"
  | .int _ => "int"
  | .str _ => "str"
  | .tup _ => "tuple"
  | .dct _ _ _ => "dict"
  | _ => "list"
theorem tyX_of {W m as : List Addr} {v : V} {x : AV} (r : Rp K H W m [v] [x] as) (h : okT x = true) : TyX K H v (.type (tyA x)) := by
  cases r with
  | non _ => exact .base .non
  | bl _ => exact .base (.bl _)
  | int _ => exact .base (.int _)
  | str _ => exact .base (.str _)
  | tup hs _ _ =>
    rcases hs with (hs | ⟨o, hs⟩) | ⟨o, _, _, hk, hc, _⟩
    · exact .base (.tup hs)
    · exact .fTuple hs
    · exact .kTuple hk hc
  | lsI hs _ _ _ => exact .base (.lst hs)
  | lsO hs _ _ => exact .base (.lst hs)
  | dcI hs _ _ _ _ => exact .base (.dK hs)
  | dcO hs _ _ _ => exact .base (.dK hs)
  | _ => cases h
theorem kit_A {n : String} (hn : n = "int" ∨ n = "bool" ∨ n = "str" ∨ n = "tuple" ∨ n = "list" ∨ n = "dict") {x : AV} (h : okT x = true) : kitB (tyA x) n = some (isT n x) := by
  cases x with
  | non => rcases hn with rfl | rfl | rfl | rfl | rfl | rfl <;> (simp only [tyA, isT]; decide +kernel)
  | bl _ => rcases hn with rfl | rfl | rfl | rfl | rfl | rfl <;> (simp only [tyA, isT]; decide +kernel)
  | int _ => rcases hn with rfl | rfl | rfl | rfl | rfl | rfl <;> (simp only [tyA, isT]; decide +kernel)
  | str _ => rcases hn with rfl | rfl | rfl | rfl | rfl | rfl <;> (simp only [tyA, isT]; decide +kernel)
  | tup _ => rcases hn with rfl | rfl | rfl | rfl | rfl | rfl <;> (simp only [tyA, isT]; decide +kernel)
  | lst _ _ => rcases hn with rfl | rfl | rfl | rfl | rfl | rfl <;> (simp only [tyA, isT]; decide +kernel)
  | dct _ _ _ => rcases hn with rfl | rfl | rfl | rfl | rfl | rfl <;> (simp only [tyA, isT]; decide +kernel)
  | _ => cases h
/-- isinstance(e, T), T a built-in type -/
theorem s_isi {e : Expr} {n : String} {y : Str} {m : M AV} {q2 : Pos} (hn : n = "int" ∨ n = "bool" ∨ n = "str" ∨ n = "tuple" ∨ n = "list" ∨ n = "dict") (hg : Gl X "isinstance") (hm : X.mg "isinstance" = none) (hgt : Gl X y) (hmt : X.mg y = none) (hvt : bootBuiltins y = some (.type n)) (he : PE X e (rdE X.K Γ W m))
    (hny : y ≠ "__name__" := by decide) (hdy : (y == ("__debug__" : Str)) = false := by decide)
    (hs : starEach [e, .Name y q2] X.env = (false, eval e X.env) :: starEach [.Name y q2] X.env := by rfl) (hs2 : starEach [.Name y q2] X.env = (false, eval (.Name y q2) X.env) :: starEach [] X.env := by rfl) (hpl : (backTo pos (starEach [.Name y q2] X.env)).any (·.1) = false := by rfl) :
    PE X (.Call (.Name "isinstance" q) [e, .Name y q2] [] pos) (rdE X.K Γ W (eIsi n m)) := by
  refine pe_imp (pe_callB call_isi hg hm (by decide +kernel) (pa_cons he (pa_cons (pe_bltn (v := .ty n) hgt hmt hvt rfl hny hdy) pa_nil hs2) hs) (by decide) (by decide) hs hpl) fun σ H Q h => ?_
  obtain ⟨st, p, R, h⟩ := h
  refine ⟨st, p, R, ?_⟩
  unfold eIsi at h
  cases ea : m st with
  | bad => rw [ea] at h; exact h
  | err c s1 => rw [ea] at h; exact h
  | ok x s1 =>
    rw [ea] at h
    simp only [Res.bind_ok] at h
    intro v H1 R1
    cases eo : okT x with
    | false => simp only [eo, cond_false] at h
    | true =>
      simp only [eo, cond_true] at h
      obtain ⟨mm, ar, am, ao, ab, R2, r⟩ := R1.one
      exact ⟨v, .ty n, .type (tyA x), .type n, isT n x, rfl, .ty n, tyX_of r eo, kit_ty (kit_A hn eo), h _ _ (R2.rel.bl _)⟩
end
end Fk
/-! ## subscripts, slices, globals, zip and enumerate -/
namespace Fk
open PySem PySem.Spec PyProof.Rows L2
def getK : List Key → List AV → Key → Option AV
  | k' :: ks, x :: xs, k => if k' = k then some x else getK ks xs k
  | _, _, _ => none
def keyA : AV → Option Key
  | .int i => some (.inl i)
  | .str x => some (.inr x)
  | _ => none
def seqA : AV → Option (List AV)
  | .lst _ xs => some xs
  | .tup xs => some xs
  | .scr xs => some xs
  | .nst xs => some xs
  | _ => none
def dicA : AV → Option (List Key × List AV)
  | .dct _ ks xs => some (ks, xs)
  | .ndc ks xs => some (ks, xs)
  | _ => none
/-- an item -/
def itA (x y : AV) : Option AV := match seqA x with
  | some xs => (match y with
    | .int i => atI xs i
    | _ => none)
  | none => match dicA x with
    | some (ks, xs) => (keyA y).bind fun k => getK ks xs k
    | none => match x, y with
      | .str z, .int i => if z.length ≤ 16777216 then (atI z.cps.toList i).map fun c => .str ⟨#[c]⟩ else none
      | _, _ => none
def ixA (S : List AV) (x y : AV) : Option AV := (deref S x).bind fun z => itA z y
def eIx (a b : M AV) : M AV := fun st => (a st).bind fun x s1 => (b s1).bind fun y s2 => match ixA s2.s x y with
  | some d => bif imm d then .ok d s2 else .bad
  | none => .bad
def pIx (a b : Ss → Option AV) : Ss → Option AV := fun st => (a st).bind fun x => (b st).bind fun y => ixA st.s x y
def rDG : R2 := fun x y H Q => ∃ a v, x = .ref a ∧ DGet H a y (some v) ∧ Q v H
section
variable {K : PySem.W.Frag} {H : Hp} {W m as a1 a2 : List Addr} {v v1 v2 : V} {x y d : AV} {Γ : Gam} {σ : L2.St} {st : Ss} {p : Pd} {ar am ao ab : List Addr}
theorem getK_v : ∀ {kvs : List (Key × V)} {ys : List AV} {as : List Addr} {k : Key}, Rp K H W m (kvs.map (·.2)) ys as → getK (kvs.map (·.1)) ys k = some d → ∃ v b, valV kvs k = some v ∧ Rp K H W m [v] [d] b
  | [], ys, as, k, r, e => by cases ys <;> cases e
  | (k', v) :: kvs, [], as, k, r, e => by cases e
  | (k', v) :: kvs, z :: ys, as, k, r, e => by
    obtain ⟨b1, b2, _, r1, r2⟩ := Rp.head (show Rp K H W m (v :: kvs.map (·.2)) (z :: ys) as from r)
    have e2 : (if k' = k then some z else getK (kvs.map (·.1)) ys k) = some d := e
    by_cases c : k' = k
    · rw [if_pos c] at e2
      cases e2
      exact ⟨v, b1, valV_pos (p := (k', v)) c, r1⟩
    · rw [if_neg c] at e2
      obtain ⟨v2, b, h1, h2⟩ := getK_v r2 e2
      exact ⟨v2, b, (valV_neg (p := (k', v)) c).trans h1, h2⟩
theorem keyA_v {k : Key} (r : Rp K H W m [v] [y] as) (e : keyA y = some k) : v = kV k := by
  cases y with
  | int i => cases e; exact r.int_i
  | str i => cases e; exact r.str_i
  | _ => cases e
theorem seqA_v {zs : List AV} (r : Rp K H W m [v] [x] as) (e : seqA x = some zs) : ∃ a us b, v = .ref a ∧ (SqL K H a us ∨ SqT K H a us) ∧ Rp K H W m us zs b := by
  cases r with
  | tup h q _ => cases e; exact ⟨_, _, _, rfl, .inr h, q⟩
  | lsI h _ q _ => cases e; exact ⟨_, _, _, rfl, .inl (SqL.of h), q⟩
  | lsO h q _ => cases e; exact ⟨_, _, _, rfl, .inl (SqL.of h), q⟩
  | nst h q _ => cases e; exact ⟨_, _, _, rfl, .inl (SqL.of h), q⟩
  | scr h q _ => cases e; exact ⟨_, _, _, rfl, .inl h.sq, q⟩
  | _ => cases e
theorem dicA_v {ks : List Key} {zs : List AV} (r : Rp K H W m [v] [x] as) (e : dicA x = some (ks, zs)) : ∃ a kvs b, v = .ref a ∧ H a = some (.dK kvs) ∧ kvs.map (·.1) = ks ∧ Rp K H W m (kvs.map (·.2)) zs b := by
  cases r with
  | dcI h _ ek q _ => cases e; exact ⟨_, _, _, rfl, h, ek, q⟩
  | dcO h ek q _ => cases e; exact ⟨_, _, _, rfl, h, ek, q⟩
  | ndc h ek q _ => cases e; exact ⟨_, _, _, rfl, h, ek, q⟩
  | _ => cases e
theorem atI_len {α β : Type} {xs : List α} {ys : List β} {i : Int} {x : α} (hl : xs.length = ys.length) (e : atI xs i = some x) : ∃ j y, ixN ys.length i = some j ∧ xs[j]? = some x ∧ ys[j]? = some y := by
  unfold atI at e
  obtain ⟨j, ej, ex⟩ := Option.bind_eq_some_iff.mp e
  have hj : j < xs.length := (List.getElem?_eq_some_iff.mp ex).1
  rw [hl] at ej
  exact ⟨j, ys[j]'(by omega), ej, ex, by simp⟩
/-- an item, by values -/
theorem it_sem (r1 : Rp K H W m [v1] [x] a1) (r2 : Rp K H W m [v2] [y] a2) (e : itA x y = some d) : ∃ v b, Rp K H W m [v] [d] b ∧ (dicA x = none → ∀ Q : VK, Q v H → rIx K v1 v2 H Q) ∧ (dicA x ≠ none → ∀ Q : VK, Q v H → rDG v1 v2 H Q) := by
  unfold itA at e
  cases es : seqA x with
  | some zs =>
    rw [es] at e
    obtain ⟨a, us, b, rfl, hs, q⟩ := seqA_v r1 es
    cases y with
    | int i =>
      obtain rfl := r2.int_i
      obtain ⟨j, u, ej, ez, eu⟩ := atI_len q.len.symm e
      obtain ⟨v', c1, c, c2, ev, _, _, rv, _⟩ := q.at_ ez
      rw [eu] at ev
      cases ev
      have hat : atI us i = some u := by
        unfold atI
        rw [ej]
        exact eu
      refine ⟨u, c, rv, fun _ Q hQ => ?_, fun z => absurd (by cases x <;> first | rfl | cases es) z⟩
      rcases hs with hs | hs
      · exact .inl ⟨a, us, i, u, rfl, rfl, hs, hat, hQ⟩
      · exact .inr (.inl ⟨a, us, i, u, rfl, rfl, hs, hat, hQ⟩)
    | _ => cases e
  | none =>
    rw [es] at e
    cases ed : dicA x with
    | some kz =>
      obtain ⟨ks, zs⟩ := kz
      rw [ed] at e
      obtain ⟨k, ek, eg⟩ := Option.bind_eq_some_iff.mp (show (keyA y).bind (fun k => getK ks zs k) = some d from e)
      obtain ⟨a, kvs, b, rfl, hs, hk, q⟩ := dicA_v r1 ed
      subst hk
      obtain ⟨v, c, h1, h2⟩ := getK_v q eg
      refine ⟨v, c, h2, (fun z => by cases z), fun _ Q hQ => ⟨a, v, rfl, ?_, hQ⟩⟩
      rw [keyA_v r2 ek, ← h1]
      exact DGet.k hs
    | none =>
      rw [ed] at e
      cases x with
      | str z =>
        cases y with
        | int i =>
          obtain rfl := r1.str_i
          obtain rfl := r2.int_i
          have e2 : (if z.length ≤ 16777216 then (atI z.cps.toList i).map fun c => AV.str ⟨#[c]⟩ else none) = some d := e
          by_cases c : z.length ≤ 16777216
          · rw [if_pos c] at e2
            obtain ⟨ch, ec, rfl⟩ := Option.map_eq_some_iff.mp e2
            exact ⟨.str ⟨#[ch]⟩, [], .str .nil, fun _ Q hQ => .inr (.inr ⟨z, i, ch, rfl, rfl, by rw [mx_eq]; exact c, ec, hQ⟩), fun z => absurd rfl z⟩
          · rw [if_neg c] at e2
            cases e2
        | _ => cases e
      | _ => cases e
end
section
variable {X : Cx} {Γ : Gam} {W : WX} {σ : L2.St} {H : Hp} {st : Ss} {p : Pd} {K : PySem.W.Frag} {pos q : Pos} {a b : Expr}
theorem s_ix {ma mb : M AV} (hu : X.A.units + 1 < cLine) (ha : PE X a (rdE X.K Γ W ma)) (hb : PE X b (rdE X.K Γ W mb)) (hs : PlainIx b := by exact fun _ _ => rfl) : PE X (.Subscript a b pos) (rdE X.K Γ W (eIx ma mb)) := by
  have hd : PE X (.Subscript a b pos) (tOp rDG (rdE X.K Γ W ma) (rdE X.K Γ W mb)) := pe_dget hu ha hb hs
  refine pe_imp (Fk.pe_or (pe_ix ix_seq ha hb hs) hd) fun σ H Q h => ?_
  obtain ⟨st, p, R, h⟩ := h
  unfold eIx at h
  -- the values that come decide which rule is taken
  have main : ∀ r : R2, (∀ x s1 y s2, ma st = .ok x s1 → mb s1 = .ok y s2 → ∀ v1 v2 H2, Rel X.K Γ σ H2 s2 ((p.nob.sh v1 x).sh v2 y) → r v1 v2 H2 Q) → tOp r (rdE X.K Γ W ma) (rdE X.K Γ W mb) σ H Q := by
    intro r hr
    refine ⟨st, p, R, ?_⟩
    cases ea : ma st with
    | bad => rw [ea] at h; exact h
    | err c s1 => rw [ea] at h; exact h
    | ok x s1 =>
      rw [ea] at h
      simp only [Res.bind_ok] at h
      intro v1 H1 R1
      refine ⟨s1, _, R1, ?_⟩
      cases eb : mb s1 with
      | bad => rw [eb] at h; exact h
      | err c s2 => rw [eb] at h; exact fun H2 R2 => h H2 R2.drop
      | ok y s2 => exact fun v2 H2 R2 => hr x s1 y s2 ea eb v1 v2 H2 R2
  cases ea : ma st with
  | bad => rw [ea] at h; exact h.elim
  | err c s1 =>
    left
    refine main _ fun x s1 y s2 e1 => ?_
    rw [ea] at e1; cases e1
  | ok x s1 =>
    rw [ea] at h
    simp only [Res.bind_ok] at h
    cases eb : mb s1 with
    | bad => rw [eb] at h; exact h.elim
    | err c s2 =>
      left
      refine main _ fun x' s1' y s2 e1 e2 => ?_
      rw [ea] at e1; cases e1
      rw [eb] at e2; cases e2
    | ok y s2 =>
      rw [eb] at h
      simp only [Res.bind_ok] at h
      cases ei : ixA s2.s x y with
      | none => simp only [ei] at h
      | some d =>
        simp only [ei] at h
        cases em : imm d with
        | false => simp only [em, cond_false] at h
        | true =>
          simp only [em, cond_true] at h
          obtain ⟨z, ez, e2⟩ := Option.bind_eq_some_iff.mp ei
          have fin : ∀ v1 v2 H2, Rel X.K Γ σ H2 s2 ((p.nob.sh v1 x).sh v2 y) → (dicA z = none → rIx X.K v1 v2 H2 Q) ∧ (dicA z ≠ none → rDG v1 v2 H2 Q) := fun v1 v2 H2 R2 => by
            obtain ⟨m, ar, am, ao, ab, R3, r1, r2⟩ := R2.two
            obtain ⟨as', r3⟩ := R3.deref r1 ez
            obtain ⟨v, b, rv, h1, h2⟩ := it_sem r3 r2 e2
            rw [imm_nil rv em] at rv
            exact ⟨fun z => h1 z Q (h v H2 (R3.nob.sh rv)), fun z => h2 z Q (h v H2 (R3.nob.sh rv))⟩
          by_cases c : dicA z = none
          · left
            refine main _ fun x' s1' y' s2' e1 e3 v1 v2 H2 R2 => ?_
            rw [ea] at e1; cases e1
            rw [eb] at e3; cases e3
            exact (fin v1 v2 H2 R2).1 c
          · right
            refine main _ fun x' s1' y' s2' e1 e3 v1 v2 H2 R2 => ?_
            rw [ea] at e1; cases e1
            rw [eb] at e3; cases e3
            exact (fin v1 v2 H2 R2).2 c
theorem q_ix {ma mb : Ss → Option AV} (hu : X.A.units + 1 < cLine) (ha : PE X a (rdP X.K Γ ma)) (hb : PE X b (rdP X.K Γ mb)) (hs : PlainIx b := by exact fun _ _ => rfl) : PE X (.Subscript a b pos) (rdP X.K Γ (pIx ma mb)) := by
  have hd : PE X (.Subscript a b pos) (tOp rDG (rdP X.K Γ ma) (rdP X.K Γ mb)) := pe_dget hu ha hb hs
  refine pe_imp (Fk.pe_or (pe_ix ix_seq ha hb hs) hd) fun σ H Q h => ?_
  obtain ⟨st, p, d, R, e, h⟩ := h
  obtain ⟨x, ea, e⟩ := Option.bind_eq_some_iff.mp e
  obtain ⟨y, eb, e⟩ := Option.bind_eq_some_iff.mp e
  obtain ⟨z, ez, e⟩ := Option.bind_eq_some_iff.mp e
  have fin : ∀ v1 v2, Rel X.K Γ σ H st ((p.lk v1 x).lk v2 y) → (dicA z = none → rIx X.K v1 v2 H Q) ∧ (dicA z ≠ none → rDG v1 v2 H Q) := fun v1 v2 R2 => by
    obtain ⟨m, ar, am, ao, ab, R2⟩ := R2
    obtain ⟨c1, c2, _, r2, r0⟩ := R2.rb.head
    obtain ⟨c3, c4, _, r1, r4⟩ := r0.head
    have R3 := R2.setB (p := (p.lk v1 x).lk v2 y) r4
    obtain ⟨as', r3⟩ := Rl.deref (p := p) R3 r1 ez
    obtain ⟨v, b, rv, h1, h2⟩ := it_sem r3 r2 e
    have R5 : Rel X.K Γ σ H st (p.lk v d) := ⟨m, ar, am, ao, _, R2.setB (p := (p.lk v1 x).lk v2 y) (rv.cons r4)⟩
    exact ⟨fun z => h1 z Q (h v R5), fun z => h2 z Q (h v R5)⟩
  by_cases c : dicA z = none
  · exact .inl ⟨st, p, x, R, ea, fun v1 R1 => ⟨st, _, y, R1, eb, fun v2 R2 => (fin v1 v2 R2).1 c⟩⟩
  · exact .inr ⟨st, p, x, R, ea, fun v1 R1 => ⟨st, _, y, R1, eb, fun v2 R2 => (fin v1 v2 R2).2 c⟩⟩
/-! ### slices -/
def cutA (xs : List AV) (lo hi : Option Int) : List AV := (xs.drop (HT.sIx xs.length 0 lo)).take (HT.sIx xs.length xs.length hi - HT.sIx xs.length 0 lo)
theorem cut_rp {W m : List Addr} {us : List V} {xs : List AV} {lo hi : Option Int} (r : Rp K H W m us xs []) : Rp K H W m (cutV us lo hi) (cutA xs lo hi) [] := by
  have dr : ∀ (n : Nat) {us : List V} {xs : List AV}, Rp K H W m us xs [] → Rp K H W m (us.drop n) (xs.drop n) [] := fun n => by
    induction n with
    | zero => intro us xs r; exact r
    | succ n ih =>
      intro us xs r
      cases us with
      | nil => obtain ⟨rfl, _⟩ := r.nil_inv'; exact .nil
      | cons u us => cases xs with
        | nil => cases r.nil_inv.1
        | cons x xs => exact ih r.head0.2
  have tk : ∀ (n : Nat) {us : List V} {xs : List AV}, Rp K H W m us xs [] → Rp K H W m (us.take n) (xs.take n) [] := fun n => by
    induction n with
    | zero => intro us xs r; exact .nil
    | succ n ih =>
      intro us xs r
      cases us with
      | nil => obtain ⟨rfl, _⟩ := r.nil_inv'; exact .nil
      | cons u us => cases xs with
        | nil => cases r.nil_inv.1
        | cons x xs => exact r.head0.1.cons0 (ih r.head0.2)
  have l := r.len
  unfold cutV cutA
  rw [l]
  exact tk _ (dr _ r)
def slA (x : AV) (lo hi : Option Int) : Option AV := match x with
  | .lst _ xs => some (.lst false (cutA xs lo hi))
  | .tup xs => some (.tup (cutA xs lo hi))
  | .str z => if z.length ≤ 16777216 then some (.str (cutS z lo hi)) else none
  | _ => none
theorem sl_sem {m ar am ao ab as : List Addr} {v : V} {x d : AV} {lo hi : Option Int} {Q : VK} (R : Rl K Γ σ H st p m ar am ao ab) (r : Rp K H (wOf Γ ar am ao) m [v] [x] as) (e : slA x lo hi = some d) (h : ∀ v H', Rel K Γ σ H' st (p.nob.sh v d) → Q v H') : uSl K v lo hi H Q := by
  unfold slA at e
  split at e
  · cases e
    obtain ⟨a, us, rfl, hs, q⟩ := r.lst_i
    exact .inl ⟨a, us, rfl, SqL.of hs, fun l hl => h _ _ (R.nob.lst hl (cut_rp q)).rel⟩
  · cases e
    obtain ⟨a, us, rfl, hs, q⟩ := r.tup_i
    refine .inr (.inl ⟨a, us, rfl, hs, fun c => ?_, fun _ l hl => h _ _ (R.nob.tup hl (cut_rp q)).rel⟩)
    have e1 : ∀ {xs : List AV}, us.length = xs.length → cutA xs lo hi = xs := fun {xs} l => by
      unfold cutA
      rw [← l, c.1, c.2]
      simp [l]
    rw [e1 q.len] at h
    exact h _ _ (R.nob.sh (.tup hs q .nil))
  · split at e
    · cases e
      obtain rfl := r.str_i
      exact .inr (.inr ⟨_, rfl, by rw [mx_eq]; assumption, h _ _ (R.nob.rel.str _)⟩)
    · cases e
  · cases e
/-- a slice's part -/
def oPart (o : Option (M AV)) : M (Option Int) := match o with
  | none => fun st => .ok none st
  | some m => fun st => (m st).bind fun x s1 => match x with
    | .int i => .ok (some i) s1
    | _ => .bad
def rdPO (K : PySem.W.Frag) (Γ : Gam) (W : WX) (m : M (Option Int)) : TO := fun σ H Q => ∃ st p, Rel K Γ σ H st p ∧ match m st with
  | .ok o st' => ∀ H', Rel K Γ σ H' st' p.nob → Q o H'
  | .err c st' => ∀ H', Rel K Γ σ H' st' p.nob → W (.ref (He.ga K c)) none σ H'
  | .bad => False
theorem po_imp {e : Option Expr} {t t' : TO} (h : PO X e t) (i : ∀ σ H Q, t' σ H Q → t σ H Q) : PO X e t' := ⟨fun pins s σ H Q I q => h.run pins s σ H Q I (i σ H Q q)⟩
theorem s_po0 : PO X none (rdPO X.K Γ W (oPart none)) := by
  refine po_imp po_none fun σ H Q h => ?_
  obtain ⟨st, p, R, h⟩ := h
  exact h H R.nob
theorem s_po1 {e : Expr} {m : M AV} (he : PE X e (rdE X.K Γ W m)) : PO X (some e) (rdPO X.K Γ W (oPart (some m))) := by
  refine po_imp (po_some he) fun σ H Q h => ?_
  obtain ⟨st, p, R, h⟩ := h
  refine ⟨st, p, R, ?_⟩
  simp only [oPart] at h
  cases ea : m st with
  | bad => rw [ea] at h; exact h
  | err c s1 => rw [ea] at h; exact h
  | ok x s1 =>
    rw [ea] at h
    simp only [Res.bind_ok] at h
    intro v H1 R1
    cases x with
    | int i =>
      obtain ⟨mm, ar, am, ao, ab, R2, r⟩ := R1.one
      exact ⟨i, r.int_i, h H1 R2.rel⟩
    | _ => exact h.elim
def eSl (a : M AV) (lo hi : Option (M AV)) : M AV := fun st => (a st).bind fun x s1 => (oPart lo s1).bind fun l s2 => (oPart hi s2).bind fun u s3 => ofO (slA x l u) s3
theorem s_sl {e : Expr} {lo hi : Option Expr} {me : M AV} {ml mh : Option (M AV)} {q2 : Pos} (he : PE X e (rdE X.K Γ W me)) (hl : PO X lo (rdPO X.K Γ W (oPart ml))) (hh : PO X hi (rdPO X.K Γ W (oPart mh))) : PE X (.Subscript e (.Slice lo hi none q2) pos) (rdE X.K Γ W (eSl me ml mh)) := by
  refine pe_imp (pe_slice sl_any he hl hh) fun σ H Q h => ?_
  obtain ⟨st, p, R, h⟩ := h
  refine ⟨st, p, R, ?_⟩
  unfold eSl at h
  cases ea : me st with
  | bad => rw [ea] at h; exact h
  | err c s1 => rw [ea] at h; exact h
  | ok x s1 =>
    rw [ea] at h
    simp only [Res.bind_ok] at h
    intro v H1 R1
    refine ⟨s1, _, R1, ?_⟩
    cases el : oPart ml s1 with
    | bad => rw [el] at h; exact h
    | err c s2 => rw [el] at h; exact fun H2 R2 => h H2 R2.drop
    | ok l s2 =>
      rw [el] at h
      simp only [Res.bind_ok] at h
      intro H2 R2
      refine ⟨s2, _, R2, ?_⟩
      cases eh : oPart mh s2 with
      | bad => rw [eh] at h; exact h
      | err c s3 => rw [eh] at h; exact fun H3 R3 => h H3 R3.drop
      | ok u s3 =>
        rw [eh] at h
        simp only [Res.bind_ok] at h
        intro H3 R3
        cases es : slA x l u with
        | none => simp only [es, ofO_none] at h
        | some d =>
          simp only [es, ofO_some] at h
          obtain ⟨m, ar, am, ao, ab, R4, r⟩ := Rel.one (p := p.nob) R3
          exact sl_sem R4 r es h
def revA : AV → Option AV
  | .lst _ xs => some (.lst false xs.reverse)
  | .tup xs => some (.tup xs.reverse)
  | _ => none
theorem rev_rp {W m : List Addr} : ∀ {us : List V} {xs : List AV}, Rp K H W m us xs [] → Rp K H W m us.reverse xs.reverse []
  | [], xs, r => by obtain ⟨rfl, _⟩ := r.nil_inv'; exact .nil
  | u :: us, [], r => by cases r.nil_inv.1
  | u :: us, x :: xs, r => by
    rw [List.reverse_cons, List.reverse_cons]
    exact (rev_rp r.head0.2).app r.head0.1
theorem s_rev {e : Expr} {m : M AV} {k : Nat} {p1 p2 p3 : Pos} (he : PE X e (rdE X.K Γ W m)) : PE X (.Subscript e (.Slice none none (some (.UnaryOp .USub (.Constant (.int 1) k p1) p2)) p3) pos) (rdE X.K Γ W (e1 revA m)) := by
  refine pe_imp (pe_rev he) fun σ H Q h => ?_
  obtain ⟨st, p, R, h⟩ := h
  unfold e1 at h
  cases ea : m st with
  | bad => rw [ea] at h; exact h.elim
  | err c s1 =>
    rw [ea] at h
    exact .inl ⟨st, p, R, by rw [ea]; exact h⟩
  | ok x s1 =>
    rw [ea] at h
    simp only [Res.bind_ok] at h
    cases x with
    | lst o xs =>
      refine .inl ⟨st, p, R, ?_⟩
      rw [ea]
      intro v H1 R1
      obtain ⟨mm, ar, am, ao, ab, R2, r⟩ := R1.one
      obtain ⟨a, us, rfl, hs, q⟩ := r.lst_i
      exact ⟨a, us, rfl, SqL.of hs, fun l hl => h _ _ (R2.lst hl (rev_rp q)).rel⟩
    | tup xs =>
      refine .inr ⟨st, p, R, ?_⟩
      rw [ea]
      intro v H1 R1
      obtain ⟨mm, ar, am, ao, ab, R2, r⟩ := R1.one
      obtain ⟨a, us, rfl, hs, q⟩ := r.tup_i
      exact ⟨a, us, rfl, hs, fun l hl => h _ _ (R2.tup hl (rev_rp q)).rel⟩
    | _ => exact h.elim
/-! ### a module's constants -/
theorem s_gl {x : Str} {v : V} {u : Value} {d : AV} (hg : Gl X x) (hm : X.mg x = some u) (r : RelV v u) (hr : ∀ H W m, Rp X.K H W m [v] [d] []) (hd : (x == ("__debug__" : Str)) = false := by decide) : PE X (.Name x pos) (rdE X.K Γ W (eC d)) := by
  refine pe_imp (pe_glob hg hm r hd) fun σ H Q h => ?_
  obtain ⟨st, p, R, h⟩ := h
  exact h _ _ (R.nob.shC (hr H))
end
end Fk
/-! ## stores -/
namespace Fk
open PySem PySem.Spec PyProof.Rows L2
section
variable {K : PySem.W.Frag} {H : Hp} {Γ : Gam} {σ : L2.St} {st : Ss} {p : Pd} {m ar am ao ab : List Addr}
theorem set_same {σ : L2.St} {i : Nat} {v : V} (e : σ[i]? = some (some v)) : σ.set i (some v) = σ := by
  apply List.ext_getElem?
  intro j
  by_cases c : i = j
  · subst c
    rw [List.getElem?_set_self (List.getElem?_eq_some_iff.mp e).1, e]
  · rw [List.getElem?_set_ne c]
/-- an owned thing in a slot is written -/
theorem Rl.wrSlot (R : Rl K Γ σ H st p m ar am ao ab) {i : Nat} {d : AV} (e : getSl st.r i = .ow d) : ∃ v b, σ[i]? = some (some v) ∧ Rp K H (wOf Γ ar am ao) m [v] [d] b ∧ (∀ c ∈ b, c ∈ wOf Γ ar am ao) ∧
    ∀ {q : Addr} {o u : HO} {d' : AV}, q ∈ b → H q = some u → mutO u = true → NoTbl o → (∀ {H' : Hp}, Tr H H' (wOf Γ ar am ao) (wOf Γ ar am ao) m m [q] → H' q = some o → (∀ c, c ≠ q → H' c = H c) → Rp K H' (wOf Γ ar am ao) m [v] [d'] b) → Rel K Γ σ (upd H q o) ⟨setSl st.r i (.ow d'), st.s⟩ p.nob := by
  obtain ⟨v, a1, b, a2, ev, ea, rv, rn⟩ := R.rs.getOw e
  have nd := R.nd
  refine ⟨v, b, ev, rv, fun c hc => by simp only [wOf, ea, List.mem_append]; grind, ?_⟩
  intro q o u d' hq hu hm no hr
  have hi : i < st.r.length := getSl_lt (by rw [e]; exact fun z => nomatch z)
  have hqw : q ∈ wOf Γ ar am ao := by simp only [wOf, ea, List.mem_append]; grind
  have t : Tr H (upd H q o) (wOf Γ ar am ao) (wOf Γ ar am ao) m m [q] := Tr.put hu hm hqw fun _ z => z
  have n1 : ∀ c ∈ a1 ++ a2, c ∉ [q] := fun c hc z => by
    simp only [wOf, ea, List.nodup_append, List.mem_append, List.mem_singleton] at nd z hc
    grind
  have n2 : ∀ c ∈ am, c ∉ [q] := fun c hc z => by
    simp only [wOf, ea, List.nodup_append, List.mem_append, List.mem_singleton] at nd z
    grind
  have n3 : ∀ c ∈ ao, c ∉ [q] := fun c hc z => by
    simp only [wOf, ea, List.nodup_append, List.mem_append, List.mem_singleton] at nd z
    grind
  obtain ⟨c1, c2, ec, rs⟩ := (t.rs rn n1).setOw hi (hr t upd_same fun c hc => upd_ne hc)
  rw [set_same ev] at rs
  have hmem : ∀ x, x ∈ c1 ++ (b ++ c2) ↔ x ∈ ar := fun x => by
    have h1 : x ∈ a1 ++ a2 ↔ x ∈ c1 ++ c2 := by rw [ec]
    simp only [ea, List.mem_append] at h1 ⊢
    grind
  have hw : ∀ x, x ∈ wOf Γ (c1 ++ (b ++ c2)) am ao ↔ x ∈ wOf Γ ar am ao := fun x => by
    have h1 := hmem x
    simp only [wOf, List.mem_append] at h1 ⊢
    grind
  have t2 : Tr (upd H q o) (upd H q o) (wOf Γ ar am ao) (wOf Γ (c1 ++ (b ++ c2)) am ao) m m [] := Tr.same fun c z => (hw c).mp z
  refine ⟨m, c1 ++ (b ++ c2), am, ao, [], t2.rs rs (fun _ _ z => nomatch z), t2.rp (t.rp R.rm n2) (fun _ _ z => nomatch z), t2.rp0 (t.rp0 R.ri), t2.rp (t.rp R.ro n3) (fun _ _ z => nomatch z), .nil, ?_, ?_, ?_, R.pm, R.gu, tabs_put R.tb hu hm no⟩
  · have pn : (c1 ++ (b ++ c2)).Perm ar := by
      rw [ea]
      have e1 : (c1 ++ (b ++ c2)).Perm (b ++ (c1 ++ c2)) := by
        rw [← List.append_assoc, ← List.append_assoc]
        exact List.Perm.append_right _ List.perm_append_comm
      have e2 : (a1 ++ (b ++ a2)).Perm (b ++ (a1 ++ a2)) := by
        rw [← List.append_assoc, ← List.append_assoc]
        exact List.Perm.append_right _ List.perm_append_comm
      rw [ec] at e2
      exact e1.trans e2.symm
    have pw : (wOf Γ (c1 ++ (b ++ c2)) am ao).Perm (wOf Γ ar am ao) := List.Perm.append_left _ (List.Perm.append_right _ pn)
    exact pw.nodup_iff.mpr nd
  · intro x hx
    have h1 := hmem x
    have h2 := R.fr x
    simp only [List.mem_append] at h1 h2 hx
    grind
  · intro a' o' e' n'
    obtain ⟨o2, e2, f2⟩ := R.kp a' o' e' n'
    have ne : a' ≠ q := by
      rintro rfl
      rcases R.fr a' (by simp only [ea, List.mem_append]; grind) with z | z
      · exact n' z
      · rw [e'] at z; cases z
    exact ⟨o2, by rw [upd_ne ne]; exact e2, f2⟩
end
/-! ### lists and dicts in slots -/
def ownL : Sl → Option (List AV)
  | .ow (.lst true xs) => some xs
  | _ => none
def ownD : Sl → Option (List Key × List AV)
  | .ow (.dct true ks xs) => some (ks, xs)
  | _ => none
@[simp] theorem ownL_ow (xs : List AV) : ownL (.ow (.lst true xs)) = some xs := rfl
@[simp] theorem ownD_ow (ks : List Key) (xs : List AV) : ownD (.ow (.dct true ks xs)) = some (ks, xs) := rfl
theorem ownL_eq {s : Sl} {xs : List AV} (h : ownL s = some xs) : s = .ow (.lst true xs) := by
  unfold ownL at h
  split at h
  · cases h; rfl
  · cases h
def putL (i : Nat) (xs : List AV) (st : Ss) : Ss := ⟨setSl st.r i (.ow (.lst true xs)), st.s⟩
def putD (i : Nat) (ks : List Key) (xs : List AV) (st : Ss) : Ss := ⟨setSl st.r i (.ow (.dct true ks xs)), st.s⟩
def eApp (i : Nat) (m : M AV) : M AV := fun st => match ownL (getSl st.r i) with
  | none => .bad
  | some _ => (m st).bind fun d s1 => match ownL (getSl s1.r i) with
    | none => .bad
    | some xs => if xs.length < 16777216 then .ok .non (putL i (xs ++ [d]) s1) else .bad
def asI : AV → Option Int
  | .int i => some i
  | _ => none
def popA (xs : List AV) (d : AV) : Option (AV × List AV) := (asI d).bind fun k => if 0 ≤ k ∧ k < xs.length ∧ xs.length ≤ 16777216 then (xs[k.toNat]?).map fun y => (y, xs.eraseIdx k.toNat) else none
def ePop (i : Nat) (m : M AV) : M AV := fun st => match ownL (getSl st.r i) with
  | none => .bad
  | some _ => (m st).bind fun d s1 => match ownL (getSl s1.r i) with
    | none => .bad
    | some xs => match popA xs d with
      | some (y, ys) => .ok y (putL i ys s1)
      | none => .bad
section
variable {X : Cx} {Γ : Gam} {W : WX} {σ : L2.St} {H : Hp} {st : Ss} {p : Pd} {K : PySem.W.Frag} {pos apos cpos : Pos} {e : Expr} {x : Str} {i : Nat}
theorem Rl.slotL {m ar am ao ab : List Addr} {xs : List AV} (R : Rl K Γ σ H st p m ar am ao ab) (e : ownL (getSl st.r i) = some xs) : ∃ l us, σ[i]? = some (some (.ref l)) ∧ H l = some (.lst us) ∧ Rp K H (wOf Γ ar am ao) m us xs [] ∧
    ∀ {us' : List V} {ys : List AV}, Rp K H (wOf Γ ar am ao) m us' ys [] → Rel K Γ σ (upd H l (.lst us')) (putL i ys st) p.nob ∧ ∀ {v : V} {d : AV}, Rp K H (wOf Γ ar am ao) m [v] [d] [] → Rel K Γ σ (upd H l (.lst us')) (putL i ys st) (p.nob.sh v d) := by
  have main : ∀ {p : Pd}, Rl K Γ σ H st p m ar am ao ab → ∃ l us, σ[i]? = some (some (.ref l)) ∧ H l = some (.lst us) ∧ Rp K H (wOf Γ ar am ao) m us xs [] ∧ ∀ {us' : List V} {ys : List AV}, Rp K H (wOf Γ ar am ao) m us' ys [] → Rel K Γ σ (upd H l (.lst us')) (putL i ys st) p.nob := fun {p} R => by
    obtain ⟨v, b, ev, rv, _, f⟩ := R.wrSlot (ownL_eq e)
    obtain ⟨l, us, rfl, rfl, hs, q⟩ := rv.lsO_i
    exact ⟨l, us, ev, hs, q, fun {us' ys} r => f (o := .lst us') (d' := .lst true ys) (by simp) hs rfl (fun _ z => by cases z) fun t h1 _ => .lsO h1 (t.rp0 r) .nil⟩
  obtain ⟨l, us, ev, hs, q, f⟩ := main R
  refine ⟨l, us, ev, hs, q, fun {us' ys} r => ⟨f r, fun {v d} rd => ?_⟩⟩
  obtain ⟨l', us2, ev', hs', _, f'⟩ := main (R.setI (rd.cons0 R.ri))
  rw [ev] at ev'
  cases ev'
  exact f' r
/-- a method of a list in a slot -/
theorem slotM {m : M AV} {r : V → List V → Hp → VK → Prop} {id : String} {nm : Str} {q : Pos} {g : List AV → AV → Option (AV × List AV)} (hN : X.N[i]? = some x) (hv : Vis X.env.scope x) (he : PE X e (rdE X.K Γ W m)) (hM : MtR X id r)
    (hd : (x == ("__debug__" : Str)) = false) (hcd : (x == ("__classdict__" : Str)) = false)
    (hbm : ∀ {r : V → List V → Hp → VK → Prop} {to : TE} {t : TA}, MtR X id r → PE X (.Name x q) to → PA X [e] t → PE X (.Call (.Attribute (.Name x q) nm apos) [e] [] cpos) (tBM X.K "list" r to t))
    (hs : starEach [e] X.env = (false, eval e X.env) :: starEach [] X.env)
    (hr : ∀ {l : Addr} {us : List V} {xs ys : List AV} {v : V} {d y : AV} {H : Hp} {W' mm : List Addr} {Q : VK}, H l = some (.lst us) → Rp X.K H W' mm us xs [] → Rp X.K H W' mm [v] [d] [] → g xs d = some (y, ys) → (∀ w us', Rp X.K H W' mm [w] [y] [] → Rp X.K H W' mm us' ys [] → Q w (upd H l (.lst us'))) → r (.ref l) [v] H Q) :
    PE X (.Call (.Attribute (.Name x q) nm apos) [e] [] cpos) (rdE X.K Γ W fun st => match ownL (getSl st.r i) with
      | none => .bad
      | some _ => (m st).bind fun d s1 => match ownL (getSl s1.r i) with
        | none => .bad
        | some xs => match g xs d with
          | some (y, ys) => .ok y (putL i ys s1)
          | none => .bad) := by
  refine pe_imp (hbm hM (pe_var hN hv hd hcd) (pa_cons he pa_nil hs)) fun σ H Q h => ?_
  obtain ⟨st, p, R, h⟩ := h
  cases e0 : ownL (getSl st.r i) with
  | none => simp only [e0] at h
  | some xs0 =>
    simp only [e0] at h
    have Rc := R
    obtain ⟨mm, ar, am, ao, ab, R0⟩ := Rc
    obtain ⟨l, us0, ev, hs0, _, _⟩ := R0.slotL e0
    refine ⟨.ref l, ev, .inl ⟨rfl, us0, SqL.of hs0⟩, st, p, R, ?_⟩
    cases ea : m st with
    | bad => rw [ea] at h; exact h
    | err c s1 => rw [ea] at h; exact h
    | ok d s1 =>
      rw [ea] at h
      simp only [Res.bind_ok] at h
      intro v H1 R1
      cases e1 : ownL (getSl s1.r i) with
      | none => simp only [e1] at h
      | some xs =>
        simp only [e1] at h
        obtain ⟨mm, ar, am, ao, ab, R2, rd⟩ := R1.one
        obtain ⟨l', us, ev', hs', q, f⟩ := R2.slotL e1
        rw [ev] at ev'
        cases ev'
        cases eg : g xs d with
        | none => simp only [eg] at h
        | some yy =>
          obtain ⟨y, ys⟩ := yy
          simp only [eg] at h
          exact hr hs' q rd eg fun w us' rw' ru => h w _ ((f ru).2 rw')
theorem s_app {m : M AV} {q : Pos} (hN : X.N[i]? = some x) (hv : Vis X.env.scope x) (he : PE X e (rdE X.K Γ W m))
    (hbm : ∀ {r : V → List V → Hp → VK → Prop} {to : TE} {t : TA}, MtR X "list.append" r → PE X (.Name x q) to → PA X [e] t → PE X (.Call (.Attribute (.Name x q) "append" apos) [e] [] cpos) (tBM X.K "list" r to t))
    (hd : (x == ("__debug__" : Str)) = false := by decide) (hcd : (x == ("__classdict__" : Str)) = false := by decide) (hs : starEach [e] X.env = (false, eval e X.env) :: starEach [] X.env := by rfl) : PE X (.Call (.Attribute (.Name x q) "append" apos) [e] [] cpos) (rdE X.K Γ W (eApp i m)) := by
  refine pe_imp (slotM (g := fun xs d => if xs.length < 16777216 then some (.non, xs ++ [d]) else none) hN hv he mt_append hd hcd hbm hs ?_) fun σ H Q h => ?_
  · intro l us xs ys v d y H W' mm Q h1 q rd eg hq
    split at eg
    · cases eg
      rename_i c
      exact ⟨l, us, v, rfl, rfl, h1, by rw [q.len, mx_eq]; exact c, hq .non _ (.non .nil) (q.app rd)⟩
    · cases eg
  · obtain ⟨st, p, R, h⟩ := h
    refine ⟨st, p, R, ?_⟩
    unfold eApp at h
    cases e0 : ownL (getSl st.r i) with
    | none => simp only [e0] at h
    | some xs0 =>
      simp only [e0] at h ⊢
      cases ea : m st with
      | bad => rw [ea] at h; exact h
      | err c s1 => rw [ea] at h; exact h
      | ok d s1 =>
        rw [ea] at h
        simp only [Res.bind_ok] at h ⊢
        cases e1 : ownL (getSl s1.r i) with
        | none => simp only [e1] at h
        | some xs =>
          simp only [e1] at h ⊢
          by_cases c : xs.length < 16777216
          · simp only [c, if_true] at h ⊢
            exact h
          · simp only [c, if_false] at h
theorem s_pop {m : M AV} {q : Pos} (hN : X.N[i]? = some x) (hv : Vis X.env.scope x) (he : PE X e (rdE X.K Γ W m))
    (hbm : ∀ {r : V → List V → Hp → VK → Prop} {to : TE} {t : TA}, MtR X "list.pop" r → PE X (.Name x q) to → PA X [e] t → PE X (.Call (.Attribute (.Name x q) "pop" apos) [e] [] cpos) (tBM X.K "list" r to t))
    (hd : (x == ("__debug__" : Str)) = false := by decide) (hcd : (x == ("__classdict__" : Str)) = false := by decide) (hs : starEach [e] X.env = (false, eval e X.env) :: starEach [] X.env := by rfl) : PE X (.Call (.Attribute (.Name x q) "pop" apos) [e] [] cpos) (rdE X.K Γ W (ePop i m)) := by
  refine slotM (g := popA) hN hv he mt_popAt hd hcd hbm hs ?_
  intro l us xs ys v d y H W' mm Q h1 q rd eg hq
  unfold popA at eg
  obtain ⟨k, ek, eg⟩ := Option.bind_eq_some_iff.mp eg
  split at eg
  · rename_i c
    obtain ⟨z, ez, e2⟩ := Option.map_eq_some_iff.mp eg
    cases e2
    cases d with
    | int k' =>
      cases ek
      obtain rfl := rd.int_i
      obtain ⟨u, a1, b, a2, eu, ea, r1, r2, r3⟩ := q.at_ ez
      obtain ⟨e1, e2⟩ := List.append_eq_nil_iff.mp ea.symm
      obtain ⟨e3, e4⟩ := List.append_eq_nil_iff.mp e2
      subst e1 e3 e4
      have hl := q.len
      have er : ∀ {α : Type} (zs : List α) (n : Nat), zs.eraseIdx n = zs.take n ++ zs.drop (n + 1) := fun zs n => List.eraseIdx_eq_take_drop_succ zs n
      refine ⟨l, us, k, k.toNat, u, rfl, rfl, h1, by omega, by omega, ?_, eu, hq u _ r2 (by rw [er, er]; exact r1.app r3)⟩
      have hix : ixN us.length k = some k.toNat := by
        unfold ixN
        rw [if_pos c.1, if_pos (by rw [hl]; exact c.2.1)]
      exact (ixN_seq hix).1
    | _ => cases ek
  · cases eg
/-! stores into slots' lists and dicts -/
def updA (k : Key) (d : AV) : List Key → List AV → List AV
  | k' :: ks, x :: xs => (if k' = k then d else x) :: updA k d ks xs
  | _, xs => xs
def hasK (ks : List Key) (k : Key) : Bool := ks.any fun k' => decide (k' = k)
def putKA (ks : List Key) (xs : List AV) (k : Key) (d : AV) : List Key × List AV := bif hasK ks k then (ks, updA k d ks xs) else (ks ++ [k], xs ++ [d])
theorem updA_v {W m : List Addr} {k : Key} {v : V} {d : AV} : ∀ {kvs : List (Key × V)} {ys : List AV}, Rp K H W m (kvs.map (·.2)) ys [] → Rp K H W m [v] [d] [] → Rp K H W m ((kvs.map fun kv => if kv.1 = k then (kv.1, v) else kv).map (·.2)) (updA k d (kvs.map (·.1)) ys) []
  | [], ys, r, rd => by
    obtain ⟨rfl, _⟩ := r.nil_inv'
    exact .nil
  | (k', v') :: kvs, [], r, rd => by cases r.nil_inv.1
  | (k', v') :: kvs, y :: ys, r, rd => by
    have r0 := Rp.head0 (show Rp K H W m (v' :: kvs.map (·.2)) (y :: ys) [] from r)
    have ih := updA_v (k := k) r0.2 rd
    by_cases c : k' = k
    · have h1 := rd.cons0 ih
      show Rp K H W m ((if k' = k then (k', v) else (k', v')).2 :: _) ((if k' = k then d else y) :: _) []
      rw [if_pos c, if_pos c]
      exact h1
    · have h1 := r0.1.cons0 ih
      show Rp K H W m ((if k' = k then (k', v) else (k', v')).2 :: _) ((if k' = k then d else y) :: _) []
      rw [if_neg c, if_neg c]
      exact h1
theorem putK_v {W m : List Addr} {k : Key} {v : V} {d : AV} {kvs : List (Key × V)} {ys : List AV} (r : Rp K H W m (kvs.map (·.2)) ys []) (rd : Rp K H W m [v] [d] []) : ((putK kvs k v).map (·.1)) = (putKA (kvs.map (·.1)) ys k d).1 ∧ Rp K H W m ((putK kvs k v).map (·.2)) (putKA (kvs.map (·.1)) ys k d).2 [] := by
  have ea : hasK (kvs.map (·.1)) k = (kvs.any fun kv => decide (kv.1 = k)) := by
    unfold hasK
    rw [List.any_map]
    rfl
  unfold putK putKA
  rw [ea]
  cases c : kvs.any fun kv => decide (kv.1 = k) with
  | true =>
    refine ⟨?_, updA_v r rd⟩
    show ((kvs.map fun kv => if kv.1 = k then (kv.1, v) else kv).map (·.1)) = kvs.map (·.1)
    rw [List.map_map]
    refine List.map_congr_left fun kv _ => ?_
    show (if kv.1 = k then (kv.1, v) else kv).1 = kv.1
    split <;> rfl
  | false =>
    rw [if_neg Bool.false_ne_true]
    refine ⟨by simp, ?_⟩
    show Rp K H W m ((kvs ++ [(k, v)]).map (·.2)) (ys ++ [d]) []
    rw [List.map_append]
    exact r.app rd
def setIx (xs : List AV) (y d : AV) : Option (List AV) := (asI y).bind fun k => (ixN xs.length k).map fun j => xs.set j d
def isOw : Sl → Bool
  | .ow _ => true
  | _ => false
/-- the list or dict in a slot gets a value at a place -/
def storeB (i : Nat) (y d : AV) (st : Ss) : Res Fl Ss := match ownL (getSl st.r i) with
  | some xs => (match setIx xs y d with
    | some ys => .ok .nx (putL i ys st)
    | none => .bad)
  | none => match ownD (getSl st.r i) with
    | some (ks, xs) => (match keyA y with
      | some k => if ks.length < 16777216 then .ok .nx (putD i (putKA ks xs k d).1 (putKA ks xs k d).2 st) else .bad
      | none => .bad)
    | none => .bad
/-- name[y] = value -/
def sSetB (i : Nat) (mk mv : M AV) : M Fl := fun st => (mv st).bind fun d s1 => bif isOw (getSl s1.r i) then (mk s1).bind fun y s2 => storeB i y d s2 else .bad
theorem ps_or {s : Stmt} {a b : TS} (h1 : PS X s a) (h2 : PS X s b) : PS X s (fun D σ H => a D σ H ∨ b D σ H) :=
  ⟨fun pins s σ H D I h => h.elim (fun q => h1.run pins s σ H D I q) (fun q => h2.run pins s σ H D I q)⟩
end
end Fk
/-! ## objects: fields, methods, making -/
namespace Fk
open PySem PySem.Spec PyProof.Rows L2
def getF : List Str → List AV → Str → Option AV
  | k :: ks, x :: xs, f => if k = f then some x else getF ks xs f
  | _, _, _ => none
def insOf : AV → Option (Str × List Str × List AV)
  | .ins C ks xs => some (C, ks, xs)
  | _ => none
/-- a field of the object behind a value -/
def fldA (S : List AV) (C f : Str) (x : AV) : Option AV := ((deref S x).bind insOf).bind fun t => if t.1 = C then getF t.2.1 t.2.2 f else none
def pFld (C f : Str) (m : Ss → Option AV) : Ss → Option AV := fun st => (m st).bind fun x => fldA st.s C f x
section
variable {K : PySem.W.Frag} {H : Hp} {W m as : List Addr} {v : V} {x d : AV} {Γ : Gam} {σ : L2.St} {st : Ss} {p : Pd} {ar am ao ab : List Addr}
end
section
variable {X : Cx} {Γ : Gam} {W : WX} {σ : L2.St} {H : Hp} {st : Ss} {p : Pd} {K : PySem.W.Frag} {pos apos cpos : Pos} {e : Expr} {x : Str} {i : Nat} {C f : Str} {fs : List Str}
/-! ### stores -/
def putFA : List Str → List AV → Str → AV → List Str × List AV
  | k :: ks, x :: xs, f, d => if k = f then (k :: ks, d :: xs) else (k :: (putFA ks xs f d).1, x :: (putFA ks xs f d).2)
  | _, _, f, d => ([f], [d])
def locOf : AV → Option Nat
  | .loc l => some l
  | _ => none
/-- a field given a value, the state behind it -/
def putFld (C f : Str) (x d : AV) (st : Ss) : Option Ss := (locOf x).bind fun l => ((st.s[l]?).bind insOf).bind fun t => if t.1 = C ∧ t.2.1.length < 1000 then some ⟨st.r, st.s.set l (.ins C (putFA t.2.1 t.2.2 f d).1 (putFA t.2.1 t.2.2 f d).2)⟩ else none
/-- e.f = value, the object looked at -/
def sFld (C f : Str) (mo : Ss → Option AV) (mv : M AV) : M Fl := fun st => (mv st).bind fun d s1 => match (mo s1).bind fun x => putFld C f x d s1 with
  | some s2 => .ok .nx s2
  | none => .bad
end
end Fk
/-! ## objects are made, their parts are written -/
namespace Fk
open PySem PySem.Spec PyProof.Rows L2
/-- one of two ways -/
def mAlt {α : Type} (a b : M α) : M α := fun st => match a st with
  | .bad => b st
  | r => r
section
variable {X : Cx} {Γ : Gam} {W : WX} {e : Expr} {s : Stmt}
end
/-- owned kinds -/
def ownA : AV → Bool
  | .lst o _ => o
  | .dct o _ _ => o
  | .nst _ => true
  | .ndc _ _ => true
  | .ins _ _ _ => true
  | _ => false
section
variable {K : PySem.W.Frag} {H : Hp} {W m as : List Addr} {v : V} {x d z : AV} {Γ : Gam} {σ : L2.St} {st : Ss} {p : Pd} {ar am ao ab : List Addr}
theorem own_ref (r : Rp K H W m [v] [x] as) (h : ownA x = true) : ∃ a, v = .ref a ∧ a ∈ as := by
  cases r with
  | lsI _ _ _ _ => cases h
  | dcI _ _ _ _ _ => cases h
  | lsO _ _ _ => exact ⟨_, rfl, by simp⟩
  | dcO _ _ _ _ => exact ⟨_, rfl, by simp⟩
  | nst _ _ _ => exact ⟨_, rfl, by simp⟩
  | ndc _ _ _ _ => exact ⟨_, rfl, by simp⟩
  | ins _ _ _ _ => exact ⟨_, rfl, by simp⟩
  | _ => cases h
/-- a pending owned thing becomes an object by itself -/
theorem Rel.prom (R : Rel K Γ σ H st (p.own v d)) (h : ownA d = true) : Rel K Γ σ H ⟨st.r, st.s ++ [d]⟩ (p.sh v (.loc st.s.length)) := by
  obtain ⟨m, ar, am, ao, ab, R⟩ := R
  obtain ⟨cs, ao', eo, rd, ro'⟩ := R.ro.head
  obtain ⟨a, rfl, ha⟩ := own_ref rd h
  subst eo
  have nd := R.nd
  have fr := R.fr
  have hl := R.rm.len
  rw [List.length_map] at hl
  have hm : ∀ (l : Nat) b, m[l]? = some b → (m ++ [a])[l]? = some b := fun l b e => by
    rw [List.getElem?_append_left (List.getElem?_eq_some_iff.mp e).1]; exact e
  have t : Tr H H (wOf Γ ar am (cs ++ ao')) (wOf Γ ar (am ++ cs) ao') m (m ++ [a]) [] := ⟨Kp.refl, (fun _ z => nomatch z), fun b _ n z => n (by
    simp only [wOf, List.mem_append] at z ⊢
    grind), hm⟩
  refine ⟨m ++ [a], ar, am ++ cs, ao', ab, t.rs R.rs (fun _ _ z => nomatch z), ?_, ?_, t.rp ro' (fun _ _ z => nomatch z), t.rp R.rb (fun _ _ z => nomatch z), ?_, ?_, R.kp, fun l b e => hm l b (R.pm l b e), R.gu, R.tb⟩
  · rw [List.map_append]
    exact (t.rp R.rm (fun _ _ z => nomatch z)).app (t.rp rd (fun _ _ z => nomatch z))
  · refine Rp.cons0 (.loc ?_ .nil) (t.rp0 R.ri)
    rw [← hl, List.getElem?_append_right (Nat.le_refl _)]
    simp
  · have e : wOf Γ ar (am ++ cs) ao' = wOf Γ ar am (cs ++ ao') := by simp [wOf, List.append_assoc]
    rw [e]
    exact nd
  · intro c hc
    have := fr c
    simp only [List.mem_append] at this hc
    grind
/-- an object's own thing is written: it may take over what is pending -/
theorem Rl.wrG {cs ao' : List Addr} {ov' : List V} {ox' : List AV} {l : Nat} (R : Rl K Γ σ H st p m ar am ao ab) (e : st.s[l]? = some z) (ro' : Rp K H (wOf Γ ar am ao) m ov' ox' ao') (eo : ao = cs ++ ao') : ∃ a b, m[l]? = some a ∧ Rp K H (wOf Γ ar am ao) m [.ref a] [z] b ∧ (b ++ cs).Nodup ∧
    ∀ {q : Addr} {o u : HO} {z' : AV} {b' : List Addr}, q ∈ b → H q = some u → mutO u = true → NoTbl o → (∀ c ∈ b', c ∈ b ∨ c ∈ cs) → b'.Nodup → (∀ {H' : Hp} {W' : List Addr}, Tr H H' (wOf Γ ar am ao) W' m m [q] → H' q = some o → Rp K H' W' m [.ref a] [z'] b') →
      Rel K Γ σ (upd H q o) ⟨st.r, st.s.set l z'⟩ { p.nob with ov := ov', ox := ox' } := by
  obtain ⟨v, a1, b, a2, ev, ea, r1, rv, r3⟩ := R.rm.at_ e
  rw [List.getElem?_map] at ev
  obtain ⟨a, em, rfl⟩ := Option.map_eq_some_iff.mp ev
  have nd := R.nd
  have fr := R.fr
  refine ⟨a, b, em, rv, ?_, ?_⟩
  · simp only [wOf, ea, eo, List.nodup_append, List.mem_append] at nd ⊢
    grind
  intro q o u z' b' hq hu hm no pm pnd hr
  have hqw : q ∈ wOf Γ ar am ao := by simp only [wOf, ea, List.mem_append]; grind
  have t : Tr H (upd H q o) (wOf Γ ar am ao) (wOf Γ ar (a1 ++ (b' ++ a2)) ao') m m [q] := Tr.put hu hm hqw fun c z => by
    have := pm c
    simp only [wOf, ea, eo, List.mem_append] at z ⊢
    grind
  have n0 : ∀ c ∈ ar, c ∉ [q] := fun c hc z => by
    simp only [wOf, ea, List.nodup_append, List.mem_append, List.mem_singleton] at nd z
    grind
  have n1 : ∀ c ∈ a1, c ∉ [q] := fun c hc z => by
    simp only [wOf, ea, List.nodup_append, List.mem_append, List.mem_singleton] at nd z
    grind
  have n2 : ∀ c ∈ a2, c ∉ [q] := fun c hc z => by
    simp only [wOf, ea, List.nodup_append, List.mem_append, List.mem_singleton] at nd z
    grind
  have n3 : ∀ c ∈ ao', c ∉ [q] := fun c hc z => by
    simp only [wOf, ea, eo, List.nodup_append, List.mem_append, List.mem_singleton] at nd z
    grind
  have hl : l < st.s.length := (List.getElem?_eq_some_iff.mp e).1
  have rm' : Rp K (upd H q o) (wOf Γ ar (a1 ++ (b' ++ a2)) ao') m (m.map V.ref) (st.s.set l z') (a1 ++ (b' ++ a2)) := by
    have h1 := Rp.put (v := .ref a) (x := z') hl (t.rp r1 n1) (hr t upd_same) (t.rp r3 n2) R.rm.len
    have e2 : (m.map V.ref).set l (.ref a) = m.map V.ref := by
      apply List.ext_getElem?
      intro j
      by_cases c : l = j
      · subst c
        rw [List.getElem?_set_self (by rw [R.rm.len]; exact hl), List.getElem?_map, em]
        rfl
      · rw [List.getElem?_set_ne c]
    rw [e2] at h1
    exact h1
  refine ⟨m, ar, a1 ++ (b' ++ a2), ao', [], t.rs R.rs n0, rm', t.rp0 R.ri, t.rp ro' n3, .nil, ?_, ?_, ?_, R.pm, R.gu, tabs_put R.tb hu hm no⟩
  · simp only [wOf, ea, eo, List.nodup_append, List.mem_append] at nd ⊢
    grind
  · intro c hc
    have h1 := fr c
    have h2 := pm c
    simp only [ea, eo, List.mem_append] at hc h1
    grind
  · intro a' o' e' n'
    obtain ⟨o2, e2, f2⟩ := R.kp a' o' e' n'
    have ne : a' ≠ q := by
      rintro rfl
      rcases fr a' (by simp only [ea, List.mem_append]; grind) with z | z
      · exact n' z
      · rw [e'] at z; cases z
    exact ⟨o2, by rw [upd_ne ne]; exact e2, f2⟩
/-! ### places: an object, or a field of it -/
def setFA : List Str → List AV → Str → AV → List AV
  | k :: ks, x :: xs, f, d => if k = f then d :: xs else x :: setFA ks xs f d
  | _, xs, _, _ => xs
theorem lensF {f : Str} : ∀ {fs : List (Str × V)} {ys : List AV} {bs : List Addr}, Rp K H W m (fs.map (·.2)) ys bs → getF (fs.map (·.1)) ys f = some x → ∃ u b1 b2 b3, fs.lookup f = some u ∧ bs = b1 ++ (b2 ++ b3) ∧ Rp K H W m [u] [x] b2 ∧
    ∀ {H' : Hp} {W' m' b2' : List Addr} {x' : AV}, (∀ {vs : List V} {xs : List AV} {as : List Addr}, Rp K H W m vs xs as → (∀ c ∈ as, c ∈ b1 ∨ c ∈ b3) → Rp K H' W' m' vs xs as) → Rp K H' W' m' [u] [x'] b2' → Rp K H' W' m' (fs.map (·.2)) (setFA (fs.map (·.1)) ys f x') (b1 ++ (b2' ++ b3))
  | [], ys, bs, r, e => by cases ys <;> cases e
  | (k', v) :: fs, [], bs, r, e => by cases e
  | (k', v) :: fs, z :: ys, bs, r, e => by
    obtain ⟨c1, c2, ea, r1, r2⟩ := Rp.head (show Rp K H W m (v :: fs.map (·.2)) (z :: ys) bs from r)
    have e2 : (if k' = f then some z else getF (fs.map (·.1)) ys f) = some x := e
    by_cases c : k' = f
    · rw [if_pos c] at e2
      cases e2
      refine ⟨v, [], c1, c2, ?_, by simpa using ea, r1, fun {H' W' m' b2' x'} tr rx => ?_⟩
      · rw [List.lookup_cons, c, beq_self_eq_true]
      · show Rp K H' W' m' (v :: fs.map (·.2)) (if k' = f then x' :: ys else _) ([] ++ (b2' ++ c2))
        rw [if_pos c]
        exact rx.cons (tr r2 fun c hc => .inr hc)
    · rw [if_neg c] at e2
      obtain ⟨u, b1, b2, b3, hl, eb, ru, g⟩ := lensF r2 e2
      refine ⟨u, c1 ++ b1, b2, b3, ?_, by rw [ea, eb, List.append_assoc], ru, fun {H' W' m' b2' x'} tr rx => ?_⟩
      · rw [List.lookup_cons, beq_eq_false_iff_ne.mpr (fun z => c z.symm)]
        exact hl
      · show Rp K H' W' m' (v :: fs.map (·.2)) (if k' = f then x' :: ys else z :: setFA (fs.map (·.1)) ys f x') ((c1 ++ b1) ++ (b2' ++ b3))
        rw [if_neg c, List.append_assoc]
        exact (tr r1 fun c hc => .inl (by simp [hc])).cons (g (fun q hq => tr q fun c hc => by
          have := hq c hc
          simp only [List.mem_append]
          grind) rx)
/-- a place -/
def getPl (S : List AV) (l : Nat) : Option (Str × Str) → Option AV
  | none => S[l]?
  | some (C, f) => ((S[l]?).bind insOf).bind fun t => if t.1 = C then getF t.2.1 t.2.2 f else none
def setPl (S : List AV) (l : Nat) (fo : Option (Str × Str)) (d : AV) : List AV := match fo with
  | none => S.set l d
  | some (_, f) => match (S[l]?).bind insOf with
    | some (C, ks, ys) => S.set l (.ins C ks (setFA ks ys f d))
    | none => S
/-- where a place stands -/
def AtPl (K : PySem.W.Frag) (H : Hp) (m : List Addr) (l : Nat) (a : Addr) : Option (Str × Str) → Prop
  | none => m[l]? = some a
  | some (C, f) => ∃ a0 dx fs, m[l]? = some a0 ∧ H a0 = some (.ins (He.ga K C) dx fs) ∧ fs.lookup f = some (.ref a)
theorem Rl.place {cs ao' : List Addr} {ov' : List V} {ox' : List AV} {l : Nat} {fo : Option (Str × Str)} (R : Rl K Γ σ H st p m ar am ao ab) (e : getPl st.s l fo = some z) (hz : ownA z = true) (ro' : Rp K H (wOf Γ ar am ao) m ov' ox' ao') (eo : ao = cs ++ ao') : ∃ a b, AtPl K H m l a fo ∧ Rp K H (wOf Γ ar am ao) m [.ref a] [z] b ∧ a ∈ b ∧ (b ++ cs).Nodup ∧
    ∀ {o u : HO} {z' : AV} {b' : List Addr}, H a = some u → mutO u = true → NoTbl o → (∀ c ∈ b', c ∈ b ∨ c ∈ cs) → b'.Nodup → (∀ {H' : Hp} {W' : List Addr}, Tr H H' (wOf Γ ar am ao) W' m m [a] → H' a = some o → Rp K H' W' m [.ref a] [z'] b') →
      Rel K Γ σ (upd H a o) ⟨st.r, setPl st.s l fo z'⟩ { p.nob with ov := ov', ox := ox' } := by
  cases fo with
  | none =>
    obtain ⟨a, b, em, rv, nd, f⟩ := R.wrG (cs := cs) (ao' := ao') e ro' eo
    obtain ⟨a', e', hin⟩ := own_ref rv hz
    cases e'
    exact ⟨a, b, em, rv, hin, nd, fun {o u z' b'} hu hm no pm pnd hr => f hin hu hm no pm pnd hr⟩
  | some cf =>
    obtain ⟨C, f⟩ := cf
    obtain ⟨⟨C', ks, ys⟩, e1, e2⟩ := Option.bind_eq_some_iff.mp e
    obtain ⟨t, et, ei⟩ := Option.bind_eq_some_iff.mp e1
    have e3 : (if C' = C then getF ks ys f else none) = some z := e2
    by_cases c : C' = C
    · subst c
      rw [if_pos rfl] at e3
      cases t with
      | ins C2 k2 y2 =>
        cases ei
        obtain ⟨a0, b0, em, rv, nd, g⟩ := R.wrG (cs := cs) (ao' := ao') et ro' eo
        cases rv with
        | @ins _ _ dx fs _ _ bs _ _ as0 hs ek q r0 =>
          obtain ⟨_, rfl⟩ := r0.nil_inv
          subst ek
          obtain ⟨u, b1, b2, b3, hl, eb, ru, gl⟩ := lensF q e3
          obtain ⟨a, rfl, hin⟩ := own_ref ru hz
          subst eb
          have ndb : (b1 ++ (b2 ++ b3)).Nodup ∧ a0 ∉ b1 ++ (b2 ++ b3) := by
            simp only [List.nodup_append, List.nodup_cons, List.mem_append, List.append_nil, List.cons_append] at nd ⊢
            grind
          refine ⟨a, b2, ⟨a0, dx, fs, em, hs, hl⟩, ru, hin, ?_, fun {o u z' b'} hu hm no pm pnd hr => ?_⟩
          · simp only [List.nodup_append, List.nodup_cons, List.mem_append, List.append_nil, List.cons_append] at nd ⊢
            grind
          · have es : setPl st.s l (some (C', f)) z' = st.s.set l (.ins C' (fs.map (·.1)) (setFA (fs.map (·.1)) ys f z')) := by
              unfold setPl
              rw [et]
              rfl
            rw [es]
            have na : a ≠ a0 := fun z => ndb.2 (by subst z; simp [hin])
            refine g (q := a) (b' := a0 :: (b1 ++ (b' ++ b3))) (by simp [hin]) hu hm no (fun c hc => ?_) ?_ (fun {H' W'} t hq => ?_)
            · have := pm c
              simp only [List.mem_cons, List.mem_append, List.append_nil] at hc ⊢
              grind
            · simp only [List.nodup_append, List.nodup_cons, List.mem_append, List.mem_cons, List.append_nil, List.cons_append] at nd pm pnd ⊢
              grind
            · have hs' : H' a0 = some (.ins (He.ga K C') dx fs) := t.k.keep a0 _ hs (by simp [Ne.symm na]) (fun ps z => by cases z)
              have q' := gl (H' := H') (W' := W') (m' := m) (x' := z') (fun rr hrr => t.rp rr fun c hc z => by
                have z1 : c = a := by simpa using z
                subst z1
                have z2 := hrr c hc
                have z3 := ndb.1
                simp only [List.nodup_append, List.mem_append] at z3
                grind) (hr t hq)
              have h1 := Rp.ins (K := K) (m := m) (W := W') (vs := []) (xs := []) (as := []) hs' rfl q' .nil
              simpa using h1
      | _ => cases ei
    · rw [if_neg c] at e3
      cases e3
end
end Fk
/-! ## stores at places -/
namespace Fk
open PySem PySem.Spec PyProof.Rows L2
/-- a thing with a value put at a place of it; w: the value is an owned one -/
def setZ : Bool → AV → AV → AV → Option AV
  | false, .lst true xs, y, d => (setIx xs y d).map (AV.lst true)
  | false, .dct true ks xs, y, d => (keyA y).bind fun k => if ks.length < 16777216 then some (.dct true (putKA ks xs k d).1 (putKA ks xs k d).2) else none
  | true, .nst xs, y, d => (setIx xs y d).map AV.nst
  | _, _, _, _ => none
def isD : AV → Bool
  | .dct _ _ _ => true
  | _ => false
theorem setZ_own {w : Bool} {z y d z' : AV} (h : setZ w z y d = some z') : ownA z = true := by
  unfold setZ at h
  split at h
  · rfl
  · rfl
  · rfl
  · cases h
section
variable {K : PySem.W.Frag} {H : Hp} {W m as : List Addr} {v vy : V} {x y d z z' : AV} {Γ : Gam} {σ : L2.St} {st : Ss} {p : Pd} {ar am ao ab : List Addr}
theorem setIx_inv {xs ys : List AV} (r : Rp K H W m [vy] [y] as) (h : setIx xs y d = some ys) : ∃ k j, vy = .int k ∧ ixN xs.length k = some j ∧ j < xs.length ∧ ys = xs.set j d := by
  obtain ⟨k, ek, h⟩ := Option.bind_eq_some_iff.mp h
  obtain ⟨j, ej, rfl⟩ := Option.map_eq_some_iff.mp h
  cases y with
  | int k' =>
    cases ek
    exact ⟨k, j, r.int_i, ej, (ixN_seq ej).2.1, rfl⟩
  | _ => cases ek
theorem Rl.store {cs ao' c1 : List Addr} {ov' : List V} {ox' : List AV} {l : Nat} {fo : Option (Str × Str)} {w : Bool} (R : Rl K Γ σ H st p m ar am ao ab) (e : getPl st.s l fo = some z) (rd : Rp K H (wOf Γ ar am ao) m [v] [d] cs) (hw : w = false → cs = []) (ro' : Rp K H (wOf Γ ar am ao) m ov' ox' ao') (eo : ao = cs ++ ao')
    (ry : Rp K H (wOf Γ ar am ao) m [vy] [y] c1) (es : setZ w z y d = some z') : ∃ a o, AtPl K H m l a fo ∧ Rel K Γ σ (upd H a o) ⟨st.r, setPl st.s l fo z'⟩ { p.nob with ov := ov', ox := ox' } ∧
      ((isD z = false ∧ ∃ us k j, vy = .int k ∧ H a = some (.lst us) ∧ ixN us.length k = some j ∧ o = .lst (us.set j v)) ∨ (isD z = true ∧ DPut H a vy v (upd H a o))) := by
  obtain ⟨a, b, hat, rz, hin, nd, f⟩ := R.place (cs := cs) (ao' := ao') e (setZ_own es) ro' eo
  unfold setZ at es
  split at es
  · obtain ⟨ys, e1, rfl⟩ := Option.map_eq_some_iff.mp es
    obtain ⟨k, j, rfl, ej, hj, rfl⟩ := setIx_inv ry e1
    obtain rfl := hw rfl
    cases rz with
    | @lsO _ us _ _ _ as0 hs q r0 =>
      obtain ⟨_, rfl⟩ := r0.nil_inv
      refine ⟨a, .lst (us.set j v), hat, f (b' := [a]) hs rfl (fun _ z => by cases z) (fun c hc => .inl hc) (by simp) (fun {H' W'} t h1 => ?_), .inl ⟨rfl, us, k, j, rfl, hs, by rw [q.len]; exact ej, rfl⟩⟩
      obtain ⟨xj, exj⟩ : ∃ xj, ‹List AV›[j]? = some xj := ⟨_, List.getElem?_eq_getElem hj⟩
      obtain ⟨u, b1, b2, b3, eu, ea', r1, r2, r3⟩ := q.at_ exj
      obtain ⟨z1, z2⟩ := List.append_eq_nil_iff.mp ea'.symm
      obtain ⟨z3, z4⟩ := List.append_eq_nil_iff.mp z2
      subst z1 z3 z4
      exact .lsO h1 (t.rp0 (Rp.put hj r1 rd r3 q.len)) .nil
  · rename_i ks xs
    obtain ⟨k, ek, e1⟩ := Option.bind_eq_some_iff.mp es
    split at e1
    · cases e1
      rename_i cz
      obtain rfl := hw rfl
      cases rz with
      | @dcO _ kvs _ _ _ _ as0 hs ek3 q r0 =>
        obtain ⟨_, rfl⟩ := r0.nil_inv
        subst ek3
        obtain ⟨p1, p2⟩ := putK_v (k := k) q rd
        refine ⟨a, .dK (putK kvs k v), hat, f (b' := [a]) hs rfl (fun _ z => by cases z) (fun c hc => .inl hc) (by simp) (fun {H' W'} t h1 => ?_), .inr ⟨rfl, ?_⟩⟩
        · exact .dcO h1 p1 (t.rp0 p2) .nil
        · rw [keyA_v ry ek]
          exact DPut.k hs (by rw [mx_eq]; simpa using cz)
    · cases e1
  · obtain ⟨ys, e1, rfl⟩ := Option.map_eq_some_iff.mp es
    obtain ⟨k, j, rfl, ej, hj, rfl⟩ := setIx_inv ry e1
    cases rz with
    | @nst _ us _ bs _ _ as0 hs q r0 =>
      obtain ⟨_, rfl⟩ := r0.nil_inv
      rw [List.append_nil] at nd hin f
      obtain ⟨xj, exj⟩ : ∃ xj, ‹List AV›[j]? = some xj := ⟨_, List.getElem?_eq_getElem hj⟩
      obtain ⟨u, b1, b2, b3, eu, ea', r1, r2, r3⟩ := q.at_ exj
      subst ea'
      refine ⟨a, .lst (us.set j v), hat, f (b' := a :: (b1 ++ (cs ++ b3))) hs rfl (fun _ z => by cases z) (fun c hc => ?_) ?_ (fun {H' W'} t h1 => ?_), .inl ⟨rfl, us, k, j, rfl, hs, by rw [q.len]; exact ej, rfl⟩⟩
      · simp only [List.mem_cons, List.mem_append] at hc ⊢
        grind
      · simp only [List.nodup_append, List.nodup_cons, List.mem_append, List.mem_cons, List.cons_append] at nd ⊢
        grind
      · have n1 : ∀ c ∈ b1, c ∉ [a] := fun c hc z => by
          simp only [List.nodup_append, List.nodup_cons, List.mem_append, List.mem_cons, List.cons_append, List.mem_singleton] at nd z
          grind
        have n2 : ∀ c ∈ b3, c ∉ [a] := fun c hc z => by
          simp only [List.nodup_append, List.nodup_cons, List.mem_append, List.mem_cons, List.cons_append, List.mem_singleton] at nd z
          grind
        have n3 : ∀ c ∈ cs, c ∉ [a] := fun c hc z => by
          simp only [List.nodup_append, List.nodup_cons, List.mem_append, List.mem_cons, List.cons_append, List.mem_singleton] at nd z
          grind
        have h2 := Rp.nst (K := K) (m := m) (W := W') (vs := []) (xs := []) (as := []) h1 (Rp.put hj (t.rp r1 n1) (t.rp rd n3) (t.rp r3 n2) q.len) .nil
        simpa using h2
  · cases es
end
/-- the place that an expression names: an object (fo none) or a field of one -/
def AtH (K : PySem.W.Frag) (H : Hp) (a0 a : Addr) : Option (Str × Str) → Prop
  | none => a = a0
  | some (C, f) => ∃ dx fs, H a0 = some (.ins (He.ga K C) dx fs) ∧ fs.lookup f = some (.ref a)
def rdB (K : PySem.W.Frag) (Γ : Gam) (mo : Ss → Option AV) (fo : Option (Str × Str)) : TE := fun σ H Q => ∃ st p l z, Rel K Γ σ H st p ∧ mo st = some (.loc l) ∧ getPl st.s l fo = some z ∧ ownA z = true ∧ ∀ a a0, Rel K Γ σ H st (p.lk (.ref a0) (.loc l)) → AtH K H a0 a fo → Q (.ref a) H
section
variable {X : Cx} {Γ : Gam} {W : WX} {σ : L2.St} {H : Hp} {st : Ss} {p : Pd} {K : PySem.W.Frag} {pos apos cpos : Pos} {o o' : Expr} {x : Str} {i : Nat} {C f : Str} {fs : List Str} {mo mk : Ss → Option AV}
theorem at_of {m : List Addr} {l : Nat} {a a' a0 : Addr} {fo : Option (Str × Str)} (h : AtH K H a0 a fo) (h2 : AtPl K H m l a' fo) (e : m[l]? = some a0) : a' = a := by
  cases fo with
  | none =>
    have e2 : m[l]? = some a' := h2
    rw [e] at e2
    cases e2
    exact h.symm
  | some cf =>
    obtain ⟨C, f⟩ := cf
    obtain ⟨dx, gs, h1, hl⟩ := h
    obtain ⟨b0, dx', gs', e2, h1', hl'⟩ := h2
    rw [e] at e2
    cases e2
    rw [h1] at h1'
    cases h1'
    rw [hl] at hl'
    cases hl'
    rfl
theorem s_b0 (h : PE X o (rdP X.K Γ mo)) : PE X o (rdB X.K Γ mo none) := by
  refine pe_imp h fun σ H Q h => ?_
  obtain ⟨st, p, l, z, R, e, _, _, h⟩ := h
  refine ⟨st, p, .loc l, R, e, fun v R1 => ?_⟩
  obtain ⟨m, ar, am, ao, ab, R2⟩ := id R1
  obtain ⟨c1, c2, _, rx, r2⟩ := R2.rb.head
  obtain ⟨a, rfl, em⟩ := rx.loc_i
  exact h a a R1 rfl
/-- place[y] = value -/
def sSetP (w : Bool) (fo : Option (Str × Str)) (mo mk : Ss → Option AV) (mv : M AV) : M Fl := fun st => (mv st).bind fun d s1 => match (mo s1).bind locOf with
  | some l => (match mk s1 with
    | some y => (match (getPl s1.s l fo).bind fun z => setZ w z y d with
      | some z' => .ok .nx ⟨s1.r, setPl s1.s l fo z'⟩
      | none => .bad)
    | none => .bad)
  | none => .bad
def rdW (w : Bool) (K : PySem.W.Frag) (Γ : Gam) (W : WX) (m : M AV) : TE := match w with
  | false => rdE K Γ W m
  | true => rdO K Γ W m
theorem s_setP {w : Bool} {fo : Option (Str × Str)} {ek ev : Expr} {mv : M AV} {pos' : Pos} (hu : X.A.units + 1 < cLine) (ho : PE X o (rdB X.K Γ mo fo)) (hk : PE X ek (rdP X.K Γ mk)) (hv : PE X ev (rdW w X.K Γ W mv))
    (hsw : swapsWith ev (some (.Subscript o ek pos')) pos.line X.env = pure false := by rfl)
    (hs1 : swapsWithSole [.Subscript o ek pos'] ev pos.line X.env = pure false := by rfl) (hw1 : swappedStores [.Subscript o ek pos'] ev X.env = pure none := by rfl)
    (ha : ∀ v, assign (.Subscript o ek pos') X.env v = (do
      let ov ← holding [v] (eval o X.env)
      let iv ← holding [v, ov] (eval ek X.env)
      standAt pos'
      holding [v, ov, iv] (setItem ov iv v)
      release [v, ov, iv] []) := by intro _; rfl) : PS X (.Assign [.Subscript o ek pos'] ev pos) (rdS X.K Γ W (sSetP w fo mo mk mv)) := by
  have h1 : PS X (.Assign [.Subscript o ek pos'] ev pos) (tAsg (rdW w X.K Γ W mv) (gSub (rdB X.K Γ mo fo) (rdP X.K Γ mk) rSetL)) := ps_asg hv (pg_sub ho hk set_list ha) hs1 hw1
  have h2 : PS X (.Assign [.Subscript o ek pos'] ev pos) (sDPut (rdB X.K Γ mo fo) (rdP X.K Γ mk) (rdW w X.K Γ W mv)) := ps_dput hu ho hk hv hsw
  refine ps_imp (ps_or h1 h2) fun D σ H h => ?_
  obtain ⟨st, p, R, hp, h⟩ := h
  unfold sSetP at h
  have main : ∀ (k : V → V → V → Hp → Prop), (∀ d s1 l y z z', mv st = .ok d s1 → mo s1 = some (.loc l) → mk s1 = some y → getPl s1.s l fo = some z → setZ w z y d = some z' → ∀ v a vy H1 o, Rel X.K Γ σ (upd H1 a o) ⟨s1.r, setPl s1.s l fo z'⟩ p →
        ((isD z = false ∧ ∃ us k j, vy = .int k ∧ H1 a = some (.lst us) ∧ ixN us.length k = some j ∧ o = .lst (us.set j v)) ∨ (isD z = true ∧ DPut H1 a vy v (upd H1 a o))) → k v (.ref a) vy H1) →
      rdW w X.K Γ W mv σ H fun v H1 => rdB X.K Γ mo fo σ H1 fun o H2 => rdP X.K Γ mk σ H2 fun y H3 => k v o y H3 := by
    intro k hk'
    have fin : ∀ d s1, mv st = .ok d s1 → ∀ v H1 (p1 : Pd), Rel X.K Γ σ H1 s1 p1 → (∀ {m ar am ao ab}, Rl X.K Γ σ H1 s1 p1 m ar am ao ab → ∃ cs ao' ov' ox', Rp X.K H1 (wOf Γ ar am ao) m [v] [d] cs ∧ (w = false → cs = []) ∧ Rp X.K H1 (wOf Γ ar am ao) m ov' ox' ao' ∧ ao = cs ++ ao' ∧ ∃ p2, Rl X.K Γ σ H1 s1 p2 m ar am ao [] ∧ { p2.nob with ov := ov', ox := ox' } = p) →
        rdB X.K Γ mo fo σ H1 fun o H2 => rdP X.K Γ mk σ H2 fun y H3 => k v o y H3 := by
      intro d s1 ea v H1 p1 R1 hR
      rw [ea] at h
      simp only [Res.bind_ok] at h
      cases el : (mo s1).bind locOf with
      | none => simp only [el] at h
      | some l =>
        simp only [el] at h
        cases ek' : mk s1 with
        | none => simp only [ek'] at h
        | some y =>
          simp only [ek'] at h
          cases ez : (getPl s1.s l fo).bind fun z => setZ w z y d with
          | none => simp only [ez] at h
          | some z' =>
            obtain ⟨z, e1, e2⟩ := Option.bind_eq_some_iff.mp ez
            obtain ⟨x, ex, exl⟩ := Option.bind_eq_some_iff.mp el
            have exl' : x = .loc l := by
              cases x with
              | loc l' => cases exl; rfl
              | _ => cases exl
            subst exl'
            refine ⟨s1, p1, l, z, R1, ex, e1, setZ_own e2, fun a a0 R2 hat => ⟨s1, _, y, R2, ek', fun vy R3 => ?_⟩⟩
            obtain ⟨m, ar, am, ao, ab, R4⟩ := R3
            obtain ⟨c1, c2, _, ry, r2⟩ := R4.rb.head
            obtain ⟨c3, c4, _, r0, r3⟩ := r2.head
            obtain ⟨a0', ea0, em⟩ := r0.loc_i
            cases ea0
            obtain ⟨cs, ao', ov', ox', rd, hcs, ro', eo, p2, R5, hp2⟩ := hR (ab := c4) (R4.setB r3)
            obtain ⟨a', o, hat', R6, hh⟩ := R5.store e1 rd hcs ro' eo ry e2
            obtain rfl := at_of hat hat' em
            rw [hp2] at R6
            exact hk' d s1 l y z z' ea ex ek' e1 e2 v a' vy H1 o R6 hh
    cases w with
    | false =>
      refine ⟨st, p, R, ?_⟩
      cases ea : mv st with
      | bad => rw [ea] at h; exact h
      | err c s1 => rw [ea] at h; exact fun H' R' => h σ H' (hp ▸ R')
      | ok d s1 =>
        intro v H1 R1
        refine fin d s1 ea v H1 _ R1 fun {m ar am ao ab} R2 => ⟨[], ao, p.ov, p.ox, R2.ri.head0.1, fun _ => rfl, R2.ro, rfl, p, ?_, ?_⟩
        · exact hp ▸ (R2.nob.setI (p := (p.nob.sh v d).nob) R2.ri.head0.2)
        · rw [hp]
    | true =>
      refine ⟨st, p, R, ?_⟩
      cases ea : mv st with
      | bad => rw [ea] at h; exact h
      | err c s1 => rw [ea] at h; exact fun H' R' => h σ H' (hp ▸ R')
      | ok d s1 =>
        intro v H1 R1
        refine fin d s1 ea v H1 _ R1 fun {m ar am ao ab} R2 => ?_
        obtain ⟨cs, ao', eo, rd, ro'⟩ := R2.ro.head
        exact ⟨cs, ao', p.ov, p.ox, rd, fun z => (nomatch z), ro', eo, _, R2.nob, hp⟩
  cases ea : mv st with
  | bad => rw [ea] at h; exact h.elim
  | err c s1 =>
    refine .inl (main _ fun d s1 l y z z' e1 => ?_)
    rw [ea] at e1; cases e1
  | ok d s1 =>
    rw [ea] at h
    simp only [Res.bind_ok] at h
    cases el : (mo s1).bind locOf with
    | none => simp only [el] at h
    | some l =>
      simp only [el] at h
      cases ek' : mk s1 with
      | none => simp only [ek'] at h
      | some y =>
        simp only [ek'] at h
        cases ez : (getPl s1.s l fo).bind fun z => setZ w z y d with
        | none => simp only [ez] at h
        | some z' =>
          simp only [ez] at h
          obtain ⟨z, e1, e2⟩ := Option.bind_eq_some_iff.mp ez
          obtain ⟨x, ex, exl⟩ := Option.bind_eq_some_iff.mp el
          have exl' : x = .loc l := by
            cases x with
            | loc l' => cases exl; rfl
            | _ => cases exl
          subst exl'
          cases hD : isD z with
          | false =>
            refine .inl (main _ fun d' s1' l' y' z2 z2' c1 c2 c3 c4 c5 v a vy H1 o R6 hh => ?_)
            rw [ea] at c1; cases c1
            rw [ex] at c2; cases c2
            rw [ek'] at c3; cases c3
            rw [e1] at c4; cases c4
            rw [e2] at c5; cases c5
            rcases hh with ⟨_, us, k, j, rfl, hs, hj, rfl⟩ | ⟨hq, _⟩
            · exact ⟨a, us, k, j, rfl, rfl, hs, hj, h σ _ R6⟩
            · rw [hD] at hq; cases hq
          | true =>
            refine .inr (main (fun v o y H3 => ∃ a H4, o = .ref a ∧ DPut H3 a y v H4 ∧ D.nx σ H4) fun d' s1' l' y' z2 z2' c1 c2 c3 c4 c5 v a vy H1 o R6 hh => ?_)
            rw [ea] at c1; cases c1
            rw [ex] at c2; cases c2
            rw [ek'] at c3; cases c3
            rw [e1] at c4; cases c4
            rw [e2] at c5; cases c5
            rcases hh with ⟨hq, _⟩ | ⟨_, hq⟩
            · rw [hD] at hq; cases hq
            · exact ⟨a, _, rfl, hq, h σ _ R6⟩
end
end Fk
/-! ## augmented stores, methods, making, several names at once -/
namespace Fk
open PySem PySem.Spec PyProof.Rows L2
section
variable {X : Cx} {Γ : Gam} {W : WX} {σ : L2.St} {H : Hp} {st : Ss} {p : Pd} {K : PySem.W.Frag} {pos apos cpos : Pos} {o o' e : Expr} {es : List Expr} {x : Str} {i : Nat} {C f : Str} {fs : List Str} {mo mk : Ss → Option AV}
/-! ### name += e -/
def sAug (i : Nat) (m : M AV) : M Fl := fun st => match getSl st.r i with
  | .im (.int a) => (m st).bind fun d s1 => match d with
    | .int b => .ok .nx ⟨setSl s1.r i (.im (.int (a + b))), s1.s⟩
    | _ => .bad
  | _ => .bad
/-! ### e.f += v -/
def sFAug (C f : Str) (mo mv : M AV) : M Fl := fun st => (mo st).bind fun x s1 => match fldA s1.s C f x with
  | some (.int a) => (mv s1).bind fun d s2 => match d with
    | .int b => (match putFld C f x (.int (a + b)) s2 with
      | some s3 => .ok .nx s3
      | none => .bad)
    | _ => .bad
  | _ => .bad
def augZ (z y d : AV) : Option AV := match z, y, d with
  | .lst true xs, .int k, .int b => (match atI xs k with
    | some (.int a) => setZ false (.lst true xs) (.int k) (.int (a + b))
    | _ => none)
  | _, _, _ => none
def sAugP (fo : Option (Str × Str)) (mo mk me : Ss → Option AV) : M Fl := fun s1 => match (mo s1).bind locOf with
  | some l => (match mk s1, me s1 with
    | some y, some d => (match (getPl s1.s l fo).bind fun z => augZ z y d with
      | some z' => .ok .nx ⟨s1.r, setPl s1.s l fo z'⟩
      | none => .bad)
    | _, _ => .bad)
  | none => .bad
/-! .. of a builder -/
def sAugB (i : Nat) (mk me : Ss → Option AV) : M Fl := fun s1 => match ownL (getSl s1.r i) with
  | some xs => (match mk s1, me s1 with
    | some y, some d => (match augZ (.lst true xs) y d with
      | some (.lst _ ys) => .ok .nx (putL i ys s1)
      | _ => .bad)
    | _, _ => .bad)
  | none => .bad
end
end Fk
/-! ## methods, making, several names at once -/
namespace Fk
open PySem PySem.Spec PyProof.Rows L2
/-! ### an owned value becomes an object -/
def eProm (m : M AV) : M AV := fun st => (m st).bind fun d s1 => bif ownA d then .ok (.loc s1.s.length) ⟨s1.r, s1.s ++ [d]⟩ else .bad
def clsOk (S : List AV) (C nm : Str) (x : AV) : Bool := match (deref S x).bind insOf with
  | some (C', ks, _) => decide (C' = C) && !(ks.any fun k => decide (k = nm))
  | none => false
def eMeth (C nm : Str) (n : Nat) (f : Fn) (ds : List AV) (mo : M AV) (ma : M (List AV)) : M AV := fun st => (mo st).bind fun x s1 => bif clsOk s1.s C nm x then (ma s1).bind fun xs s2 => if 1 + (xs.length + ds.length) = n then back s2.r (f (x :: (xs ++ ds)) s2.s) else .bad else .bad
def mkBack (r : List Sl) (l : Nat) : Res AV (List AV) → Res AV Ss
  | .ok .non S => .ok (.loc l) ⟨r, S⟩
  | .err c S => .err c ⟨r, S⟩
  | _ => .bad
def eMake (C : Str) (n : Nat) (f : Fn) (ds : List AV) (ma : M (List AV)) : M AV := fun st => (ma st).bind fun xs s1 => if 1 + (xs.length + ds.length) = n then mkBack s1.r s1.s.length (f (.loc s1.s.length :: (xs ++ ds)) (s1.s ++ [.ins C [] []])) else .bad
section
variable {X : Cx} {Γ : Gam} {W : WX} {σ : L2.St} {H : Hp} {st : Ss} {p : Pd} {K : PySem.W.Frag} {pos apos cpos q : Pos} {o e : Expr} {es : List Expr} {x : Str} {i k j : Nat} {C nm : Str} {fs : List Str} {ps : List Str} {ds : List AV} {f : Fn} {mo : M AV} {ma : M (List AV)}
theorem s_prom {m : M AV} (h : PE X e (rdO X.K Γ W m)) : PE X e (rdE X.K Γ W (eProm m)) := by
  refine pe_imp h fun σ H Q h => ?_
  obtain ⟨st, p, R, h⟩ := h
  refine ⟨st, p, R, ?_⟩
  unfold eProm at h
  cases ea : m st with
  | bad => rw [ea] at h; exact h
  | err c s1 => rw [ea] at h; exact h
  | ok d s1 =>
    rw [ea] at h
    simp only [Res.bind_ok] at h
    intro v H1 R1
    cases eo : ownA d with
    | false => simp only [eo, cond_false] at h
    | true =>
      simp only [eo, cond_true] at h
      exact h v H1 (R1.prom eo)
end
end Fk
/-! ## lists of owned lists, several names at once, more calls -/
namespace Fk
open PySem PySem.Spec PyProof.Rows L2
def eLn (m : M (List AV)) : M AV := fun st => (m st).bind fun xs s1 => .ok (.nst xs) s1
section
variable {X : Cx} {Γ : Gam} {W : WX} {σ : L2.St} {H : Hp} {st : Ss} {p : Pd} {K : PySem.W.Frag} {pos : Pos}
/-! ### several names at once -/
abbrev Pd.psh (p : Pd) (s : Sl) (v : V) : Pd := match s with
  | .im d => p.sh v d
  | .ow d => p.own v d
  | .no => p
def rdX (K : PySem.W.Frag) (Γ : Gam) (W : WX) (m : M Sl) : TE := fun σ H Q => ∃ st p, Rel K Γ σ H st p ∧ match m st with
  | .ok (.im d) st' => ∀ v H', Rel K Γ σ H' st' (p.nob.sh v d) → Q v H'
  | .ok (.ow d) st' => ∀ v H', Rel K Γ σ H' st' (p.nob.own v d) → Q v H'
  | .ok .no _ => False
  | .err c st' => ∀ H', Rel K Γ σ H' st' p.nob → W (.ref (He.ga K c)) none σ H'
  | .bad => False
def xI (m : M AV) : M Sl := fun st => (m st).bind fun d s1 => .ok (.im d) s1
def xO (m : M AV) : M Sl := fun st => (m st).bind fun d s1 => .ok (.ow d) s1
theorem s_xI {e : Expr} {m : M AV} (h : PE X e (rdE X.K Γ W m)) : PE X e (rdX X.K Γ W (xI m)) := by
  refine pe_imp h fun σ H Q h => ?_
  obtain ⟨st, p, R, h⟩ := h
  refine ⟨st, p, R, ?_⟩
  unfold xI at h
  cases ea : m st with
  | bad => rw [ea] at h; exact h
  | err c s1 => rw [ea] at h; exact h
  | ok d s1 => rw [ea] at h; exact h
theorem s_xO {e : Expr} {m : M AV} (h : PE X e (rdO X.K Γ W m)) : PE X e (rdX X.K Γ W (xO m)) := by
  refine pe_imp h fun σ H Q h => ?_
  obtain ⟨st, p, R, h⟩ := h
  refine ⟨st, p, R, ?_⟩
  unfold xO at h
  cases ea : m st with
  | bad => rw [ea] at h; exact h
  | err c s1 => rw [ea] at h; exact h
  | ok d s1 => rw [ea] at h; exact h
theorem Rel.dropO {v : V} {d : AV} (R : Rel K Γ σ H st (p.own v d)) : Rel K Γ σ H st p := by
  obtain ⟨m, ar, am, ao, ab, R⟩ := R
  obtain ⟨b, ao', eo, r1, r2⟩ := R.ro.head
  subst eo
  have nd := R.nd
  have fr := R.fr
  have hw : ∀ c, c ∈ wOf Γ ar am ao' → c ∈ wOf Γ ar am (b ++ ao') := fun c z => by
    simp only [wOf, List.mem_append] at z ⊢
    grind
  have t : Tr H H (wOf Γ ar am (b ++ ao')) (wOf Γ ar am ao') m m [] := Tr.same hw
  refine ⟨m, ar, am, ao', ab, t.rs R.rs (fun _ _ z => nomatch z), t.rp R.rm (fun _ _ z => nomatch z), t.rp0 R.ri, t.rp r2 (fun _ _ z => nomatch z), t.rp R.rb (fun _ _ z => nomatch z), ?_, ?_, R.kp, R.pm, R.gu, R.tb⟩
  · simp only [wOf, List.nodup_append, List.mem_append] at nd ⊢
    grind
  · intro a ha
    have z := fr a
    simp only [List.mem_append] at z ha
    grind
theorem Rel.dropX {v : V} {s : Sl} (R : Rel K Γ σ H st (p.psh s v)) : Rel K Γ σ H st p := by
  cases s with
  | no => exact R
  | im d => exact R.drop
  | ow d => exact R.dropO
def isNo : Sl → Bool
  | .no => true
  | _ => false
theorem Rel.putX {v : V} {s : Sl} {i : Nat} (R : Rel K Γ σ H st (p.psh s v)) (hs : isNo s = false) (hi : i < st.r.length) : Rel K Γ (σ.set i (some v)) H ⟨setSl st.r i s, st.s⟩ p := by
  cases s with
  | no => cases hs
  | im d => exact R.put i
  | ow d => exact R.putO i hi
theorem rdX_in {ma : M Sl} {Q : VK} {R : Rel K Γ σ H st p} (h : match ma st with
  | .ok s st' => isNo s = false ∧ ∀ v H', Rel K Γ σ H' st' (p.nob.psh s v) → Q v H'
  | .err c st' => ∀ H', Rel K Γ σ H' st' p.nob → W (.ref (He.ga K c)) none σ H'
  | .bad => False) : rdX K Γ W ma σ H Q := by
  refine ⟨st, p, R, ?_⟩
  cases ea : ma st with
  | bad => rw [ea] at h; exact h
  | err c s1 => rw [ea] at h; exact h
  | ok s s1 =>
    rw [ea] at h
    cases s with
    | no => cases h.1
    | im d => exact h.2
    | ow d => exact h.2
/-- a, b = x, y -/
def sPar (i j : Nat) (ma mb : M Sl) : M Fl := fun st => (ma st).bind fun x s1 => bif isNo x then .bad else (mb s1).bind fun y s2 => bif isNo y then .bad else if i < s2.r.length ∧ j < s2.r.length then .ok .nx ⟨setSl (setSl s2.r j y) i x, s2.s⟩ else .bad
theorem s_par {i j : Nat} {x y : Str} {a b : Expr} {ma mb : M Sl} {px py pt : Pos} {kt k2 pt2} (hc : X.calm = true) (hN : X.N.Nodup) (hi : X.N[i]? = some x) (hj : X.N[j]? = some y) (hij : i ≠ j)
    (hx : X.env.scope.names.lookup x = some .local) (hy : X.env.scope.names.lookup y = some .local) (ha : PE X a (rdX X.K Γ W ma)) (hb : PE X b (rdX X.K Γ W mb))
    (hw : swappedStores [.Tuple [.Name x px, .Name y py] kt pt] (.Tuple [a, b] k2 pt2) X.env = pure (some [x, y]))
    (hs : swapsWithSole [.Tuple [.Name x px, .Name y py] kt pt] (.Tuple [a, b] k2 pt2) pos.line X.env = pure false := by rfl)
    (hs1 : starEach [a, b] X.env = (false, eval a X.env) :: starEach [b] X.env := by rfl) (hs2 : starEach [b] X.env = (false, eval b X.env) :: starEach [] X.env := by rfl) :
    PS X (.Assign [.Tuple [.Name x px, .Name y py] kt pt] (.Tuple [a, b] k2 pt2) pos) (rdS X.K Γ W (sPar i j ma mb)) := by
  refine ps_imp (ps_par hc hN hi hj hij hx hy (pa_cons ha (pa_cons hb pa_nil hs2) hs1) hw hs) fun D σ H h => ?_
  obtain ⟨st, p, R, hp, h⟩ := h
  unfold sPar at h
  refine rdX_in (R := R) ?_
  cases ea : ma st with
  | bad => rw [ea] at h; exact h
  | err c s1 => rw [ea] at h; exact fun H' R' => h σ H' (hp ▸ R')
  | ok s s1 =>
    rw [ea] at h
    simp only [Res.bind_ok] at h
    cases n1 : isNo s with
    | true => simp only [n1, cond_true] at h
    | false =>
      simp only [n1, cond_false] at h
      refine ⟨n1, fun v H1 R1 => rdX_in (R := R1) ?_⟩
      have en : (p.nob.psh s v).nob = p.psh s v := by cases s <;> rw [hp] <;> exact congrArg (fun z : Pd => z) (by first | (show Pd.nob (Pd.sh p v _) = Pd.sh p v _; rw [← hp]) | (show Pd.nob (Pd.own p v _) = Pd.own p v _; rw [← hp]) | exact hp)
      cases eb : mb s1 with
      | bad => rw [eb] at h; exact h
      | err c s2 => rw [eb] at h; exact fun H' R' => h σ H' (Rel.dropX (s := s) (v := v) (en ▸ R'))
      | ok t s2 =>
        rw [eb] at h
        simp only [Res.bind_ok] at h
        cases n2 : isNo t with
        | true => simp only [n2, cond_true] at h
        | false =>
          simp only [n2, cond_false] at h
          refine ⟨n2, fun w' H2 R2 => ⟨v, w', rfl, ?_⟩⟩
          by_cases c : i < s2.r.length ∧ j < s2.r.length
          · rw [if_pos c] at h
            rw [en] at R2
            have R3 := R2.putX n2 c.2
            have R4 := R3.putX (i := i) n1 (by rw [setSl_len]; exact c.1)
            rw [List.set_comm _ _ (Ne.symm hij)] at R4
            exact h _ H2 R4
          · rw [if_neg c] at h
            exact h.elim
/-- a, b, c = x, y, z -/
def sPar3 (i j l : Nat) (ma mb mc : M Sl) : M Fl := fun st => (ma st).bind fun x s1 => bif isNo x then .bad else (mb s1).bind fun y s2 => bif isNo y then .bad else (mc s2).bind fun z s3 => bif isNo z then .bad else if i < s3.r.length ∧ j < s3.r.length ∧ l < s3.r.length then .ok .nx ⟨setSl (setSl (setSl s3.r l z) j y) i x, s3.s⟩ else .bad
/-! ### target = value, by unpacking -/
def sAsgG (t : Tg) (m : M AV) : M Fl := fun st => (m st).bind fun d s1 => match t d s1 with
  | some s2 => .ok .nx s2
  | none => .bad
theorem s_asgG {tg e : Expr} {ns : List Nat} {t : Tg} {m : M AV} (he : PE X e (rdE X.K Γ W m)) (hg : PG X tg (rdG X.K Γ ns t)) (hs : swapsWithSole [tg] e pos.line X.env = pure false := by rfl) (hw : swappedStores [tg] e X.env = pure none := by rfl)
    (h1 : (assignEach [tg] X.env).map (·.2) = [assign tg X.env] := by rfl) : PS X (.Assign [tg] e pos) (rdS X.K Γ W (sAsgG t m)) := by
  refine ps_imp (ps_asg he hg hs hw h1) fun D σ H h => ?_
  obtain ⟨st, p, R, hp, h⟩ := h
  refine ⟨st, p, R, ?_⟩
  unfold sAsgG at h
  cases ea : m st with
  | bad => rw [ea] at h; exact h
  | err c s1 => rw [ea] at h; exact fun H' R' => h σ H' (hp ▸ R')
  | ok d s1 =>
    rw [ea] at h
    simp only [Res.bind_ok] at h
    intro v H1 R1
    cases et : t d s1 with
    | none => simp only [et] at h
    | some s2 =>
      simp only [et] at h
      exact ⟨s1, p, d, s2, nob_sh hp ▸ R1, et, fun σ' H' _ R' => h σ' H' R'⟩
end
end Fk
/-! ## zip, enumerate, dicts, isinstance of own classes -/
namespace Fk
open PySem PySem.Spec PyProof.Rows L2
def enuL (n : Nat) : List AV → List AV
  | [] => []
  | x :: xs => .tup [.int n, x] :: enuL (n + 1) xs
def enuA : List AV → Option (List AV)
  | [.lst _ xs] => some (enuL 0 xs)
  | [.tup xs] => some (enuL 0 xs)
  | _ => none
theorem enuL_get {d : AV} : ∀ {xs : List AV} {i n : Nat}, (enuL n xs)[i]? = some d → ∃ x, xs[i]? = some x ∧ d = .tup [.int ((n + i : Nat) : Int), x]
  | [], i, n, h => by cases i <;> cases h
  | x :: xs, 0, n, h => by cases h; exact ⟨x, rfl, rfl⟩
  | x :: xs, i + 1, n, h => by
    obtain ⟨y, h1, h2⟩ := enuL_get (xs := xs) (i := i) (n := n + 1) h
    exact ⟨y, h1, by rw [h2]; congr 4; omega⟩
theorem enuL_len : ∀ (xs : List AV) (n : Nat), (enuL n xs).length = xs.length
  | [], _ => rfl
  | _ :: xs, n => by
    show (enuL (n + 1) xs).length + 1 = xs.length + 1
    rw [enuL_len]
section
variable {X : Cx} {Γ : Gam} {W : WX} {σ : L2.St} {H : Hp} {st : Ss} {p : Pd} {K : PySem.W.Frag} {pos q : Pos} {e e2 : Expr} {ma : M (List AV)} {kk : Nat} {elts : List Expr} {tpos : Pos}
theorem s_enum (hg : Gl X "enumerate") (hm : X.mg "enumerate" = none) (ha : PA X [e] (rdA X.K Γ W ma)) (hs : starEach [e] X.env = [(false, eval e X.env)] := by rfl) :
    PI X (.Tuple elts kk tpos) (.Call (.Name "enumerate" q) [e] [] pos) (rdI X.K Γ W (iArg enuA ma)) := by
  refine pi_imp (pi_enumA hg hm ha hs) fun σ H R h => ?_
  obtain ⟨st, p, R0, h⟩ := h
  unfold iArg at h
  cases ea : ma st with
  | bad => rw [ea] at h; exact h.elim
  | err c s1 => rw [ea] at h; exact .inl ⟨st, p, R0, by rw [ea]; exact h⟩
  | ok xs s1 =>
    rw [ea] at h
    simp only [Res.bind_ok] at h
    cases e : enuA xs with
    | none => rw [e] at h; exact h.elim
    | some ds =>
      rw [e] at h
      unfold enuA at e
      split at e
      · rename_i o1 xs
        cases e
        refine .inl ⟨st, p, R0, ?_⟩
        rw [ea]
        intro vs H1 hl R1
        obtain ⟨m, ar, am, ao, ab, R2, r⟩ := Rel.args (p := p.nob) hl R1
        obtain ⟨v, rfl, r1⟩ := r.one
        obtain ⟨a, us, rfl, hs1, q1⟩ := r1.lst_i
        refine ⟨a, us, rfl, SqL.of hs1, h (Ite X.K a) H1 [.ref a] [(.lst o1 xs)] rfl R1 ⟨fun i d σ H st ov ox e R3 => ?_, fun σ H st ov ox R3 => ?_⟩⟩
        · obtain ⟨m3, ar3, am3, ao3, ab3, R4⟩ := id R3
          have q3 : Rp X.K H (wOf Γ ar3 am3 ao3) m3 (.ref a :: p.iv) (.lst o1 xs :: p.ix) [] := R4.ri
          obtain ⟨a', us3, e3, hs3, p3⟩ := q3.head0.1.lst_i
          cases e3
          obtain ⟨x, ex, rfl⟩ := enuL_get e
          obtain ⟨u, eu, ru⟩ := p3.get0 ex
          refine ⟨⟨us3, u, SqL.of hs3, eu⟩, fun z H' yl => ?_⟩
          obtain ⟨T, x2, rfl, hT, rfl, f1⟩ := yl
          have z1 := f1 us3 (SqL.of hs3)
          rw [eu] at z1
          cases z1
          rw [Nat.zero_add]
          exact (R4.tup hT (.int ru)).rel
        · obtain ⟨m3, ar3, am3, ao3, ab3, R4⟩ := id R3
          have q3 : Rp X.K H (wOf Γ ar3 am3 ao3) m3 (.ref a :: p.iv) (.lst o1 xs :: p.ix) [] := R4.ri
          obtain ⟨a', us3, e3, hs3, p3⟩ := q3.head0.1.lst_i
          cases e3
          exact ⟨us3, SqL.of hs3, by rw [p3.len, enuL_len]; exact Nat.le_refl _⟩
      · rename_i xs
        cases e
        refine .inr ⟨st, p, R0, ?_⟩
        rw [ea]
        intro vs H1 hl R1
        obtain ⟨m, ar, am, ao, ab, R2, r⟩ := Rel.args (p := p.nob) hl R1
        obtain ⟨v, rfl, r1⟩ := r.one
        obtain ⟨a, us, rfl, hs1, q1⟩ := r1.tup_i
        refine ⟨a, us, rfl, hs1, h (IteT X.K a) H1 [.ref a] [(.tup xs)] rfl R1 ⟨fun i d σ H st ov ox e R3 => ?_, fun σ H st ov ox R3 => ?_⟩⟩
        · obtain ⟨m3, ar3, am3, ao3, ab3, R4⟩ := id R3
          have q3 : Rp X.K H (wOf Γ ar3 am3 ao3) m3 (.ref a :: p.iv) (.tup xs :: p.ix) [] := R4.ri
          obtain ⟨a', us3, e3, hs3, p3⟩ := q3.head0.1.tup_i
          cases e3
          obtain ⟨x, ex, rfl⟩ := enuL_get e
          obtain ⟨u, eu, ru⟩ := p3.get0 ex
          refine ⟨⟨us3, u, hs3, eu⟩, fun z H' yl => ?_⟩
          obtain ⟨T, x2, rfl, hT, rfl, f1⟩ := yl
          have z1 := f1 us3 hs3
          rw [eu] at z1
          cases z1
          rw [Nat.zero_add]
          exact (R4.tup hT (.int ru)).rel
        · obtain ⟨m3, ar3, am3, ao3, ab3, R4⟩ := id R3
          have q3 : Rp X.K H (wOf Γ ar3 am3 ao3) m3 (.ref a :: p.iv) (.tup xs :: p.ix) [] := R4.ri
          obtain ⟨a', us3, e3, hs3, p3⟩ := q3.head0.1.tup_i
          cases e3
          exact ⟨us3, hs3, by rw [p3.len, enuL_len]; exact Nat.le_refl _⟩
      · cases e
/-! ### dicts -/
def eDnew : M AV := fun st => .ok (.dct true [] []) st
theorem s_dnew : PE X (.Dict [] [] pos) (rdO X.K Γ W eDnew) := by
  refine pe_imp pe_dnewK fun σ H Q h => ?_
  obtain ⟨st, p, R, h⟩ := h
  intro a ha
  obtain ⟨m, ar, am, ao, ab, R⟩ := R
  exact h _ _ (R.nob.newO ha fun t h1 => .dcO (kvs := []) h1 rfl .nil .nil).rel
/-- d.get(k, x), looked at -/
def getD' (S : List AV) (x k d : AV) : Option AV := ((deref S x).bind dicA).bind fun t => (keyA k).bind fun k => some ((getK t.1 t.2 k).getD d)
def pGet (a b c : Ss → Option AV) : Ss → Option AV := fun st => (a st).bind fun x => (b st).bind fun k => (c st).bind fun d => getD' st.s x k d
end
end Fk
/-! ## isinstance of own classes -/
namespace Fk
open PySem PySem.Spec PyProof.Rows L2
def clsA (S : List AV) (x : AV) : Option Str := ((deref S x).bind insOf).map (·.1)
def eIsC (C : Str) (Ds : List Str) (m : M AV) : M AV := fun st => (m st).bind fun x s1 => bif okT x then .ok (.bl false) s1 else match clsA s1.s x with
  | some D => if D = C then .ok (.bl true) s1 else if D ∈ Ds then .ok (.bl false) s1 else .bad
  | none => .bad
section
variable {X : Cx} {Γ : Gam} {W : WX} {σ : L2.St} {H : Hp} {st : Ss} {p : Pd} {K : PySem.W.Frag} {pos q : Pos} {C : Str} {Ds : List Str}
end
end Fk
/-! ## the law's call, its end -/
namespace Fk
open PySem PySem.Spec PyProof.Rows L2
theorem law_N {P : Program} {w : World} {K : PySem.W.Frag} {mg mb : Str → Option Value} {k : Nat} {fa a : Addr} {fd : FuncData} {x : Str} {sp : Sp} {s1 : Shared} {vs : List Value} {ns : List Int}
    (KX : K.In s1.heap) (hns : s1.heap.Ns mainGlobals mg) (hb : s1.heap.Ns builtinsNs mb) (hbb : ∀ x : Str, x ≠ "__name__" → mb x = bootBuiltins x) (hlim : s1.heap.NoLimit) (hg : s1.gens = #[])
    (ha : s1.heap.get? a = some { cls := .type "list", data := .seq vs.toArray }) (hi : IntsAre vs ns) (hl : ns.length ≤ sizeLine) (hr : Room k callerA)
    (Fn : ∀ base : Heap, K.In base → base.Ns mainGlobals mg → FnN P w K mg base k fa fd [x] sp) (hbind : ∀ (s : Shared) (u : Value), BindsTo s fd ⟨[u], []⟩ [(x, u)])
    (hsp : ∀ H : Hp, (∀ b ps, H b ≠ some (.tbl ps)) → Scr K H a (ns.map V.int) → sp [.ref a] H (fun v _ => v = .bl true) fun _ _ _ => False) :
    codeAny (model P w) callerA (.call (.ref fa) ⟨[.ref a], []⟩) (fun r s' => r = .ok (.ret (.bool true)) ∧ OldK s1.heap s'.heap ∧ s'.os = s1.os ∧ AllBare s'.gens) s1 := by
  have rv := vals_ints hi
  have lenV := hi.length
  let ob : Obj := { cls := .type "list", data := .seq vs.toArray }
  let Hs : Hp := fun b => if b = a ∧ K.lookup a = none then some (.frz ob (.lst (ns.map V.int))) else none
  have at_ : ∀ b u, Hs b = some u → b = a ∧ K.lookup a = none ∧ u = .frz ob (.lst (ns.map V.int)) := fun b u q => by
    by_cases c : b = a ∧ K.lookup a = none
    · have q2 : some (HO.frz ob (.lst (ns.map V.int))) = some u := (if_pos c).symm.trans q
      exact ⟨c.1, c.2, (Option.some.inj q2).symm⟩
    · have q2 : (none : Option HO) = some u := (if_neg c).symm.trans q
      cases q2
  have hS : Scr K Hs a (ns.map V.int) := by
    cases hk : K.lookup a with
    | none => exact .inl ⟨ob, if_pos ⟨rfl, hk⟩⟩
    | some o =>
      have e := KX a o hk
      rw [ha] at e
      cases e
      exact .inr ⟨_, vs.toArray, _, hk, rfl, rfl, rfl, by rw [List.size_toArray, lenV]; exact hl, by simpa using rv⟩
  have hok : HOk P w Hs s1.heap := fun b u q => by
    obtain ⟨rfl, _, rfl⟩ := at_ b u q
    exact ⟨ha, by rw [List.length_map]; exact hl, vs, _, rv, ha⟩
  have hid : ∀ {b : Addr} {o : Obj}, s1.heap.get? b = some o → (b = a → K.lookup a ≠ none) → (hidT s1.heap Hs).get? b = some o := fun {b o} e n => by
    refine hidT_get e ?_
    cases q : Hs b with
    | none => rfl
    | some u =>
      obtain ⟨e1, e2, _⟩ := at_ b u q
      exact absurd e2 (n e1)
  have nsK : ∀ {b : Addr} {m : Str → Option Value}, s1.heap.Ns b m → (hidT s1.heap Hs).Ns b m := fun {b m} ⟨o, es, ep, e, d, rr⟩ => by
    refine ⟨o, es, ep, hid e ?_, d, rr⟩
    rintro rfl
    rw [ha] at e
    cases e
    cases d
  have hKb : K.In (hidT s1.heap Hs) := fun b o e => hid (KX b o e) (fun z => by rw [← z, e]; exact fun q => nomatch q)
  have hM : Mod K mg (hidT s1.heap Hs) := by
    refine ⟨hKb, nsK hns, ⟨mb, nsK hb, hbb⟩, ?_⟩
    obtain ⟨mc, h1, h2⟩ := hlim
    exact ⟨mc, nsK h1, h2⟩
  have e0 : Env0 P w K mg (hidT s1.heap Hs) callerA [] s1 Hs := ⟨rfl, hM, fun b o e => of_hidT e, Nat.le_of_eq (hidT_size _ _), trivial, fun b z => absurd (show b ∈ ([] : List Addr) from z) (by simp), hok, .of_eq hg⟩
  refine codeAny_mono ((Fn _ hKb (nsK hns)).run callerA [] s1 Hs ⟨[.ref a], []⟩ [.ref a] [.ref a] _ _ rfl hr e0 (hbind s1 (.ref a)) (.cons rfl .nil) (hsp Hs (fun b ps e => by
    obtain ⟨_, _, z⟩ := at_ b _ e
    cases z) hS)) ?_
  intro r s' h
  cases r with
  | error e =>
    obtain ⟨_, _, _, _, _, _, _, _, _, _, _, _, z⟩ := h
    exact z.elim
  | ok fl =>
    cases fl with
    | next => exact h.elim
    | brk => exact h.elim
    | cont => exact h.elim
    | ret u =>
      obtain ⟨v, H', os, bare, un, hok', r', q⟩ := h
      have q' : v = .bl true := q
      subst q'
      obtain rfl : u = Value.bool true := r'
      refine ⟨rfl, OldK.of_keep fun b o e => ?_, os, bare⟩
      cases q : Hs b with
      | none => exact un.keep b o e q (fun z => absurd (show b ∈ ([] : List Addr) from z) (by simp)) (by simp)
      | some u =>
        obtain ⟨e1, e2, e3⟩ := at_ b u q
        subst e3
        have z2 := un.frzs b ob _ q
        obtain ⟨g1, _⟩ := hok b _ q
        obtain ⟨g2, _⟩ := hok' b _ z2
        rw [e] at g1
        cases g1
        exact g2
theorem walk_endN {l : PySem.W.OpenLaw} {n k : Nat} {q : Program} {loose : List Str} {XP : (Str → Option Value) → Heap → Prop} {YP : World → Heap → Prop} {d : DefRec} {x : Str}
    (hn : l.most = some n) (hn2 : n ≤ sizeLine) (hdf : d.params.defaults = []) (hr : Room k callerA)
    (Fx : ∀ (w : World) (mg : Str → Option Value) (fa : Addr) (h : Heap), YP w h → h.Ns mainGlobals mg → mg d.name = some (.ref fa) →
      ∃ (K : PySem.W.Frag) (fd : FuncData) (sp : Sp), K.In h ∧ (∀ (s : Shared) (u : Value), BindsTo s fd ⟨[u], []⟩ [(x, u)]) ∧
        (∀ (H : Hp) (a : Addr) (ns : List Int), ns.length ≤ n → (∀ z ∈ ns, Builtin.Int.intBits z ≤ 1048576) → (∀ b ps, H b ≠ some (.tbl ps)) → Scr K H a (ns.map V.int) → sp [.ref a] H (fun v _ => v = .bl true) fun _ _ _ => False) ∧
        ∀ base : Heap, K.In base → base.Ns mainGlobals mg → FnN l.prog w K mg base k fa fd [x] sp) :
    PySem.W.WalkO q loose XP YP l.row.toRowW d [] (fun f vs => PySem.call f vs) := by
  refine Att.attach_callB hn hdf ?_
  intro w s0 s1 mg mb fa o pm cd doc a vs ns G Y ho hd hcd hmg hobj hints hlen hbits hg
  obtain ⟨K, fd, sp, KX, hb, hsp, hF⟩ := Fx w mg fa _ Y G.T.g hmg
  exact law_N KX G.T.g G.T.b G.T.builtins G.T.nolimit hg hobj hints (Nat.le_trans hlen hn2) hr hF hb (fun H hT hS => hsp H a ns hlen hbits hT hS)
theorem rp_intsA {K : PySem.W.Frag} {H : Hp} {W m : List Addr} : ∀ ns : List Int, Rp K H W m (ns.map V.int) (ns.map AV.int) []
  | [] => .nil
  | _ :: ns => .int (rp_intsA ns)
theorem law_sp {K : PySem.W.Frag} {f : Fn} {H : Hp} {a : Addr} {ns : List Int} (h : ∃ S, f [.scr (ns.map AV.int)] [] = .ok (.bl true) S) (hT : ∀ b ps, H b ≠ some (.tbl ps)) (hS : Scr K H a (ns.map V.int)) : spM K [] 1 f [.ref a] H (fun v _ => v = .bl true) fun _ _ _ => False := by
  obtain ⟨S, e⟩ := h
  refine ⟨rfl, [], [], [], [.scr (ns.map AV.int)], [], .scr hS (rp_intsA ns) .nil, .nil, .nil, (fun _ z => nomatch z), ⟨fun _ z => (nomatch z)⟩, ?_⟩
  rw [e]
  intro v H' hp
  obtain ⟨m', am', r, _⟩ := hp
  exact r.bl_i
theorem own_N {P : Program} {w : World} {K : PySem.W.Frag} {mg : Str → Option Value} {base : Heap} {N : List Str} {qual : Str} {scope : Scope} {f : Addr} {cd : Value} {A : Around} {outer : List Env} {s : Shared} {H : Hp} {E : XK} :
    PassesOwn (model P w) (cxN P w K mg base N qual scope f cd A outer s H E).A (cxN P w K mg base N qual scope f cd A outer s H E).env (cxN P w K mg base N qual scope f cd A outer s H E).xe := passes_of rfl
end Fk
/-! ## short words for what is printed -/
namespace Fk
open PySem PySem.Spec PyProof.Rows L2
def eFrz (m : M AV) : M AV := fun st => (m st).bind fun d s1 => ofO (frz d) s1
def pAlt (a b : Ss → Option AV) : Ss → Option AV := fun st => match a st with
  | some d => some d
  | none => b st
section
variable {X : Cx} {Γ : Gam} {W : WX} {σ : L2.St} {H : Hp} {st : Ss} {p : Pd} {K : PySem.W.Frag} {pos : Pos} {e : Expr}
theorem sv (i : Nat) {x : Str} (hN : X.N[i]? = some x := by rfl) (hv : Vis X.env.scope x := by first | exact Or.inl rfl | exact Or.inr (Or.inl rfl) | exact Or.inr (Or.inr rfl)) (hd : (x == ("__debug__" : Str)) = false := by decide) (hcd : (x == ("__classdict__" : Str)) = false := by decide) : PE X (.Name x pos) (rdE X.K Γ W (eVar i)) := s_var hN hv hd hcd
theorem qv (i : Nat) {x : Str} (hN : X.N[i]? = some x := by rfl) (hv : Vis X.env.scope x := by first | exact Or.inl rfl | exact Or.inr (Or.inl rfl) | exact Or.inr (Or.inr rfl)) (hd : (x == ("__debug__" : Str)) = false := by decide) (hcd : (x == ("__classdict__" : Str)) = false := by decide) : PE X (.Name x pos) (rdP X.K Γ (pVar i)) := q_var hN hv hd hcd
theorem s_frz {m : M AV} (h : PE X e (rdO X.K Γ W m)) : PE X e (rdE X.K Γ W (eFrz m)) := by
  refine pe_imp h fun σ H Q h => ?_
  obtain ⟨st, p, R, h⟩ := h
  refine ⟨st, p, R, ?_⟩
  unfold eFrz at h
  cases ea : m st with
  | bad => rw [ea] at h; exact h
  | err c s1 => rw [ea] at h; exact h
  | ok d s1 =>
    rw [ea] at h
    simp only [Res.bind_ok] at h
    intro v H1 R1
    cases ef : frz d with
    | none => simp only [ef, ofO_none] at h
    | some d' =>
      simp only [ef, ofO_some] at h
      exact h v H1 (R1.frzO ef)
theorem c_len : CallR X (.builtin "len") (uLen X.K) := CallR.or call_len call_lenD
end
section
variable {X : Cx} {Γ : Gam} {W : WX} {pos apos q : Pos} {o e : Expr} {es : List Expr} {x : Str} {k j n : Nat} {C nm : Str} {ps : List Str} {ds : List AV} {f : Fn} {mo : M AV} {ma : M (List AV)}
theorem sCl (F : CalN X.prog X.w X.K X.mg X.base Γ.T k x ps ds f) (hG : X.A.guards = some []) (hr : Room j X.A) (hk : k ≤ j) (hg : Gl X x) (tk : L2N.Takes X W) (ha : PA X (e :: es) (rdA X.K Γ W ma)) (hn : ps.length = n := by rfl)
    (hdb : (x == ("__debug__" : Str)) = false := by decide) (he : starEach (e :: es) X.env = (false, eval e X.env) :: starEach es X.env := by rfl) (hpl : (backTo pos (starEach es X.env)).any (·.1) = false := by rfl) :
    PE X (.Call (.Name x q) (e :: es) [] pos) (rdE X.K Γ W (eCall n f ds ma)) := by
  subst hn
  exact s_call F hG hr hk hg tk ha hdb he hpl
end
section
variable {X : Cx} {Γ : Gam} {W : WX} {pos : Pos} {o : Expr}
theorem sStI {fo : Option (Str × Str)} {ek ev : Expr} {mv : M AV} {mo mk : Ss → Option AV} {pos' : Pos} (hu : X.A.units + 1 < cLine) (ho : PE X o (rdB X.K Γ mo fo)) (hk : PE X ek (rdP X.K Γ mk)) (hv : PE X ev (rdE X.K Γ W mv))
    (hsw : swapsWith ev (some (.Subscript o ek pos')) pos.line X.env = pure false := by rfl)
    (hs1 : swapsWithSole [.Subscript o ek pos'] ev pos.line X.env = pure false := by rfl) (hw1 : swappedStores [.Subscript o ek pos'] ev X.env = pure none := by rfl)
    (ha : ∀ v, assign (.Subscript o ek pos') X.env v = (do
      let ov ← holding [v] (eval o X.env)
      let iv ← holding [v, ov] (eval ek X.env)
      standAt pos'
      holding [v, ov, iv] (setItem ov iv v)
      release [v, ov, iv] []) := by intro _; rfl) : PS X (.Assign [.Subscript o ek pos'] ev pos) (rdS X.K Γ W (sSetP false fo mo mk mv)) := s_setP (w := false) hu ho hk hv hsw hs1 hw1 ha
end
end Fk
/-! ## try, except -/
namespace Fk
open PySem PySem.Spec PyProof.Rows L2
/-- of the classes U those that C catches -/
def ExcM (K : PySem.W.Frag) (C : Str) (U cs : List Str) : Prop := ∀ c ∈ U, PySem.W.exmOne K (.ref (He.ga K c)) (.ref (He.ga K C)) = some (decide (c ∈ cs))
def pickH (c : Str) : List (List Str × M Fl) → Option (M Fl)
  | [] => none
  | (cs, h) :: r => if c ∈ cs then some h else pickH c r
/-- nothing is raised there -/
def capX {α β : Type} : Res α β → Res α β
  | .err _ _ => .bad
  | r => r
def sTry (U : List Str) (mb : M Fl) (hs : List (List Str × M Fl)) : M Fl := fun st => match mb st with
  | .err c s1 => if c ∈ U then (match pickH c hs with
    | some h => capX (h s1)
    | none => .err c s1) else .bad
  | r => r
section
variable {X : Cx} {Γ : Gam} {W : WX}
inductive HdM (X : Cx) (Γ : Gam) (U : List Str) : List ExceptHandler → List (List Str × M Fl) → Prop
  | nil : HdM X Γ U [] []
  | cons {x : Str} {cs : List Str} {mh : M Fl} {b₀ : Stmt} {suite : List Stmt} {np p' : Pos} {hds : List ExceptHandler} {l : List (List Str × M Fl)} (hn : Names X x (.ref (He.ga X.K x))) (hm : ExcM X.K x U cs)
      (hsu : ∀ (a : Addr) (oe : Obj) (pn : List (Addr × Obj)) (cls : Value) (d : Option Addr), L2N.Zn cls d oe → (∃ vs, oe.data = .fields vs) → PSs (X.suite a ((a, oe) :: pn)) (b₀ :: suite) (rdS X.K Γ noX mh)) (r : HdM X Γ U hds l) :
      HdM X Γ U (.ExceptHandler (some (.Name x np)) none (b₀ :: suite) p' :: hds) ((cs, mh) :: l)
/-- the handlers in the library's sense -/
theorem HdM.hds {U : List Str} {hds : List ExceptHandler} {l : List (List Str × M Fl)} (h : HdM X Γ U hds l) : ∃ l', L2N.HdsOk X hds l' ∧ ∀ (D : Ends) (c : Str) (st : Ss) (p : Pd) (σ : L2.St) (H : Hp), c ∈ U → Rel X.K Γ σ H st p → p.nob = p →
    Pos_ X.K Γ W D p (match pickH c l with
      | some h => capX (h st)
      | none => .err c st) → wMany X.K W D l' (.ref (He.ga X.K c)) none σ H := by
  induction h with
  | nil => exact ⟨[], .nil, fun D c st p σ H _ R _ h => h σ H R⟩
  | @cons x cs mh b₀ suite np p' hds l hn hm hsu r ih =>
    obtain ⟨l', h1, h2⟩ := ih
    refine ⟨_, .cons (ts := fun _ _ _ => rdS X.K Γ noX mh) hn (fun a oe cls d pn z f => hsu a oe pn cls d z f) h1, fun D c st p σ H hc R hp h => ⟨_, hm c hc, fun e a na => ?_, fun e => ?_⟩⟩
    · have e : c ∈ cs := of_decide_eq_true e
      rw [pickH, if_pos e] at h
      refine ⟨st, p, R, hp, ?_⟩
      simp only at h
      cases em : mh st with
      | bad => rw [em] at h; exact h
      | err c s => rw [em] at h; exact h.elim
      | ok f s =>
        rw [em] at h
        cases f <;> exact h
    · have e : c ∉ cs := of_decide_eq_false e
      rw [pickH, if_neg e] at h
      exact h2 D c st p σ H hc R hp h
end
end Fk
/-! ## a row of an object's lists, lent to a name -/
namespace Fk
open PySem PySem.Spec PyProof.Rows L2
section
variable {K : PySem.W.Frag} {H : Hp} {W m as : List Addr} {v : V} {x d z : AV} {Γ : Gam} {σ : L2.St} {st : Ss} {p : Pd} {ar am ao ab : List Addr}
theorem set_at {α : Type} {xs : List α} {j : Nat} {a : α} (h : xs[j]? = some a) : xs.set j a = xs := by
  apply List.ext_getElem?
  intro i
  by_cases c : j = i
  · subst c
    rw [List.getElem?_set_self (List.getElem?_eq_some_iff.mp h).1, h]
  · rw [List.getElem?_set_ne c]
/-- one of a row of things, put otherwise -/
theorem Rp.spot0 {vs : List V} {xs : List AV} {j : Nat} (r : Rp K H W m vs xs as) (h : xs[j]? = some d) : ∃ u a1 b a2, vs[j]? = some u ∧ as = a1 ++ (b ++ a2) ∧ Rp K H W m [u] [d] b ∧
    ∀ {W' m' b' : List Addr} {d' : AV}, (∀ {vs : List V} {xs : List AV} {as : List Addr}, Rp K H W m vs xs as → Rp K H W' m' vs xs as) → Rp K H W' m' [u] [d'] b' → Rp K H W' m' vs (xs.set j d') (a1 ++ (b' ++ a2)) := by
  obtain ⟨u, a1, b, a2, e, ea, r1, r2, r3⟩ := r.at_ h
  refine ⟨u, a1, b, a2, e, ea, r2, fun {W' m' b' d'} t q => ?_⟩
  have h1 := Rp.put (v := u) (x := d') (List.getElem?_eq_some_iff.mp h).1 (t r1) q (t r3) r.len
  rw [set_at e] at h1
  exact h1
/-- .. in an object's list of lists -/
theorem Rp.spot {a0 : Addr} {z0 : AV} {fo : Option (Str × Str)} {rows : List AV} {j l : Nat} {S : List AV} {vs : List V} (r : Rp K H W m vs S as) (e : getPl S l fo = some (.nst rows)) (hj : rows[j]? = some d) : ∃ a0 a us u a1 b a2, vs[l]? = some (.ref a0) ∧ AtH K H a0 a fo ∧ H a = some (.lst us) ∧ us.length = rows.length ∧ us[j]? = some u ∧ as = a1 ++ (b ++ a2) ∧ Rp K H W m [u] [d] b ∧
    ∀ {W' m' b' : List Addr} {d' : AV}, (∀ {vs : List V} {xs : List AV} {as : List Addr}, Rp K H W m vs xs as → Rp K H W' m' vs xs as) → Rp K H W' m' [u] [d'] b' → Rp K H W' m' vs (setPl S l fo (.nst (rows.set j d'))) (a1 ++ (b' ++ a2)) := by
  cases fo with
  | none =>
    obtain ⟨u0, a1, b, a2, ev, ea, r2, put⟩ := r.spot0 (show S[l]? = some (.nst rows) from e)
    cases r2 with
    | @nst a us _ bs _ _ as0 h q r0 =>
      obtain ⟨_, rfl⟩ := r0.nil_inv
      obtain ⟨u, c1, c, c2, eu, ec, rd, put2⟩ := q.spot0 hj
      refine ⟨a, a, us, u, a1 ++ (a :: c1), c, c2 ++ a2, ev, rfl, h, q.len, eu, by rw [ea, ec]; simp, rd, fun {W' m' b' d'} t q2 => ?_⟩
      have h1 := put (b' := a :: ((c1 ++ (b' ++ c2)) ++ [])) t (.nst h (put2 t q2) .nil)
      have e2 : a1 ++ (a :: ((c1 ++ (b' ++ c2)) ++ []) ++ a2) = (a1 ++ (a :: c1)) ++ (b' ++ (c2 ++ a2)) := by simp
      rw [e2] at h1
      exact h1
  | some cf =>
    obtain ⟨C, f⟩ := cf
    obtain ⟨⟨C', ks, ys⟩, e1, e2⟩ := Option.bind_eq_some_iff.mp e
    obtain ⟨t0, et, ei⟩ := Option.bind_eq_some_iff.mp e1
    have e3 : (if C' = C then getF ks ys f else none) = some (.nst rows) := e2
    by_cases c : C' = C
    · subst c
      rw [if_pos rfl] at e3
      cases t0 with
      | ins C2 k2 y2 =>
        cases ei
        obtain ⟨u0, a1, b, a2, ev, ea, r2, put⟩ := r.spot0 et
        cases r2 with
        | @ins a0 _ dx fs _ _ bs _ _ as0 hs ek q r0 =>
          obtain ⟨_, rfl⟩ := r0.nil_inv
          subst ek
          obtain ⟨u1, b1, b2, b3, hl, eb, ru, gl⟩ := lensF q e3
          cases ru with
          | @nst a us _ bs2 _ _ as0 h q2 r0 =>
            obtain ⟨_, rfl⟩ := r0.nil_inv
            obtain ⟨u, c1, c, c2, eu, ec, rd, put2⟩ := q2.spot0 hj
            refine ⟨a0, a, us, u, a1 ++ (a0 :: (b1 ++ (a :: c1))), c, c2 ++ (b3 ++ a2), ev, ⟨dx, fs, hs, hl⟩, h, q2.len, eu, by rw [ea, eb, ec]; simp, rd, fun {W' m' b' d'} t q3 => ?_⟩
            have g1 := gl (H' := H) (W' := W') (m' := m') (x' := .nst (rows.set j d')) (b2' := a :: ((c1 ++ (b' ++ c2)) ++ [])) (fun rr _ => t rr) (.nst h (put2 t q3) .nil)
            have g2 := put (b' := a0 :: ((b1 ++ ((a :: ((c1 ++ (b' ++ c2)) ++ [])) ++ b3)) ++ [])) t (.ins hs rfl g1 .nil)
            have es : setPl S l (some (C', f)) (.nst (rows.set j d')) = S.set l (.ins C' (fs.map (·.1)) (setFA (fs.map (·.1)) ys f (.nst (rows.set j d')))) := by
              unfold setPl
              rw [et]
              rfl
            rw [es]
            have e4 : a1 ++ (a0 :: ((b1 ++ ((a :: ((c1 ++ (b' ++ c2)) ++ [])) ++ b3)) ++ []) ++ a2) = (a1 ++ (a0 :: (b1 ++ (a :: c1)))) ++ (b' ++ (c2 ++ (b3 ++ a2))) := by simp
            rw [e4] at g2
            exact g2
      | _ => cases ei
    · rw [if_neg c] at e3
      cases e3
/-- .. and back -/
theorem Rl.unl {fo : Option (Str × Str)} {rows : List AV} {j l n : Nat} (R : Rl K Γ σ H st p m ar am ao ab) (e : getPl st.s l fo = some (.nst rows)) (hj : rows[j]? = some (.loc n)) (en : st.s[n]? = some d) (hd : ownA d = true) (ne : n ≠ l) :
    Rel K Γ σ H ⟨st.r, setPl (st.s.set n .ded) l fo (.nst (rows.set j d))⟩ p := by
  obtain ⟨u0, a1, b, a2, eu, ea, rd, put⟩ := R.rm.spot0 en
  have r1 : Rp K H (wOf Γ ar am ao) m (m.map V.ref) (st.s.set n .ded) (a1 ++ ([] ++ a2)) := put (fun r => r) (by
    rw [List.getElem?_map] at eu
    obtain ⟨u, _, rfl⟩ := Option.map_eq_some_iff.mp eu
    exact .ded .nil)
  have e2 : getPl (st.s.set n .ded) l fo = some (.nst rows) := by
    rw [← e]
    unfold getPl
    rw [List.getElem?_set_ne ne]
  obtain ⟨a0, a, us, u1, c1, c, c2, _, _, _, _, _, ec, rl, put2⟩ := r1.spot (a0 := 0) (z0 := .non) e2 hj
  have q : u1 = u0 ∧ c = [] := by
    cases rl with
    | loc h r0 =>
      obtain ⟨_, rfl⟩ := r0.nil_inv
      rw [List.getElem?_map, h] at eu
      cases eu
      exact ⟨rfl, rfl⟩
  obtain ⟨rfl, rfl⟩ := q
  have nd := R.nd
  have fr := R.fr
  have mm : ∀ x, x ∈ c1 ++ (b ++ c2) ↔ x ∈ am := fun x => by
    have h1 : x ∈ a1 ++ ([] ++ a2) ↔ x ∈ c1 ++ ([] ++ c2) := by rw [ec]
    simp only [ea, List.mem_append] at h1 ⊢
    grind
  have wm : ∀ x, x ∈ wOf Γ ar (c1 ++ (b ++ c2)) ao ↔ x ∈ wOf Γ ar am ao := fun x => by
    have := mm x
    simp only [wOf, List.mem_append] at this ⊢
    grind
  have t : ∀ {vs : List V} {xs : List AV} {as : List Addr}, Rp K H (wOf Γ ar am ao) m vs xs as → Rp K H (wOf Γ ar (c1 ++ (b ++ c2)) ao) m vs xs as := fun r =>
    r.keep Kp.refl (fun _ z => nomatch z) (fun c _ n z => n ((wm c).mp z)) (fun _ _ e => e) (fun _ _ z => nomatch z)
  refine ⟨m, ar, c1 ++ (b ++ c2), ao, ab, ?_, put2 t (t rd), t R.ri, t R.ro, t R.rb, ?_, ?_, R.kp, R.pm, R.gu, R.tb⟩
  · exact R.rs.keep Kp.refl (fun _ z => nomatch z) (fun c _ n z => n ((wm c).mp z)) (fun _ _ e => e) (fun _ _ z => nomatch z)
  · have pm : (c1 ++ (b ++ c2)).Perm am := by
      have e1 : (c1 ++ (b ++ c2)).Perm (b ++ (c1 ++ c2)) := by
        rw [← List.append_assoc, ← List.append_assoc]
        exact List.Perm.append_right _ List.perm_append_comm
      have e2 : am.Perm (b ++ (a1 ++ a2)) := by
        rw [ea, ← List.append_assoc, ← List.append_assoc]
        exact List.Perm.append_right _ List.perm_append_comm
      have e3 : a1 ++ a2 = c1 ++ c2 := by simpa using ec
      rw [e3] at e2
      exact e1.trans e2.symm
    have pw : (wOf Γ ar (c1 ++ (b ++ c2)) ao).Perm (wOf Γ ar am ao) := List.Perm.append_left _ (List.Perm.append_left _ (List.Perm.append_right _ pm))
    exact pw.nodup_iff.mpr nd
  · intro x hx
    have h1 := mm x
    have := fr x
    simp only [List.mem_append] at this hx h1
    grind
end
end Fk
namespace Fk
open PySem PySem.Spec PyProof.Rows L2
/-- place[y], lent -/
def eLend (fo : Option (Str × Str)) (mo mk : Ss → Option AV) : M AV := fun st => match (mo st).bind locOf with
  | some l => (match mk st with
    | some (.int k) => (match getPl st.s l fo with
      | some (.nst rows) => (match ixN rows.length k with
        | some j => (match rows[j]? with
          | some d => bif ownA d then .ok (.loc st.s.length) ⟨st.r, setPl st.s l fo (.nst (rows.set j (.loc st.s.length))) ++ [d]⟩ else .bad
          | none => .bad)
        | none => .bad)
      | _ => .bad)
    | _ => .bad)
  | none => .bad
/-- what was lent goes back: the object's number, the row's, the lent one's in three slots -/
def unlS (fo : Option (Str × Str)) (io ik ir : Nat) (st : Ss) : Ss := match getSl st.r io, getSl st.r ik, getSl st.r ir with
  | .im (.loc l), .im (.int k), .im (.loc n) => (match getPl st.s l fo with
    | some (.nst rows) => (match ixN rows.length k with
      | some j => (match rows[j]?, st.s[n]? with
        | some (.loc n'), some d => if n' = n ∧ n ≠ l ∧ ownA d = true then ⟨st.r, setPl (st.s.set n .ded) l fo (.nst (rows.set j d))⟩ else st
        | _, _ => st)
      | none => st)
    | _ => st)
  | _, _, _ => st
def sUnl (fo : Option (Str × Str)) (io ik ir : Nat) (mb : M Fl) : M Fl := fun st => match mb st with
  | .ok f s => .ok f (unlS fo io ik ir s)
  | .err c s => .err c (unlS fo io ik ir s)
  | .bad => .bad
section
variable {X : Cx} {Γ : Gam} {W : WX} {σ : L2.St} {H : Hp} {st : Ss} {p : Pd} {K : PySem.W.Frag} {pos : Pos} {o ek : Expr} {fo : Option (Str × Str)} {mo mk : Ss → Option AV}
theorem Rel.unlS (R : Rel K Γ σ H st p) (io ik ir : Nat) : Rel K Γ σ H (unlS fo io ik ir st) p := by
  obtain ⟨m, ar, am, ao, ab, R1⟩ := id R
  unfold Fk.unlS
  split
  · split
    · rename_i rows eg
      split
      · rename_i j ej
        split
        · rename_i n' d er en
          split
          · rename_i hc
            obtain ⟨rfl, ne, hd⟩ := hc
            exact R1.unl eg er en hd ne
          · exact R
        · exact R
      · exact R
    · exact R
  · exact R
end
end Fk
/-! ## except (A, B, ..): a row of classes -/
namespace Fk
open PySem PySem.Spec PyProof.Rows L2
/-- a test of an except clause: what it says of a class -/
def TstR (X : Cx) (t : Expr) (f : Value → Option Bool) : Prop :=
  ∀ (a : Addr) (oe : Obj) (pn pins : List (Addr × Obj)) (σ : L2.St) (H : Hp) (s : Shared) (b : Bool) (Q : Bool → Shared → Prop) (E : Value → Shared → Prop), Inv (X.suite a ((a, oe) :: pn)) pins σ H s → s.heap.get? a = some oe → f oe.cls = some b →
    (∀ h', (∀ q o, s.heap.get? q = some o → h'.get? q = some o) → Q b { s with heap := h' }) →
    wpAny (model X.prog X.w) (X.A.mark (some (.ref a))) (eval t X.env) (fun c s1 => wpAny (model X.prog X.w) (X.A.mark (some (.ref a))) (excMatches (.ref a) c) Q E s1) E s
section
variable {X : Cx}
/-- what is wanted of what is raised, by the clauses -/
def wTs (Wo : WX) (D : Ends) : List ((Value → Option Bool) × (Addr → Value → Option Addr → TS)) → WX
  | [] => Wo
  | (f, ts) :: r => fun cls d σ H => ∃ b, f cls = some b ∧ (b = true → ∀ a, H a = none → ts a cls d D σ H) ∧ (b = false → wTs Wo D r cls d σ H)
inductive HdT (X : Cx) : List ExceptHandler → List ((Value → Option Bool) × (Addr → Value → Option Addr → TS)) → Prop
  | nil : HdT X [] []
  | cons {t : Expr} {f : Value → Option Bool} {ts : Addr → Value → Option Addr → TS} {b₀ : Stmt} {suite : List Stmt} {p' : Pos} {hds : List ExceptHandler} {l : List ((Value → Option Bool) × (Addr → Value → Option Addr → TS))} (ht : TstR X t f)
      (hsu : ∀ (a : Addr) (oe : Obj) (cls : Value) (d : Option Addr) (pn : List (Addr × Obj)), L2N.Zn cls d oe → (∃ vs, oe.data = .fields vs) → PSs (X.suite a ((a, oe) :: pn)) (b₀ :: suite) (ts a cls d)) (r : HdT X hds l) :
      HdT X (.ExceptHandler (some t) none (b₀ :: suite) p' :: hds) ((f, ts) :: l)
end
end Fk
/-! ## defs called in an except suite; try by tests -/
namespace Fk
open PySem PySem.Spec PyProof.Rows L2
section
variable {P : Program} {w : World} {K : PySem.W.Frag} {mg : Str → Option Value} {base : Heap} {k : Nat} {f : Addr} {fd : FuncData} {ps N : List Str} {sp : Sp} {x qual : Str} {params : Arguments} {body : List Stmt} {scope : Scope} {dvs : List V} {kws : List (Str × V)} {T : List (Addr × Str)}
end
section
variable {X : Cx} {Γ : Gam} {W : WX} {σ : L2.St} {H : Hp} {st : Ss} {p : Pd} {K : PySem.W.Frag} {pos apos cpos q : Pos} {o e : Expr} {es : List Expr} {x : Str} {i k j n : Nat} {C nm : Str} {fs : List Str} {ps : List Str} {f : Fn} {mo : M AV} {ma : M (List AV)}
/-! ### try by tests -/
def ExcA (f : Value → Option Bool) (K : PySem.W.Frag) (U cs : List Str) : Prop := ∀ c ∈ U, f (.ref (He.ga K c)) = some (decide (c ∈ cs))
inductive HdN (X : Cx) (Γ : Gam) (U : List Str) : List ExceptHandler → List (List Str × M Fl) → Prop
  | nil : HdN X Γ U [] []
  | cons {t : Expr} {g : Value → Option Bool} {cs : List Str} {mh : M Fl} {b₀ : Stmt} {suite : List Stmt} {p' : Pos} {hds : List ExceptHandler} {l : List (List Str × M Fl)} (ht : TstR X t g) (hm : ExcA g X.K U cs)
      (hsu : ∀ (a : Addr) (oe : Obj) (pn : List (Addr × Obj)) (cls : Value) (d : Option Addr), L2N.Zn cls d oe → (∃ vs, oe.data = .fields vs) → PSs (X.suite a ((a, oe) :: pn)) (b₀ :: suite) (rdS X.K Γ noX mh)) (r : HdN X Γ U hds l) :
      HdN X Γ U (.ExceptHandler (some t) none (b₀ :: suite) p' :: hds) ((cs, mh) :: l)
theorem HdN.hds {U : List Str} {hds : List ExceptHandler} {l : List (List Str × M Fl)} (h : HdN X Γ U hds l) : ∃ l', HdT X hds l' ∧ ∀ (D : Ends) (c : Str) (st : Ss) (p : Pd) (σ : L2.St) (H : Hp), c ∈ U → Rel X.K Γ σ H st p → p.nob = p →
    Pos_ X.K Γ W D p (match pickH c l with
      | some h => capX (h st)
      | none => .err c st) → wTs W D l' (.ref (He.ga X.K c)) none σ H := by
  induction h with
  | nil => exact ⟨[], .nil, fun D c st p σ H _ R _ h => h σ H R⟩
  | @cons t g cs mh b₀ suite p' hds l ht hm hsu r ih =>
    obtain ⟨l', h1, h2⟩ := ih
    refine ⟨_, .cons (ts := fun _ _ _ => rdS X.K Γ noX mh) ht (fun a oe cls d pn z f => hsu a oe pn cls d z f) h1, fun D c st p σ H hc R hp h => ⟨_, hm c hc, fun e a na => ?_, fun e => ?_⟩⟩
    · have e : c ∈ cs := of_decide_eq_true e
      rw [pickH, if_pos e] at h
      refine ⟨st, p, R, hp, ?_⟩
      simp only at h
      cases em : mh st with
      | bad => rw [em] at h; exact h
      | err c s => rw [em] at h; exact h.elim
      | ok f s =>
        rw [em] at h
        cases f <;> exact h
    · have e : c ∉ cs := of_decide_eq_false e
      rw [pickH, if_neg e] at h
      exact h2 D c st p σ H hc R hp h
end
end Fk
/-! ## in, not in; count, index -/
namespace Fk
open PySem PySem.Spec PyProof.Rows L2
section
variable {X : Cx}
def rInT (K : PySem.W.Frag) (g : Bool → Bool) : R2 := fun x y H Q => ∃ d ds, Dp K H x d ∧ Dp K H y (.tuple ds) ∧ SeqAt.shaped d = true ∧ SeqAt.shaped (.tuple ds) = true ∧ Q (.bl (g (ds.any fun z => PyData.eqv z d))) H
theorem op_inT (hu : X.A.units + 65 < cLine) : OpR X (compareOp .In) (rInT X.K fun b => b) := by
  intro pins s σ H x y v u Q I rx ry h
  obtain ⟨d, ds, h1, h2, s1, s2, q⟩ := h
  obtain ⟨as, r1⟩ := Dp.reads I d x v h1 rx
  obtain ⟨bs, r2⟩ := Dp.reads I (.tuple ds) y u h2 ry
  exact SeqAt.in_tuple_reads r2 r1 (SeqAt.canLay_of_shaped s2) (SeqAt.canLay_of_shaped s1) (room_in_shaped s1 hu) ⟨.bl _, H, I, rfl, q⟩
def rDIn (g : Bool → Bool) : R2 := fun x y H Q => ∃ a o, y = .ref a ∧ DGet H a x o ∧ Q (.bl (g o.isSome)) H
theorem op_dIn (hu : X.A.units + 1 < cLine) : OpR X (compareOp .In) (rDIn fun b => b) := by
  intro pins s σ H x y v u Q I rx ry h
  obtain ⟨a, o, rfl, g, q⟩ := h
  obtain rfl : u = Value.ref a := ry
  exact d_in hu I g rx fun s3 I3 => ⟨.bl o.isSome, H, I3, rfl, q⟩
def uIn (K : PySem.W.Frag) : R2 := fun x y H Q => rInD K x y H Q ∨ (rInT K (fun b => b) x y H Q ∨ rDIn (fun b => b) x y H Q)
theorem oo_in (hu : X.A.units + 65 < cLine) : OpR X (compareOp .In) (uIn X.K) := (op_inD hu).or ((op_inT hu).or (op_dIn (by omega)))
end
/-- whether one is among others -/
def inA (x y : AV) : Option Bool := match dicA y with
  | some (ks, _) => (keyA x).map fun k => hasK ks k
  | none => match y with
    | .lst _ xs => if okA x && okA y then some ((dats xs).any fun z => PyData.eqv z (dat x)) else none
    | .nst xs => if okA x && okA y then some ((dats xs).any fun z => PyData.eqv z (dat x)) else none
    | .scr xs => if okA x && okA y then some ((dats xs).any fun z => PyData.eqv z (dat x)) else none
    | .tup xs => if okA x && okA y then some ((dats xs).any fun z => PyData.eqv z (dat x)) else none
    | _ => none
def oIn (x y : AV) : Option AV := (inA x y).map AV.bl
section
variable {K : PySem.W.Frag} {H : Hp} {W m : List Addr} {a1 a2 : List Addr} {v1 v2 : V} {x y : AV}
theorem valV_has {k : Key} : ∀ {kvs : List (Key × V)}, (valV kvs k).isSome = hasK (kvs.map (·.1)) k
  | [] => rfl
  | (k', v) :: kvs => by
    have ih := valV_has (k := k) (kvs := kvs)
    unfold valV hasK at *
    simp only [List.map_cons, List.any_cons, List.find?_cons]
    by_cases c : k' = k
    · simp [c]
    · simp only [decide_eq_false c, Bool.false_or]
      first
        | exact ih
        | simpa [c] using ih
theorem in_sem {b : Bool} (r1 : Rp K H W m [v1] [x] a1) (r2 : Rp K H W m [v2] [y] a2) (e : inA x y = some b) :
    (∃ d ds, Dp K H v1 d ∧ (Dp K H v2 (.list ds) ∧ SeqAt.shaped (.list ds) = true ∨ Dp K H v2 (.tuple ds) ∧ SeqAt.shaped (.tuple ds) = true) ∧ SeqAt.shaped d = true ∧ b = ds.any fun z => PyData.eqv z d) ∨ ∃ a o, v2 = .ref a ∧ DGet H a v1 o ∧ b = o.isSome := by
  have ok : ∀ {x : AV} {v : V} {as : List Addr}, Rp K H W m [v] [x] as → okA x = true → Dp K H v (dat x) ∧ SeqAt.shaped (dat x) = true := fun {x v as} r h => by
    unfold okA at h
    rw [Bool.and_eq_true] at h
    exact ⟨r.dp h.1, h.2⟩
  unfold inA at e
  cases ed : dicA y with
  | some t =>
    obtain ⟨ks, ys⟩ := t
    rw [ed] at e
    simp only at e
    obtain ⟨k, ek, rfl⟩ := Option.map_eq_some_iff.mp e
    right
    have hk : v1 = kV k := by
      cases x with
      | int i => cases ek; cases r1; rfl
      | str z => cases ek; cases r1; rfl
      | _ => cases ek
    have fin : ∀ (a : Addr) (kvs : List (Key × V)), v2 = .ref a → H a = some (.dK kvs) → kvs.map (·.1) = ks → ∃ a o, v2 = .ref a ∧ DGet H a v1 o ∧ hasK ks k = o.isSome := fun a kvs e1 e2 e3 =>
      ⟨a, valV kvs k, e1, .inl ⟨kvs, k, Rd.of e2, hk, rfl⟩, by rw [valV_has, e3]⟩
    cases y with
    | dct o ks' ys' =>
      cases ed
      cases r2 with
      | dcI h _ e1 _ _ => exact fin _ _ rfl h e1
      | dcO h e1 _ _ => exact fin _ _ rfl h e1
    | ndc ks' ys' =>
      cases ed
      cases r2 with
      | ndc h e1 _ _ => exact fin _ _ rfl h e1
    | _ => cases ed
  | none =>
    rw [ed] at e
    simp only at e
    left
    cases y with
    | lst o xs =>
      simp only at e
      split at e
      · rename_i c
        rw [Bool.and_eq_true] at c
        cases e
        have q1 := ok r1 c.1
        have q2 := ok r2 c.2
        simp only [dat] at q2
        exact ⟨_, _, q1.1, .inl q2, q1.2, rfl⟩
      · cases e
    | nst xs =>
      simp only at e
      split at e
      · rename_i c
        rw [Bool.and_eq_true] at c
        cases e
        have q1 := ok r1 c.1
        have q2 := ok r2 c.2
        simp only [dat] at q2
        exact ⟨_, _, q1.1, .inl q2, q1.2, rfl⟩
      · cases e
    | scr xs =>
      simp only at e
      split at e
      · rename_i c
        rw [Bool.and_eq_true] at c
        cases e
        have q1 := ok r1 c.1
        have q2 := ok r2 c.2
        simp only [dat] at q2
        exact ⟨_, _, q1.1, .inl q2, q1.2, rfl⟩
      · cases e
    | tup xs =>
      simp only at e
      split at e
      · rename_i c
        rw [Bool.and_eq_true] at c
        cases e
        have q1 := ok r1 c.1
        have q2 := ok r2 c.2
        simp only [dat] at q2
        exact ⟨_, _, q1.1, .inr q2, q1.2, rfl⟩
      · cases e
    | _ => cases e
theorem p_in : Op2 K (uIn K) oIn := by
  intro Γ σ H st p m ar am ao ab v1 v2 x y d a1 a2 Q R0 r1 r2 e h
  obtain ⟨b, e1, rfl⟩ := Option.map_eq_some_iff.mp e
  have q := h (.bl b) H (R0.nob.rel.bl b)
  rcases in_sem r1 r2 e1 with ⟨d, ds, h1, h2 | h2, h3, rfl⟩ | ⟨a, o, rfl, g, rfl⟩
  · exact .inl ⟨d, ds, h1, h2.1, h3, h2.2, q⟩
  · exact .inr (.inl ⟨d, ds, h1, h2.1, h3, h2.2, q⟩)
  · exact .inr (.inr ⟨a, o, rfl, g, q⟩)
end
end Fk
/-! ## xs.count(y), xs.index(y) -/
namespace Fk
open PySem PySem.Spec PyProof.Rows L2
section
variable {X : Cx}
end
section
variable {X : Cx} {Γ : Gam} {W : WX} {σ : L2.St} {H : Hp} {st : Ss} {p : Pd} {K : PySem.W.Frag} {apos cpos : Pos} {o e : Expr} {name : Str} {T : String} {r : V → List V → Hp → VK → Prop} {f : List AV → List AV → Option AV} {mo me : Ss → Option AV}
end
end Fk
namespace Fk
open PySem PySem.Spec PyProof.Rows L2
section
variable {X : Cx}
end
section
variable {X : Cx} {Γ : Gam} {W : WX} {apos cpos q : Pos} {e : Expr} {x : Str} {me : Ss → Option AV} {ys : List AV}
end
end Fk
/-! ## d.setdefault(k, v) -/
namespace Fk
open PySem PySem.Spec PyProof.Rows L2
def eSetd (i : Nat) (mk mv : M AV) : M AV := fun st => match ownD (getSl st.r i) with
  | none => .bad
  | some _ => (mk st).bind fun y s1 => (mv s1).bind fun d s2 => match ownD (getSl s2.r i), keyA y with
    | some (ks, xs), some k => if ks.length < 16777216 then (match getK ks xs k with
      | some x => .ok x s2
      | none => .ok d (putD i (ks ++ [k]) (xs ++ [d]) s2)) else .bad
    | _, _ => .bad
section
variable {X : Cx} {Γ : Gam} {W : WX} {σ : L2.St} {H : Hp} {st : Ss} {p : Pd} {K : PySem.W.Frag} {apos cpos q : Pos} {ek ev : Expr} {x : Str} {i : Nat} {mk mv : M AV}
end
end Fk
/-! ## sorted(xs), xs tuples of ints, the first of any sign -/
namespace Fk
open PySem PySem.Spec PyProof.Rows L2
section
variable {prog : Program} {w : World} {A : Around} {E : Value → Shared → Prop} {s : Shared}
end
end Fk
namespace Fk
open PySem PySem.Spec PyProof.Rows L2
section
variable {K : PySem.W.Frag} {H : Hp} {W m : List Addr}
end
end Fk
/-! ## several names at once, some of them seen by comprehensions -/
namespace Fk
open PySem PySem.Spec PyProof.Rows L2
section
variable {X : Cx} {Γ : Gam} {W : WX} {σ : L2.St} {H H' : Hp} {st : Ss} {p : Pd} {K : PySem.W.Frag} {pos : Pos} {m ar am ao ab : List Addr}
end
end Fk
/-! ## methods of new lists; new lists by +; a place of a builder as a target -/
namespace Fk
open PySem PySem.Spec PyProof.Rows L2
section
variable {X : Cx} {Γ : Gam} {W : WX} {σ : L2.St} {H H' : Hp} {st : Ss} {p : Pd} {K : PySem.W.Frag} {pos apos cpos : Pos} {m ar am ao ab : List Addr}
def isL : AV → Bool
  | .lst _ _ => true
  | _ => false
/-- x.f(y), both of them values -/
def eBM (f : List AV → List AV → Option AV) (mo me : M AV) : M AV := fun st => (mo st).bind fun x s1 => bif isL x then (me s1).bind fun y s2 => ofO (f s2.s [x, y]) s2 else .bad
/-- a + b, a list that is owned -/
def oAddO : AV → AV → Option AV
  | .lst _ a, .lst _ b => if a.length + b.length ≤ 16777216 then some (.lst true (a ++ b)) else none
  | _, _ => none
theorem s_addO {a b : Expr} {ma mb : M AV} (ha : PE X a (rdE X.K Γ W ma)) (hb : PE X b (rdE X.K Γ W mb)) : PE X (.BinOp a .Add b pos) (rdO X.K Γ W (e2 oAddO ma mb)) := by
  refine pe_imp (pe_op o_addB ha hb) fun σ H Q h => ?_
  obtain ⟨st, p, R, h⟩ := h
  refine ⟨st, p, R, ?_⟩
  unfold e2 at h
  cases ea : ma st with
  | bad => rw [ea] at h; exact h
  | err c s1 => rw [ea] at h; exact h
  | ok x s1 =>
    rw [ea] at h
    intro v1 H1 R1
    refine ⟨s1, _, R1, ?_⟩
    simp only [Res.bind_ok] at h
    cases eb : mb s1 with
    | bad => rw [eb] at h; exact h
    | err c s2 =>
      rw [eb] at h
      intro H2 R2
      exact h H2 R2.drop
    | ok y s2 =>
      rw [eb] at h
      simp only [Res.bind_ok] at h
      intro v2 H2 R2
      cases ef : oAddO x y with
      | none => simp only [ef, ofO_none] at h
      | some d =>
        simp only [ef, ofO_some] at h
        obtain ⟨m, ar, am, ao, ab, R3, r1, r2⟩ := R2.two
        unfold oAddO at ef
        split at ef
        · split at ef
          · cases ef
            obtain ⟨a, us, rfl, h1, q1⟩ := r1.lst_i
            obtain ⟨b, ws, rfl, h2, q2⟩ := r2.lst_i
            have l1 := q1.len
            have l2 := q2.len
            have z0 := mx_eq
            exact .inl (.inr (.inr (.inl ⟨a, b, us, ws, rfl, rfl, h1, h2, by omega, fun q hq => h _ _ (R3.newLst hq (q1.app q2))⟩)))
          · cases ef
        · cases ef
/-- a place of a list that is owned by a name -/
def gIx (i : Nat) (mk : Ss → Option AV) (d : AV) (st : Ss) : Option Ss := match ownL (getSl st.r i), mk st with
  | some xs, some y => (setIx xs y d).map fun ys => putL i ys st
  | _, _ => none
/-- x[i], y[j] = a, b -/
def sPut2 (i j : Nat) (ki kj : Ss → Option AV) (ma mb : M AV) : M Fl := fun st => (ma st).bind fun x s1 => (mb s1).bind fun y s2 => match gIx i ki x s2 with
  | some s3 => (match gIx j kj y s3 with
    | some s4 => .ok .nx s4
    | none => .bad)
  | none => .bad
end
end Fk
/-! ## min of a list of tuples of ints -/
namespace Fk
open PySem PySem.Spec PyProof.Rows L2 PySem.W
section
variable {K : PySem.W.Frag}
end
end Fk
/-! ## a, *b = t -/
namespace Fk
open PySem PySem.Spec PyProof.Rows L2 PySem.W
section
variable {prog : Program} {w : World} {A : Around} {E : Value → Shared → Prop} {s : Shared}
theorem nolen_ti : typeLookup (.type "tuple_iterator") "__len__" = pure none := by rw [typeLookup_type, builtinLookup_eq_fast]; kernel_rfl
theorem hint_ti : typeLookup (.type "tuple_iterator") "__length_hint__" = pure (some (.builtin "tuple_iterator.__length_hint__")) := by rw [typeLookup_type, builtinLookup_eq_fast]; kernel_rfl
theorem walks_from {I ax : Addr} {items : Array Value} (hh : A.handled = none) (hne : ax ≠ I) (k : Nat) (hk : k ≤ items.size) :
    Walks prog w A I [I, ax] [I] (items.size - k) (fun i v => items[i + k]? = some v) (fun i h => h.IsTupleIter I ax (i + k) ∧ h.IsTuple ax items) where
  sub := (Walks.tuple (prog := prog) (w := w) hh I ax hne items).sub
  frame := fun i => (Walks.tuple (prog := prog) (w := w) hh I ax hne items).frame (i + k)
  item := fun i s Q E hi st hQ => (Walks.tuple (prog := prog) (w := w) hh I ax hne items).item (i + k) s Q E (by omega) st fun v h' tk p st' kp => hQ v h' tk p (by rw [show i + 1 + k = i + k + 1 by omega]; exact st') kp
  done := fun s Q E st hQ => (Walks.tuple (prog := prog) (w := w) hh I ax hne items).done s Q E (by rw [show items.size - k + k = items.size by omega] at st; exact st) hQ
  self := fun i => (Walks.tuple (prog := prog) (w := w) hh I ax hne items).self (i + k)
theorem collect_ti {it l : Addr} {items : Array Value} {k : Nat} {Q : List Value → Shared → Prop} (hh : A.handled = none) (hit : s.heap.IsTupleIter it l k) (hl : s.heap.IsTuple l items) (hne : l ≠ it) (hk : k ≤ items.size) (hn : items.size ≤ sizeLine)
    (hQ : ∀ (h' : Heap) (tk : Nat) (acc : Array Value), (∀ b o, b ≠ it → s.heap.get? b = some o → h'.get? b = some o) → ItemsOf (fun i v => items[i + k]? = some v) acc (items.size - k) → Q acc.toList { s with heap := h', toks := tk }) :
    wpAny (model prog w) A (collect (.ref it)) Q E s := by
  have W := (walks_from (prog := prog) (w := w) (A := A.in1) (items := items) hh hne k hk).toS
  obtain ⟨oi, hoi, _⟩ := id hit
  obtain ⟨ol, hol, _⟩ := id hl
  have hSi : s.heap.objs.size ≠ it := Nat.ne_of_gt (Heap.lt_size hoi)
  have hSl : s.heap.objs.size ≠ l := Nat.ne_of_gt (Heap.lt_size hol)
  have hSf : s.heap.objs.size ∉ [it, l] := by simp only [List.mem_cons, List.not_mem_nil, or_false, not_or]; exact ⟨hSi, hSl⟩
  unfold collect
  refine wpAny_bind (wpAny_runValue (codeAny_builtin F.entry_proto_collect ?_))
  rw [Around.under_plainId F.plain_proto_collect _]
  show wpAny _ A.in1 (newList [] >>= fun l' => again (.builtin "list.__iadd__" ⟨[l', .ref it], []⟩)) _ _ s
  refine wpAny_bind (wpAny_newObj_type ?_)
  refine wpAny_pure ⟨plainId_quiet F.plain_list_iadd _, codeAny_builtin F.entry_list_iadd ?_⟩
  rw [Around.under_plainId F.plain_list_iadd _]
  have hS₁ : (s.heap.push { cls := .type "list", data := .seq ([] : List Value).toArray }).get? s.heap.objs.size = some { cls := .type "list", data := .seq ([] : List Value).toArray } := Heap.get?_push_size _ rfl
  have hit1 : (s.heap.push { cls := .type "list", data := .seq ([] : List Value).toArray }).IsTupleIter it l k := hit.at fun o e => Heap.get?_push_of_some _ e
  have hl1 : (s.heap.push { cls := .type "list", data := .seq ([] : List Value).toArray }).IsTuple l items := hl.push _
  have hT : ({ s with heap := s.heap.push { cls := .type "list", data := .seq ([] : List Value).toArray } } : Shared).TypeIs (.ref it) "tuple_iterator" := by
    obtain ⟨o, ho, hc, _⟩ := id hit1
    exact ⟨o, ho, hc⟩
  have h1 : Builtin.List.listSameRef (.ref s.heap.objs.size) (.ref it) = false := by simp [Builtin.List.listSameRef, hSi]
  show wpAny _ A.in1 (Builtin.List.listExtendWith (.ref s.heap.objs.size) (.ref it) (.ref s.heap.objs.size)) _ _ _
  unfold Builtin.List.listExtendWith
  refine wpAny_bind (wpAny_typeOf hT ?_)
  rw [if_neg (by rw [h1]; decide)]
  refine wpAny_bind (W.self 0 _ _ _ ⟨by rw [Nat.zero_add]; exact hit1, hl1⟩ ?_)
  refine wpAny_bind (wpAny_holding ?_)
  unfold Builtin.List.listLengthHint
  refine wpAny_bind (wpAny_specialOf hT nolen_ti ?_)
  show wpAny _ A.in1 (specialOf (Value.ref it) (Str.ofString "__length_hint__") >>= _) _ _ _
  refine wpAny_bind (wpAny_specialOf hT hint_ti ?_)
  generalize hid : ("tuple_iterator.__length_hint__" : String) = id0
  wp_delta
  rw [show splitId id0 = some ("tuple_iterator", "__length_hint__") from by subst hid; decide +kernel]
  subst hid
  refine wpAny_bind (wpAny_isInstance (b := true) hT (by rw [isSubtype_type]; kernel_rfl) ?_)
  refine wpAny_pure ?_
  rw [if_neg (by decide)]
  refine wpAny_pure ⟨plainId_quiet F.plain_extend_loop _, codeAny_extend_loopS W (by omega) _ hSf _ (items.size - k) 0 _ _ _ rfl (Nat.zero_le _) ⟨by rw [Nat.zero_add]; exact hit1, hl1⟩ hS₁ (ItemsOf.nil _) fun s' acc' c' hm hS' hacc => ?_⟩
  show wpAny _ A (load s.heap.objs.size >>= _) _ _ s'
  refine wpAny_bind (wpAny_load hS' ?_)
  refine wpAny_pure ?_
  rw [Moved.eq_with hm]
  refine hQ s'.heap s'.toks acc' (fun b o hb e => hm.heap b o (fun hmem => ?_) (Heap.get?_push_of_some _ e)) hacc
  rcases List.mem_cons.mp hmem with e' | hmem
  · exact absurd (Heap.lt_size e) (by rw [e']; exact Nat.lt_irrefl _)
  · exact hb (List.mem_singleton.mp hmem)
theorem items_acc {items acc : Array Value} {k : Nat} (h : ItemsOf (fun i v => items[i + k]? = some v) acc (items.size - k)) (hk : k ≤ items.size) : acc.toList = items.toList.drop k := by
  obtain ⟨h1, h2⟩ := h
  apply List.ext_getElem?
  intro i
  rw [List.getElem?_drop]
  by_cases c : i < acc.size
  · obtain ⟨v, hv, hp⟩ : ∃ v, acc[i]? = some v ∧ items[i + k]? = some v := by
      refine ⟨acc[i], by simp [c], ?_⟩
      simpa using h2 i _ (by simp [c])
    have e1 : acc.toList[i]? = some v := by simpa using hv
    have e2 : items.toList[k + i]? = some v := by rw [Nat.add_comm]; simpa using hp
    rw [e1, e2]
  · rw [List.getElem?_eq_none (by simpa using Nat.le_of_not_lt c), List.getElem?_eq_none (by simp; omega)]
theorem unpackItems_star {t : Addr} {x : Value} {rest : List Value} {Q : List Value → Shared → Prop} (hh : A.handled = none) (ht : IsTup s.heap t (x :: rest).toArray) (hn : rest.length + 1 ≤ sizeLine)
    (hQ : ∀ (h' : Heap) (tk : Nat), (∀ b o, s.heap.get? b = some o → h'.get? b = some o) → Q [x, .ref h'.objs.size] { s with heap := h'.push { cls := .type "list", data := .seq rest.toArray }, toks := tk }) : wpAny (model prog w) A (unpackItems (.ref t) 2 (some 1)) Q E s := by
  have hlt : t ≠ s.heap.objs.size := by obtain ⟨o, ho, _⟩ := ht; exact Nat.ne_of_lt (Heap.lt_size ho)
  unfold unpackItems
  refine wpAny_bind ?_
  unfold notIterableAtAll
  refine wpAny_bind (wpAny_specialOf ht.typeIs slot_tuple_iter.lookup ?_)
  refine wpAny_pure ?_
  simp only [Bool.false_eq_true, if_false]
  refine wpAny_bind (wpAny_holding (iter_tuple ht ?_))
  refine wpAny_bind (wpAny_holding (draw_tuple hlt 1 0 _ _ ⟨_, Heap.get?_push_size _ rfl, rfl, rfl⟩ (ht.push _) (by simp) fun h₁ hit₁ hs₁ => ?_))
  have hall : List.take 1 (List.drop 0 (x :: rest).toArray.toList) = [x] := by simp
  rw [hall]
  rw [if_neg (by simp)]
  have ht₁ : IsTup h₁ t (x :: rest).toArray := (ht.push _).extBut hs₁.extBut hlt
  refine wpAny_bind (wpAny_holding (collect_ti (items := (x :: rest).toArray) (k := 1) hh hit₁ ht₁ hlt (by simp) (by simpa using hn) fun h' tk acc kp hacc => ?_))
  have ea : acc.toList = rest := by
    have := items_acc hacc (by simp)
    simpa using this
  rw [ea]
  rw [if_neg (by omega)]
  have e1 : List.take (rest.length - (2 - 1 - 1)) rest = rest := by simp
  have e2 : List.drop (rest.length - (2 - 1 - 1)) rest = [] := by simp
  rw [e1, e2]
  refine wpAny_bind (wpAny_newObj_type ?_ (by show rest.toArray.size ≤ sizeLine; rw [List.size_toArray]; omega))
  refine wpAny_pure ?_
  exact hQ h' tk fun b o e => kp b o (Nat.ne_of_lt (Heap.lt_size e)) (hs₁.extBut b o (Nat.ne_of_lt (Heap.lt_size e)) (Heap.get?_push_of_some _ e))
theorem assign_star {env : Env} {elts : List Expr} {x1} {pos : Pos} {t : Addr} {x : Value} {rest : List Value} {Q : Unit → Shared → Prop} (hh : A.handled = none) (ht : IsTup s.heap t (x :: rest).toArray) (hz : rest.length + 1 ≤ sizeLine)
    (hn : (assignEach elts env).length = 2) (hstar : (assignEach elts env).findIdx? (·.1) = some 1)
    (h : ∀ (h' : Heap) (tk : Nat), (∀ b o, s.heap.get? b = some o → h'.get? b = some o) → wpAny (model prog w) A (assignInOrder ((assignEach elts env).map (·.2)) [x, .ref h'.objs.size]) Q E { s with heap := h'.push { cls := .type "list", data := .seq rest.toArray }, toks := tk }) :
    wpAny (model prog w) A (assign (.Tuple elts x1 pos) env (.ref t)) Q E s := by
  rw [assign_Tuple]
  refine wpAny_bind (wpAny_standAt ?_)
  unfold unpack
  rw [hn, hstar]
  exact wpAny_bind (wpAny_holding (unpackItems_star hh ht hz h))
end
section
variable {X : Cx} {Γ : Gam} {W : WX} {pos : Pos}
def gStar (K : PySem.W.Frag) (t : TGs) : TG := fun v σ H Q => ∃ a x xs, v = .ref a ∧ SqT K H a (x :: xs) ∧ ∀ p, H p = none → t [x, .ref p] σ (upd H p (.lst xs)) Q
theorem pg_star {es : List Expr} {k : Nat} {t : TGs} (hc : X.calm = true) (h : PGs X es t)
    (hn : (assignEach es X.env).length = 2 := by rfl) (hst : (assignEach es X.env).findIdx? (·.1) = some 1 := by rfl) : PG X (.Tuple es k pos) (gStar X.K t) := by
  refine ⟨fun pins s σ H v u Q I r hw => ?_⟩
  obtain ⟨a, x, xs, e1, hq, hw⟩ := hw
  subst e1
  cases r
  obtain ⟨its, rv, ht, hz⟩ := I.tuple hq
  cases rv with
  | cons rx rxs =>
    rename_i y ys
    have hl : xs.length = ys.length := rxs.length
    refine assign_star (I.ok.hd hc) ht (by simp at hz; omega) hn hst fun h' tk hk => ?_
    have I0 : Inv X pins σ H { s with heap := h', toks := tk } := I.kept hk
    have hf : H h'.objs.size = none := I0.hok.fresh (Nat.le_refl _)
    have I1 : Inv X pins σ (upd H h'.objs.size (.lst xs)) { s with heap := h'.push { cls := .type "list", data := .seq ys.toArray }, toks := tk } :=
      I0.laid (t' := tk) (fun b o e => Heap.get?_push_of_some _ e) (Nat.le_refl _) ⟨by simp at hz; omega, ys, 0, rxs, Heap.get?_push_size _ rfl⟩
    exact h.run pins _ σ _ [x, .ref h'.objs.size] _ Q I1 (.cons rx (.cons rfl .nil)) (hw _ hf)
theorem pgs_star {x y : Str} {px py pp : Pos} {t : TGs} (h : PGs X [.Name x px, .Name y py] t) (he : (assignEach [.Name x px, .Starred (.Name y py) pp] X.env).map (·.2) = (assignEach [.Name x px, .Name y py] X.env).map (·.2) := by rfl) : PGs X [.Name x px, .Starred (.Name y py) pp] t :=
  ⟨fun pins s σ H vs us Q I r q => by rw [he]; exact h.run pins s σ H vs us Q I r q⟩
/-- the first, and a list of the rest -/
def gSt (i j : Nat) : Tg := fun d st => match d with
  | .tup (x :: xs) => some ⟨setSl (setSl st.r i (.im x)) j (.im (.lst false xs)), st.s⟩
  | _ => none
theorem s_gstar {i j : Nat} {x y : Str} {px py pp : Pos} {k : Nat} (hc : X.calm = true) (hN : X.N.Nodup) (hi : X.N[i]? = some x) (hj : X.N[j]? = some y) (hx : Loc X.env.scope x) (hy : Loc X.env.scope y)
    (hf : X.fn x = true ∨ X.env.scope.names.lookup x = some .local := by first | exact .inl rfl | exact .inr rfl | assumption) (hf2 : X.fn y = true ∨ X.env.scope.names.lookup y = some .local := by first | exact .inl rfl | exact .inr rfl | assumption)
    (he : (assignEach [.Name x px, .Starred (.Name y py) pp] X.env).map (·.2) = (assignEach [.Name x px, .Name y py] X.env).map (·.2) := by rfl)
    (g1 : (assignEach [.Name x px, .Name y py] X.env).map (·.2) = assign (.Name x px) X.env :: (assignEach [.Name y py] X.env).map (·.2) := by rfl)
    (g2 : (assignEach [.Name y py] X.env).map (·.2) = assign (.Name y py) X.env :: (assignEach [] X.env).map (·.2) := by rfl)
    (hn : (assignEach [.Name x px, .Starred (.Name y py) pp] X.env).length = 2 := by rfl) (hst : (assignEach [.Name x px, .Starred (.Name y py) pp] X.env).findIdx? (·.1) = some 1 := by rfl) :
    PG X (.Tuple [.Name x px, .Starred (.Name y py) pp] k pos) (rdG X.K Γ [i, j] (gSt i j)) := by
  refine pg_imp (pg_star hc (pgs_star (pgs_cons (pg_name hN hi hx hf) (pgs_cons (pg_name hN hj hy hf2) pgs_nil g2) g1) he) hn hst) fun v σ H Q h => ?_
  obtain ⟨st, p, d, st', R, e, h⟩ := h
  unfold gSt at e
  split at e
  · rename_i z zs
    cases e
    obtain ⟨m, ar, am, ao, ab, R0, r⟩ := R.one
    obtain ⟨a, us, rfl, hs, q⟩ := r.tup_i
    cases us with
    | nil => have := q.len; simp at this
    | cons u us =>
      obtain ⟨q1, q2⟩ := q.head0
      refine ⟨a, u, us, rfl, hs, fun l hl => ⟨u, [.ref l], rfl, .ref l, [], rfl, rfl, ?_⟩⟩
      have R1 := R0.lst hl q2
      have q3 := q1.keep (Kp.new (o := .lst us) hl) (fun _ z => nomatch z) (fun _ _ n => n) (fun _ _ e => e) (fun _ z => nomatch z)
      have R2 : Rel X.K Γ σ (upd H l (.lst us)) st ((p.sh (.ref l) (.lst false zs)).sh u z) := ⟨m, ar, am, ao, ab, R1.setI (q3.cons0 R1.ri)⟩
      refine h _ _ ?_ ((R2.put i).put j)
      have w1 : wipe (σ.set i (some u)) [i, j] = wipe σ [i, j] := wipe_sub (wipe_set (σ := σ) (i := i) (o := some u)) (by simp)
      have w2 : wipe ((σ.set i (some u)).set j (some (.ref l))) [i, j] = wipe (σ.set i (some u)) [i, j] := wipe_sub (wipe_set (σ := σ.set i (some u)) (i := j) (o := some (.ref l))) (by simp)
      exact w2.trans w1
  · cases e
end
end Fk
/-! ## except .. as e: the exception looked at -/
namespace Fk
open PySem PySem.Spec PyProof.Rows L2
/-- isinstance(e, ..), e the exception: it is the first object of the world that is looked at -/
def eIsX (i : Nat) (b : Bool) : M AV := fun st => match getSl st.r i with
  | .im (.loc 0) => .ok (.bl b) st
  | _ => .bad
section
variable {X : Cx} {Γ : Gam} {W : WX} {σ : L2.St} {H : Hp} {st : Ss} {p : Pd} {K : PySem.W.Frag} {U cs : List Str} {c : Str} {z : Addr × Obj}
end
section
variable {P : Program} {w : World} {K : PySem.W.Frag} {mg : Str → Option Value} {base : Heap} {k : Nat} {f : Addr} {fd : FuncData} {ps N U : List Str} {x qual : Str} {params : Arguments} {body : List Stmt} {scope : Scope} {dvs : List V} {kws : List (Str × V)} {T : List (Addr × Str)}
end
section
variable {X : Cx} {Γ : Gam} {W : WX} {σ : L2.St} {H : Hp} {st : Ss} {p : Pd} {K : PySem.W.Frag} {U cs : List Str} {c x : Str} {z : Addr × Obj} {q pos : Pos} {e : Expr} {es : List Expr} {k j n : Nat} {ps : List Str} {g : Str → Fn} {ma : M (List AV)}
/-! ### the clause -/
def atomA : AV → Bool
  | .non | .bl _ | .int _ | .str _ => true
  | _ => false
/-- data without objects: it may pass from one world to another -/
def flatA : AV → Bool
  | .non | .bl _ | .int _ | .str _ => true
  | .tup xs => xs.all atomA
  | .lst false xs => xs.all atomA
  | _ => false
def plainA : AV → Bool
  | .non | .bl _ | .int _ | .str _ => true
  | .tup xs => xs.all atomA
  | _ => false
def mskS : List Bool → List Sl → List Sl
  | _, [] => []
  | [], _ :: r => .no :: mskS [] r
  | b :: bs, x :: r => (bif b then (match x with
    | .im d => bif flatA d then .im d else .no
    | _ => .no) else .no) :: mskS bs r
def hxS (keep : List Bool) (n : Nat) (r : List Sl) : List Sl := setSl (mskS keep r) n (.im (.loc 0))
def sTryAs (U cs : List Str) (n : Nat) (keep : List Bool) (mb : M Fl) (mh : Str → M Fl) : M Fl := fun st => match mb st with
  | .err c s1 => if c ∈ U then (if c ∈ cs then (match mh c ⟨hxS keep n s1.r, [.ded]⟩ with
    | .ok (.rt d) _ => bif plainA d then .ok (.rt d) s1 else .bad
    | _ => .bad) else .err c s1) else .bad
  | r => r
end
end Fk
/-! ## lambdas without parameters -/
namespace Fk
open PySem PySem.Spec PyProof.Rows L2 LamX
section
variable {X : Cx} {pins : List (Addr × Obj)} {σ : L2.St} {H : Hp} {s : Shared}
end
section
variable {K : PySem.W.Frag} {Γ : Gam} {σ : L2.St} {H H1 : Hp} {st : Ss} {p : Pd} {P c' : Addr} {q : Str}
/-- what stood when the def was entered, as it stands now -/
theorem Rl.frame {m ar am ao ab : List Addr} {vs : List V} {xs : List AV} (R : Rl K Γ σ H st p m ar am ao ab) (hk : ∀ b ∈ Γ.A0, ∃ o, Γ.H0 b = some o ∧ mutO o = true) : Tr Γ.H0 H (Γ.U ++ Γ.A0) (wOf Γ ar am ao) Γ.m0 m Γ.A0 := by
  refine ⟨⟨fun b o e n t => ?_, hk⟩, fun b hb => by simp [hb], fun b ⟨o, e⟩ n z => ?_, R.pm⟩
  · obtain ⟨o', e', f⟩ := R.kp b o e n
    rw [f t] at e'
    exact e'
  · have f := R.fr b
    simp only [wOf, List.mem_append] at n z f
    rcases z with z | z
    · exact n (.inl z)
    · rcases f z with y | y
      · exact n (.inr y)
      · rw [e] at y
        cases y
def imS : Sl → Sl
  | .im d => .im d
  | _ => .no
theorem Rs.imS {W m ar : List Addr} {r : List Sl} (q : Rs K H W m σ r ar) : Rs K H W m σ (r.map Fk.imS) [] := by
  induction q with
  | nil => exact .nil
  | no _ i => exact .no i
  | im h _ i => exact .im h i
  | ow _ _ i => exact .no i
/-- what a lambda is worth, by its maker's names and the objects -/
def runL (me : M AV) (r : List Sl) (S : List AV) : Res AV (List AV) := match me ⟨r.map imS, S⟩ with
  | .ok d st => .ok d st.s
  | .err c st => .err c st.s
  | .bad => .bad
abbrev Thk := List AV → Res AV (List AV)
def eThk (g : Thk) : M AV := fun st => back st.r (g st.s)
end
section
variable {X : Cx} {pins : List (Addr × Obj)} {σ : L2.St} {H : Hp} {s : Shared} {Γ Γz : Gam} {W : WX}
end
end Fk
/-! ## a def that is handed a lambda -/
namespace Fk
open PySem PySem.Spec PyProof.Rows L2 LamX
section
variable {X : Cx} {Γ : Gam} {W : WX} {f : Addr} {pos : Pos} {U cs : List Str}
end
section
variable {P : Program} {w : World} {K : PySem.W.Frag} {mg : Str → Option Value} {base : Heap} {k : Nat} {f : Addr} {fd : FuncData} {N : List Str} {x qual a : Str} {params : Arguments} {body : List Stmt} {scope : Scope} {dvs : List V} {kws : List (Str × V)} {T : List (Addr × Str)}
end
def eSaid (mf : Thk → Fn) (me : M AV) : M AV := fun st => back st.r (mf (runL me st.r) [.ded] st.s)
section
variable {X : Cx} {Γ : Gam} {W : WX} {k j kk : Nat} {x a : Str} {mf : Thk → Fn} {me : M AV} {c P : Addr} {lp : Arguments} {lb : Expr} {ls : Scope} {p lpos pos : Pos}
end
end Fk
/-! ## defs that make lambdas; the law's call and its end, with tables of code -/
namespace Fk
open PySem PySem.Spec PyProof.Rows L2 LamX
section
variable {P : Program} {w : World} {K : PySem.W.Frag} {mg : Str → Option Value} {base : Heap} {k : Nat} {f : Addr} {fd : FuncData} {ps N : List Str} {sp : Sp} {x qual : Str} {params : Arguments} {body : List Stmt} {scope : Scope} {dvs : List V} {kws : List (Str × V)} {T : List (Addr × Str)}
end
end Fk
/-! ## calls with keywords -/
namespace Fk
open PySem PySem.Spec PyProof.Rows L2
/-- where a parameter's value comes from: the place, the keyword, the default of this number -/
inductive Src where
  | p (i : Nat) | k (j : Nat) | d (i : Nat)
def Src.get {α : Type} (xs zs ds : List α) : Src → Option α
  | .p i => xs[i]?
  | .k j => zs[j]?
  | .d i => ds[i]?
def srcs {α : Type} (xs zs ds : List α) : List Src → List α
  | [] => []
  | s :: r => match s.get xs zs ds with
    | some x => x :: srcs xs zs ds r
    | none => srcs xs zs ds r
section
variable {K : PySem.W.Frag} {H : Hp} {W m : List Addr}
end
/-! ### what a call with keywords binds -/
section
variable {K : PySem.W.Frag} {x qual : Str} {params : Arguments} {body : List Stmt} {scope : Scope} {dvs : List V} {kws : List (Str × V)} {f : Addr} {fd : FuncData} {ps : List Str}
end
def eCallK (np n m : Nat) (f : Fn) (ss : List Src) (ds : List AV) (ma mk : M (List AV)) : M AV := fun st => (ma st).bind fun xs s1 => (mk s1).bind fun zs s2 => if xs.length = n ∧ zs.length = m ∧ (srcs xs zs ds ss).length = np then back s2.r (f (srcs xs zs ds ss) s2.s) else .bad
def eMethK (C nm : Str) (np n m : Nat) (f : Fn) (ss : List Src) (ds : List AV) (mo : M AV) (ma mk : M (List AV)) : M AV := fun st => (mo st).bind fun x s1 => bif clsOk s1.s C nm x then (ma s1).bind fun xs s2 => (mk s2).bind fun zs s3 => if xs.length = n ∧ zs.length = m ∧ (srcs (x :: xs) zs ds ss).length = np then back s3.r (f (srcs (x :: xs) zs ds ss) s3.s) else .bad else .bad
def eMakeK (C : Str) (np n m : Nat) (f : Fn) (ss : List Src) (ds : List AV) (ma mk : M (List AV)) : M AV := fun st => (ma st).bind fun xs s1 => (mk s1).bind fun zs s2 => if xs.length = n ∧ zs.length = m ∧ (srcs (.loc s2.s.length :: xs) zs ds ss).length = np then mkBack s2.r s2.s.length (f (srcs (.loc s2.s.length :: xs) zs ds ss) (s2.s ++ [.ins C [] []])) else .bad
section
variable {X : Cx} {Γ : Gam} {W : WX} {σ : L2.St} {H : Hp} {st : Ss} {p : Pd} {K : PySem.W.Frag} {pos apos q kpos : Pos} {o e : Expr} {es : List Expr} {kws : List Keyword} {x : Str} {k j n m np : Nat} {C nm : Str} {ps ks : List Str} {ss : List Src} {ds : List AV} {f : Fn} {mo me : M AV} {ma mk : M (List AV)}
end
end Fk
/-! ## sets of ints by comprehensions, their length -/
namespace Fk
open PySem PySem.Spec PyProof.Rows L2 PpSet
theorem set_fresh {H : Hp} {h : Heap} (P : Program) (w : World) : ObjOk P w H (h.push { cls := .type "set", dict := none, data := .set #[] 0 (.fresh 0 0 (!w.params.followText "set-order")) }) h.objs.size (.set (fun _ => false) 0) := (setR_fresh w).setOf
section
variable {X : Cx}
theorem addI_ok {pins : List (Addr × Obj)} {σ : L2.St} {H : Hp} {s : Shared} {E : Value → Shared → Prop} {D : Addr} {S : Int → Bool} {n : Nat} {y : Int} {t : Tok} {Q : Value → Shared → Prop} (I : Inv X pins σ H s) (hD : H D = some (.set S n)) (room : n + 1 < scanBound)
    (h : ∀ s', Inv X pins σ (upd H D (.set (fun j => S j || decide (j = y)) (if S y = true then n else n + 1))) s' → Q .none s') : wpAny (model X.prog X.w) X.A (call (.builtin "set.add") [.ref D, .int y t]) Q E s := by
  have R : s.heap.SetOf (intKind X.prog X.w) D S n := I.hok D _ hD
  refine call_set_add (knd := intKind X.prog X.w) (k := y) (by simp [intKind, Value.isInt]) rfl R room fun h' sb new => ?_
  have he : ∃ u, h'.get? D = some u := by
    obtain ⟨o, _, _, _, ho, _⟩ := id new
    exact ⟨o, ho⟩
  exact h _ (I.write (e := D) (t' := s.toks + 1) (by rw [hD]; trivial) (.inl rfl) (fun b u hb hu => (sb.2 b hb).trans hu) he new)
def tScI (wi : TI) (g : TG) (tt : TT) (te : TE) (vs : List Nat) : TE := fun σ H Q => wi σ H fun J H1 => ∀ D, H1 D = none → ∃ W : Nat → Nat → Hp → Prop, (∃ m, W 0 m (upd H1 D (.set (fun _ => false) 0))) ∧ ∀ i m H, W i m H →
  (J.stop i H ∧ Q (.ref D) H) ∨ (J.go i H ∧ ∃ Nx : Hp → Prop, (∀ H', Nx H' → ∃ m', m' < m ∧ W (i + 1) m' H') ∧ ∀ x H', J.yld i H x H' → g x (L2.wipe σ vs) H' fun σ2 H2 => L2.wipe σ2 vs = L2.wipe σ vs ∧ tt σ2 H2 fun b H3 =>
    if b = true then te σ2 H3 fun y H4 => ∃ (c : Int) (S : Int → Bool) (n : Nat), y = .int c ∧ H4 D = some (.set S n) ∧ n + 1 < scanBound ∧ Nx (upd H4 D (.set (fun j => S j || decide (j = c)) (if S c = true then n else n + 1))) else Nx H3)
theorem sci_core {pins : List (Addr × Obj)} {s : Shared} {σ : L2.St} {H : Hp} {Q : VK} {elt tg iter : Expr} {ifs : List Expr} {scope : Scope} {own : List (PySem.Str × Nat)} {pos pos' : Pos} {wi : TI} {g : TG} {tt : TT} {te : TE} {us0 : Option (Value → Sem Unit)} {Qf : Value → Shared → Prop}
    (hc : X.calm = true) (hN : X.N.Nodup) (I : Inv X pins σ H s) (hi : PI X tg iter wi) (bok : BlkOk X.N X.env.scope scope own)
    (hg : ∀ (sq : Shared) (Hq : Hp) (Cq : Addr) (cq : List (PySem.Str × Addr)) (fq : List Addr), PG (X.blk sq Hq scope (compEnvC scope cq Cq X.env) fq) tg g) (ht : ∀ (sq : Shared) (Hq : Hp) (Cq : Addr) (cq : List (PySem.Str × Addr)) (fq : List Addr), PTs (X.blk sq Hq scope (compEnvC scope cq Cq X.env) fq) ifs tt)
    (he : ∀ (sq : Shared) (Hq : Hp) (Cq : Addr) (cq : List (PySem.Str × Addr)) (fq : List Addr), PE (X.blk sq Hq scope (compEnvC scope cq Cq X.env) fq) elt te) (hs : ∀ x, foldedSetIterable iter X.env x = pure x)
    (h : tScI wi g tt te (own.map (·.2)) σ H Q)
    (fine : ∀ D C s' m H', Inv X pins σ H' s' → Q (.ref D) H' → s'.heap.Ns C m → FpOk X pins H' C → compPost (model X.prog X.w) X.A X.xe us0 Qf (.ref D) C (.ok .next) s') :
    wpAny (model X.prog X.w) X.A (comprehension (.SetComp elt [⟨tg, iter, ifs, 0⟩] scope pos) scope X.env pos' (newSet (.type "set")) false (eval iter X.env) us0) Qf X.xe s := by
  have clo : ∀ y ∈ scope.names, y.2 = .free → ∃ c, X.env.cells.lookup y.1 = some c := fun y hy e => by
    rcases bok.free y hy e with k | k
    · exact I.ok.has _ (.inl k)
    · exact I.ok.has _ (.inr k)
  refine wpAny_comprehension_free (use := us0) rfl hs (closure_ok clo) bok.kind (fun y hy e => by rw [bok.uniq y hy, e])
    (thn (hi.run pins s σ H _ I h) fun xw s1 hw => thn hw fun iw s2 h2 => ?_)
  obtain ⟨it, fp, tn, J, H2, e, J2, T, at2, gp2, q⟩ := h2
  subst e
  refine newSet_ok (newEnv_comp ?_)
  generalize eD : s2.heap.objs.size = D
  have nD : H2 D = none := J2.hok.fresh (Nat.le_of_eq eD)
  obtain ⟨W, ⟨mz, wz⟩, trn⟩ := q D nD
  generalize es3 : ({ s2 with heap := s2.heap.push { cls := .type "set", dict := none, data := .set #[] 0 (.fresh 0 0 (!X.w.params.followText "set-order")) } } : Shared) = sa
  have J3 : Inv X pins σ (upd H2 D (HO.set (fun _ => false) 0)) sa := by
    rw [← es3]
    refine J2.laid (t' := s2.toks) (fun b o e => Heap.get?_push_of_some _ e) (Nat.le_of_eq eD) ?_
    rw [← eD]
    exact set_fresh X.prog X.w
  have eh3 : sa.heap = s2.heap.push { cls := .type "set", dict := none, data := .set #[] 0 (.fresh 0 0 (!X.w.params.followText "set-order")) } := by rw [← es3]
  have lts : ∀ b ∈ fp, b < s2.heap.objs.size := fun b hb => by
    obtain ⟨o, e, _⟩ := T.obj _ _ at2 b hb
    exact Heap.lt_size e
  have gp3 : ∀ b ∈ fp, FpOk X pins (upd H2 D (HO.set (fun _ => false) 0)) b ∧ b < sa.heap.objs.size := fun b hb => by
    have hlt := lts b hb
    refine ⟨⟨?_, (gp2 b hb).2⟩, by rw [eh3, Heap.size_push]; exact Nat.lt_succ_of_lt hlt⟩
    rw [upd_ne (by rw [← eD]; exact Nat.ne_of_lt hlt)]
    exact (gp2 b hb).1
  have at3 : tn 0 sa.heap := T.keep _ _ _ at2 fun b _ o e => by rw [eh3]; exact Heap.get?_push_of_some _ e
  have J4 := block_start J3 bok hN gp3
  have pgt := hg sa (upd H2 D (HO.set (fun _ => false) 0)) sa.heap.objs.size (cellsFrom (sa.heap.objs.size + 1) scope.names (cloFrom X.env.cells scope.names [])) fp
  have ptt := ht sa (upd H2 D (HO.set (fun _ => false) 0)) sa.heap.objs.size (cellsFrom (sa.heap.objs.size + 1) scope.names (cloFrom X.env.cells scope.names [])) fp
  have pee := he sa (upd H2 D (HO.set (fun _ => false) 0)) sa.heap.objs.size (cellsFrom (sa.heap.objs.size + 1) scope.names (cloFrom X.env.cells scope.names [])) fp
  show codeAny _ _ (.compStart (.SetComp elt [⟨tg, iter, ifs, 0⟩] scope pos) 0 (.ref it) (.ref D) (compEnvC scope (cellsFrom (sa.heap.objs.size + 1) scope.names (cloFrom X.env.cells scope.names [])) sa.heap.objs.size X.env)) (compPost (model X.prog X.w) X.A X.xe us0 Qf (.ref D) sa.heap.objs.size) { sa with heap := pushCells (sa.heap.push { cls := .type "dict", data := .dict #[] }) scope.names }
  have nop : ∀ b ∈ fp, (upd H2 D (HO.set (fun _ => false) 0)) b = none := fun b hb => (gp3 b hb).1.1
  generalize ece : compEnvC scope (cellsFrom (sa.heap.objs.size + 1) scope.names (cloFrom X.env.cells scope.names [])) sa.heap.objs.size X.env = ev at J4 pgt ptt pee ⊢
  have cloc : ev.locals = sa.heap.objs.size := by subst ece; rfl
  generalize eHa : upd H2 D (HO.set (fun _ => false) 0) = Ha at J3 J4 pgt ptt pee wz nop gp3
  generalize es4 : ({ sa with heap := pushCells (sa.heap.push { cls := .type "dict", data := .dict #[] }) scope.names } : Shared) = sb4 at J4 ⊢
  have at4 : tn 0 sb4.heap := T.keep _ _ _ at3 fun b _ o e => by rw [← es4]; exact pushCells_keeps _ _ _ _ (Heap.get?_push_of_some _ e)
  have okf : ∀ {σ' : L2.St} {H' : Hp} {s' : Shared}, Inv (X.blk sa Ha scope ev fp) [] σ' H' s' → (∀ b ∈ fp, H' b = none) → ∀ b ∈ fp, FpOk (X.blk sa Ha scope ev fp) [] H' b := fun {σ' H' s'} J' hn b hb =>
    ⟨hn b hb, (J'.ok.exf b hb).1, J'.ok.exfs b hb, .inl hb, fun x c e => (J'.ok.exf b hb).2 x c e, fun p hp => absurd (show p ∈ ([] : List (Addr × Obj)) ++ [] from hp) (by simp)⟩
  have lup : codeAny (model X.prog X.w) X.A (.compLoop (.SetComp elt [⟨tg, iter, ifs, 0⟩] scope pos) 0 (.ref it) (.ref D) ev) (compPost (model X.prog X.w) X.A X.xe us0 Qf (.ref D) sa.heap.objs.size) sb4 := by
    refine compLoopS_any (fun n s' => ∃ i H', Inv (X.blk sa Ha scope ev fp) [] (wipe σ (own.map (·.2))) H' s' ∧ tn i s'.heap ∧ (∀ b ∈ fp, H' b = none) ∧ W i n H') ?_ mz ⟨0, Ha, J4, at4, nop, wz⟩
    rintro n sc5 ⟨i, Hc, J5, at5, nc, wc⟩
    rcases trn i n Hc wc with ⟨fin0, qend⟩ | ⟨gon, Nn, nxm, stp⟩
    · have tdn := T.done (X.blk sa Ha scope ev fp) rfl rfl rfl hc i [] sc5 _ Hc (fun _ _ => False) J5 (okf J5 nc) at5 fin0
      refine thnF tdn fun r sd6 ⟨hr, J6⟩ => ?_
      subst hr
      have J7 : Inv X pins σ Hc sd6 := J3.call' (ch := fp) J6.os J6.base J6.hok J6.bare fun b hb => ⟨(gp3 b hb).1.2.2.2.1, (gp3 b hb).1.2.1, (gp3 b hb).1.2.2.2.2.1, (gp3 b hb).1.2.2.2.2.2⟩
      have nC : Hc sa.heap.objs.size = none := by
        have z : Hc ev.locals = none := J6.free
        rw [cloc] at z
        exact z
      obtain ⟨m, hn, _⟩ := J6.loc
      have hn : sd6.heap.Ns ev.locals m := hn
      rw [cloc] at hn
      exact fine D sa.heap.objs.size sd6 m Hc J7 qend hn (J3.fpOk (Nat.le_refl _) nC)
    · have tit := T.item (X.blk sa Ha scope ev fp) rfl rfl rfl hc i [] sc5 _ Hc (fun _ _ => False) J5 (okf J5 nc) at5 gon
      refine thnF tit fun r sd6 ⟨u, hr, h6⟩ => ?_
      subst hr
      refine thnF h6 fun _ se7 ⟨x, He7, J7, re7, ye7, at7, ne7⟩ => ?_
      have J7' := J7.pinned (okf J7 ne7) (T.obj _ _ at7)
      refine thnF (pgt.run _ se7 _ He7 x u _ J7' re7 (stp x He7 ye7)) fun _ sf8 ⟨σe, Hf8, J8, hwe, qe8⟩ => ?_
      refine thnF (ptt.run _ sf8 σe Hf8 _ J8 qe8) fun b sg9 ⟨Hg9, J9, qe9⟩ => ?_
      have clz : ∀ {s' : Shared} {H' : Hp}, Inv (X.blk sa Ha scope ev fp) ([] ++ pinsAt fp se7.heap) σe H' s' → Nn H' → ∃ m, m < n ∧ ∃ i H', Inv (X.blk sa Ha scope ev fp) [] (wipe σ (own.map (·.2))) H' s' ∧ tn i s'.heap ∧ (∀ b ∈ fp, H' b = none) ∧ W i m H' := fun {s' H'} J' nxx => by
        obtain ⟨m', hm, w'⟩ := nxm H' nxx
        have pinq : ∀ b ∈ fp, ∀ o, se7.heap.get? b = some o → s'.heap.get? b = some o ∧ H' b = none := fun b hb o e =>
          let z := J'.pin (b, o) (List.mem_append_right _ (List.mem_append_right _ (mem_pinsAt hb e)))
          ⟨z.1, z.2.1⟩
        have hle : (wipe σ (own.map (·.2))).length = σe.length := by rw [← hwe, wipe_length]
        refine ⟨m', hm, i + 1, H', (J'.unpinned (pins := [])).weak hle (fun j v e => ?_), T.keep _ _ _ at7 fun b hb o e => (pinq b hb o e).1, fun b hb => ?_, w'⟩
        · rw [← hwe] at e
          exact (wipe_some e).1
        · obtain ⟨o, e, _⟩ := T.obj _ _ at7 b hb
          exact (pinq b hb o e).2
      cases b with
      | false =>
        simp only [Bool.false_eq_true, if_false] at qe9 ⊢
        exact clz J9 qe9
      | true =>
        simp only [if_true] at qe9 ⊢
        refine thnF (pee.run _ sg9 σe Hg9 _ J9 qe9) fun z sh10 ⟨yv, Hh10, J10, r10, cb, S0, n0, ey, hD10, hz10, nxx⟩ => ?_
        subst ey
        obtain ⟨tz, rfl⟩ := (show ∃ t, z = Value.int cb t from r10)
        exact addI_ok (X := X.blk sa Ha scope ev fp) J10 hD10 hz10 fun si11 J11 => clz J11 nxx
  exact codeAny_compStart_set lup (T.self X.A 0 _ _ _ at4 lup)
theorem pe_scI {elt tg iter : Expr} {ifs : List Expr} {scope : Scope} {own : List (PySem.Str × Nat)} {pos : Pos} {wi : TI} {g : TG} {tt : TT} {te : TE} (hc : X.calm = true) (hN : X.N.Nodup) (hi : PI X tg iter wi) (bok : BlkOk X.N X.env.scope scope own)
    (hgt : ∀ (sq : Shared) (Hq : Hp) (Cq : Addr) (cq : List (PySem.Str × Addr)) (fq : List Addr), PG (X.blk sq Hq scope (compEnvC scope cq Cq X.env) fq) tg g) (htt : ∀ (sq : Shared) (Hq : Hp) (Cq : Addr) (cq : List (PySem.Str × Addr)) (fq : List Addr), PTs (X.blk sq Hq scope (compEnvC scope cq Cq X.env) fq) ifs tt)
    (hee : ∀ (sq : Shared) (Hq : Hp) (Cq : Addr) (cq : List (PySem.Str × Addr)) (fq : List Addr), PE (X.blk sq Hq scope (compEnvC scope cq Cq X.env) fq) elt te) (hss : ∀ x, foldedSetIterable iter X.env x = pure x := by intro _; rfl) :
    PE X (.SetComp elt [⟨tg, iter, ifs, 0⟩] scope pos) (tScI wi g tt te (own.map (·.2))) := by
  refine ⟨fun pins s σ H Q I h => ?_⟩
  rw [eval_SetComp]
  refine sci_core hc hN I hi bok hgt htt hee hss h fun D C s' m H' J q hn f => ⟨m, hn, fun h2 sb => ?_⟩
  obtain ⟨y0, y1, y2, y3, y4, y5⟩ := f
  exact ⟨.ref D, H', J.turned (t' := s'.toks) (fun b o hb e => (sb.2 b hb).trans e) y0 y1 y3 y4 y5, rfl, q⟩
theorem call_lenS : CallR X (.builtin "len") (fun xs H Q => ∃ a S n, xs = [.ref a] ∧ H a = some (.set S n) ∧ n < 4096 ∧ Q (.int n) H) := by
  intro pins s σ H xs us Q I r ⟨a, S, n, hx, hs, hn, q⟩
  subst hx
  obtain ⟨u, rfl, rx⟩ := vals1 r
  cases rx
  have R : s.heap.SetOf (intKind X.prog X.w) a S n := I.hok a _ hs
  obtain ⟨o, es, ep, t, h1, h2, h3, _, _, _, h7, h8⟩ := R
  exact call_len_set h1 h2 h3 h7 (by omega) ⟨.int n, H, I.tok _, ⟨_, by rw [← h8]⟩, q⟩
end
/-! ### the rule -/
def addK (ks : List Int) (k : Int) : List Int := if k ∈ ks then ks else ks ++ [k]
theorem addK_is {S : Int → Bool} {n : Nat} {ks : List Int} (h : SetIs S n ks) (k : Int) : SetIs (fun j => S j || decide (j = k)) (if S k = true then n else n + 1) (addK ks k) := by
  unfold addK
  have hm := h.mem k
  by_cases c : k ∈ ks
  · rw [if_pos c, if_pos (by rw [hm]; exact decide_eq_true c)]
    refine ⟨fun j => ?_, h.len, h.nd⟩
    rw [h.mem j]
    by_cases e : j = k
    · subst e; simp [c]
    · simp [e]
  · rw [if_neg c, if_neg (by rw [hm]; simp [c])]
    refine ⟨fun j => ?_, by rw [List.length_append, ← h.len]; rfl, ?_⟩
    · rw [h.mem j]
      simp [Bool.or_comm]
    · rw [List.nodup_append]
      exact ⟨h.nd, by simp, fun a ha b hb e => c (by simp at hb; rw [← hb, ← e]; exact ha)⟩
def compS (t : Tg) (tt : M Bool) (te : M AV) (vs : List Nat) : List AV → List Int → Ss → Res (List Int) Ss
  | [], ks, st => .ok ks st
  | d :: ds, ks, st => match t d st with
    | none => .bad
    | some s0 => match tt s0 with
      | .ok false s1 => compS t tt te vs ds ks (s1.wipe vs)
      | .ok true s1 => match te s1 with
        | .ok (.int k) s2 => if ks.length < 1000 then compS t tt te vs ds (addK ks k) (s2.wipe vs) else .bad
        | _ => .bad
      | _ => .bad
def eSc (mi : M (List AV)) (t : Tg) (tt : M Bool) (te : M AV) (vs : List Nat) : M AV := fun st => (mi st).bind fun ds s1 => (compS t tt te vs ds [] (s1.wipe vs)).bind fun ks s2 => .ok (.set ks) s2
def eLenS (m : M AV) : M AV := fun st => (m st).bind fun d s1 => match d with
  | .set ks => if ks.length < 1000 then .ok (.int ks.length) s1 else .bad
  | _ => .bad
section
variable {X : Cx} {Γ : Gam} {W : WX} {σ : L2.St} {H : Hp} {st : Ss} {p : Pd} {K : PySem.W.Frag} {pos q pos' : Pos}
theorem Rl.newSet {m ar am ao ab : List Addr} (R : Rl K Γ σ H st p m ar am ao ab) {D : Addr} (h : H D = none) : Rel K Γ σ (upd H D (.set (fun _ => false) 0)) st (p.own (.ref D) (.set [])) :=
  (R.newO (o := .set (fun _ => false) 0) (d := .set []) h fun {H' W'} t h1 => .set h1 ⟨fun k => by simp, rfl, by simp⟩ .nil).rel
/-- an int goes into the set that is pending -/
theorem Rel.addS {D : Addr} {ks : List Int} {y : V} {k : Int} (R : Rel K Γ σ H st ((p.own (.ref D) (.set ks)).sh y (.int k))) : ∃ S n, y = .int k ∧ H D = some (.set S n) ∧ n = ks.length ∧ Rel K Γ σ (upd H D (.set (fun j => S j || decide (j = k)) (if S k = true then n else n + 1))) st (p.own (.ref D) (.set (addK ks k))).nob := by
  obtain ⟨m, ar, am, ao, ab, R⟩ := R
  have ry := R.ri.head0.1.int_i
  obtain ⟨cs, ao', eo, rd, ro'⟩ := R.ro.head
  cases rd with
  | @set _ S n _ _ _ as0 h e r0 =>
    obtain ⟨_, rfl⟩ := r0.nil_inv
    refine ⟨S, n, ry, h, e.len, ?_⟩
    have nd := R.nd
    have fr := R.fr
    have hq : D ∈ wOf Γ ar am ao := by rw [eo]; simp [wOf]
    have t : Tr H (upd H D (.set (fun j => S j || decide (j = k)) (if S k = true then n else n + 1))) (wOf Γ ar am ao) (wOf Γ ar am ao) m m [D] := Tr.put h rfl hq fun _ z => z
    have n0 : ∀ c ∈ ar, c ∉ [D] := fun c hc z => by
      simp only [wOf, eo, List.nodup_append, List.nodup_cons, List.mem_append, List.mem_cons, List.mem_singleton] at nd z
      grind
    have n1 : ∀ c ∈ am, c ∉ [D] := fun c hc z => by
      simp only [wOf, eo, List.nodup_append, List.nodup_cons, List.mem_append, List.mem_cons, List.mem_singleton] at nd z
      grind
    have n2 : ∀ c ∈ ao', c ∉ [D] := fun c hc z => by
      simp only [wOf, eo, List.nodup_append, List.nodup_cons, List.mem_append, List.mem_cons, List.mem_singleton, List.nil_append] at nd z
      grind
    refine ⟨m, ar, am, ao, [], t.rs R.rs n0, t.rp R.rm n1, t.rp0 R.ri.head0.2, ?_, .nil, R.nd, R.fr, fun a o e' n' => ?_, R.pm, R.gu, tabs_put R.tb h rfl⟩
    · have q := Rp.set (K := K) (W := wOf Γ ar am ao) (m := m) upd_same (addK_is e k) (t.rp ro' n2)
      have e3 : ao = D :: ao' := by simpa using eo
      rw [e3] at q ⊢
      exact q
    · obtain ⟨o2, e2, f2⟩ := R.kp a o e' n'
      have ne : a ≠ D := by
        rintro rfl
        rcases fr a (by rw [eo]; simp) with z | z
        · exact n' z
        · rw [e'] at z; cases z
      exact ⟨o2, by rw [upd_ne ne]; exact e2, f2⟩
theorem sc_in {mi : M (List AV)} {ns vs : List Nat} {t : Tg} {mt : M Bool} {me : M AV} {Q : VK} (hns : ∀ i ∈ ns, i ∈ vs) (h : rdO K Γ W (eSc mi t mt me vs) σ H Q) : tScI (rdI K Γ W mi) (rdG K Γ ns t) (rdT K Γ noX mt) (rdE K Γ noX me) vs σ H Q := by
  obtain ⟨st, p, R, h⟩ := h
  refine ⟨st, p, R, ?_⟩
  unfold eSc at h
  cases ea : mi st with
  | bad => rw [ea] at h; exact h
  | err c s1 => rw [ea] at h; exact h
  | ok ds s1 =>
    rw [ea] at h
    simp only [Res.bind_ok] at h
    have noerr : ∀ (ds : List AV) (ks : List Int) (st : Ss) (c : Str) (s : Ss), compS t mt me vs ds ks st ≠ .err c s := fun ds => by
      induction ds with
      | nil => intro ks st c s z; cases z
      | cons d ds ih =>
        intro ks st c s z
        unfold compS at z
        repeat' split at z
        all_goals first | exact ih _ _ _ _ z | cases z
    have h : match compS t mt me vs ds [] (s1.wipe vs) with
      | .ok ks st' => ∀ v H', Rel K Γ σ H' st' (p.nob.own v (.set ks)) → Q v H'
      | _ => False := by
      cases ec : compS t mt me vs ds [] (s1.wipe vs) with
      | bad => rw [ec] at h; exact h
      | err c s => exact absurd ec (noerr _ _ _ _ _)
      | ok xs s => rw [ec] at h; exact h
    intro J H1 pv px hl R1 J1 D hD
    refine ⟨fun i n H => n = ds.length - i ∧ i ≤ ds.length ∧ ∃ (s0 : Ss) (ks : List Int), Rel K Γ (L2.wipe σ vs) H (s0.wipe vs) ((p.nob.shs pv px).own (.ref D) (.set ks)) ∧ (match compS t mt me vs (ds.drop i) ks (s0.wipe vs) with
      | .ok ks st' => ∀ v H', Rel K Γ σ H' st' (p.nob.own v (.set ks)) → Q v H'
      | _ => False), ⟨_, rfl, Nat.zero_le _, s1, [], ?_, h⟩, ?_⟩
    · obtain ⟨m, ar, am, ao, ab, R2⟩ := R1.wipe vs
      exact R2.newSet hD
    rintro i n H ⟨rfl, hi, s0, ks, R2, h2⟩
    by_cases c : i < ds.length
    · rw [List.drop_eq_getElem_cons c] at h2
      unfold compS at h2
      cases et : t ds[i] (s0.wipe vs) with
      | none => rw [et] at h2; exact h2.elim
      | some s2 =>
        rw [et] at h2
        obtain ⟨go, yl⟩ := J1.1 i ds[i] (L2.wipe σ vs) H (s0.wipe vs) _ _ (by simp [c]) R2
        refine .inr ⟨go, fun H' => ∃ (s0 : Ss) (ks : List Int), Rel K Γ (L2.wipe σ vs) H' (s0.wipe vs) ((p.nob.shs pv px).own (.ref D) (.set ks)) ∧ (match compS t mt me vs (ds.drop (i + 1)) ks (s0.wipe vs) with
          | .ok ks st' => ∀ v H', Rel K Γ σ H' st' (p.nob.own v (.set ks)) → Q v H'
          | _ => False), fun H' ⟨s3, acc3, R3, h3⟩ => ⟨_, by omega, rfl, c, s3, acc3, R3, h3⟩, fun x H' y => ?_⟩
        refine ⟨_, _, ds[i], s2, yl x H' y, et, fun σ2 H2 w1 R3 => ⟨?_, s2, _, R3, ?_⟩⟩
        · have w2 := wipe_sub w1 hns
          have w3 : L2.wipe (L2.wipe σ vs) vs = L2.wipe σ vs := wipe_wipe
          exact w2.trans w3
        have back : ∀ {H : Hp} {st : Ss} {q : Pd}, Rel K Γ σ2 H st q → Rel K Γ (L2.wipe σ vs) H (st.wipe vs) q := fun z => by
          have z1 := z.wipe vs
          have w2 := wipe_sub w1 hns
          have w3 : L2.wipe (L2.wipe σ vs) vs = L2.wipe σ vs := wipe_wipe
          rw [w2.trans w3] at z1
          exact z1
        cases em : mt s2 with
        | bad => simp only [em] at h2
        | err _ _ => simp only [em] at h2
        | ok b s3 =>
          intro H3 R4
          cases b with
          | false =>
            simp only [em] at h2
            rw [if_neg Bool.false_ne_true]
            exact ⟨s3, ks, back R4, h2⟩
          | true =>
            simp only [em] at h2
            rw [if_pos rfl]
            refine ⟨s3, _, R4, ?_⟩
            cases ee : me s3 with
            | bad => simp only [ee] at h2
            | err _ _ => simp only [ee] at h2
            | ok d s4 =>
              intro y H4 R5
              cases d with
              | int k =>
                simp only [ee] at h2
                by_cases cz : ks.length < 1000
                · simp only [cz, if_true] at h2
                  obtain ⟨S, n, rfl, e1, e2, R6⟩ := Rel.addS (p := p.nob.shs pv px) R5
                  exact ⟨k, S, n, rfl, e1, by rw [e2]; show _ < 4096; omega, s4, addK ks k, back R6, h2⟩
                · simp only [cz, if_false] at h2
              | _ => simp only [ee] at h2
    · have e : i = ds.length := by omega
      subst e
      rw [List.drop_length] at h2
      refine .inl ⟨J1.2 _ H _ _ _ R2, ?_⟩
      have R3 := R2.unwipe
      exact h2 (.ref D) H (Rel.dropL (p := p.nob.own (.ref D) (.set ks)) hl R3)
theorem s_scO {elt tg iter : Expr} {ifs : List Expr} {scope : Scope} {own : List (Str × Nat)} {mi : M (List AV)} {ns : List Nat} {t : Tg} {mt : M Bool} {me : M AV} (hc : X.calm = true) (hN : X.N.Nodup) (hi : PI X tg iter (rdI X.K Γ W mi)) (ok : BlkOk X.N X.env.scope scope own)
    (hg : ∀ (s : Shared) (H : Hp) (C : Addr) (cl : List (Str × Addr)) (fp : List Addr), PG (X.blk s H scope (compEnvC scope cl C X.env) fp) tg (rdG X.K Γ ns t)) (ht : ∀ (s : Shared) (H : Hp) (C : Addr) (cl : List (Str × Addr)) (fp : List Addr), PTs (X.blk s H scope (compEnvC scope cl C X.env) fp) ifs (rdT X.K Γ noX mt))
    (he : ∀ (s : Shared) (H : Hp) (C : Addr) (cl : List (Str × Addr)) (fp : List Addr), PE (X.blk s H scope (compEnvC scope cl C X.env) fp) elt (rdE X.K Γ noX me)) (hns : ∀ i ∈ ns, i ∈ own.map (·.2) := by decide) (hs : ∀ x, foldedSetIterable iter X.env x = pure x := by intro _; rfl) :
    PE X (.SetComp elt [⟨tg, iter, ifs, 0⟩] scope pos) (rdO X.K Γ W (eSc mi t mt me (own.map (·.2)))) :=
  pe_imp (pe_scI hc hN hi ok hg ht he hs) fun σ H Q h => sc_in hns h
theorem s_lenS {e : Expr} {m : M AV} (hg : Gl X "len") (hm : X.mg "len" = none) (he : PE X e (rdO X.K Γ W m)) (hs : starEach [e] X.env = (false, eval e X.env) :: starEach [] X.env := by rfl) (hpl : (backTo pos (starEach [] X.env)).any (·.1) = false := by rfl) :
    PE X (.Call (.Name "len" q) [e] [] pos) (rdE X.K Γ W (eLenS m)) := by
  refine pe_imp (pe_callB call_lenS hg hm (by decide +kernel) (pa_cons he pa_nil hs) (by decide) (by decide) hs hpl) fun σ H Q h => ?_
  obtain ⟨st, p, R, h⟩ := h
  refine ⟨st, p, R, ?_⟩
  unfold eLenS at h
  cases ea : m st with
  | bad => rw [ea] at h; exact h
  | err c s1 => rw [ea] at h; exact h
  | ok d s1 =>
    rw [ea] at h
    simp only [Res.bind_ok] at h
    intro v H1 R1
    cases d with
    | set ks =>
      by_cases c : ks.length < 1000
      · simp only [c, if_true] at h
        obtain ⟨m1, ar, am, ao, ab, R2⟩ := R1
        obtain ⟨cs, ao', eo, rd, ro'⟩ := R2.ro.head
        cases rd with
        | @set a S n _ _ _ as0 hs1 e1 r0 =>
          obtain ⟨_, rfl⟩ := r0.nil_inv
          refine ⟨a, S, n, rfl, hs1, by rw [e1.len]; omega, ?_⟩
          rw [e1.len]
          have nd := R2.nd
          have fr := R2.fr
          have t : Tr H1 H1 (wOf Γ ar am ao) (wOf Γ ar am ao') m1 m1 [] := Tr.same fun c z => by
            simp only [wOf, eo, List.mem_append, List.mem_cons] at z ⊢
            grind
          refine h _ _ (Rel.int (p := p.nob) ⟨m1, ar, am, ao', ab, t.rs R2.rs (fun _ _ z => nomatch z), t.rp R2.rm (fun _ _ z => nomatch z), t.rp0 R2.ri, t.rp ro' (fun _ _ z => nomatch z), t.rp R2.rb (fun _ _ z => nomatch z), ?_, ?_, R2.kp, R2.pm, R2.gu, R2.tb⟩ _)
          · simp only [wOf, eo, List.nodup_append, List.nodup_cons, List.mem_append, List.mem_cons] at nd ⊢
            grind
          · intro a ha
            have h1 := fr a
            simp only [eo, List.mem_append, List.mem_cons] at h1 ha
            grind
      · simp only [c, if_false] at h
    | _ => exact h.elim
end
end Fk
/-! ## twins: list(d.items()), rows copied, several attributes at once -/
namespace Fk
open PySem PySem.Spec PyProof.Rows L2 LiI
section
variable {X : Cx} {Γ : Gam} {W : WX} {σ : L2.St} {H H' : Hp} {st : Ss} {p : Pd} {K : PySem.W.Frag} {pos apos cpos q q1 q2 q3 q4 q5 : Pos} {o e : Expr} {C f : Str} {fs : List Str}
theorem Rl.ext {m ar am ao ab : List Addr} (R : Rl K Γ σ H st p m ar am ao ab) (x : ∀ b o, H b = some o → H' b = some o) : Rl K Γ σ H' st p m ar am ao ab := by
  have t : Tr H H' (wOf Γ ar am ao) (wOf Γ ar am ao) m m [] := ⟨⟨fun b o e _ _ => x b o e, fun _ z => nomatch z⟩, (fun _ z => nomatch z), (fun _ _ n => n), (fun _ _ e => e)⟩
  refine ⟨t.rs R.rs (fun _ _ z => nomatch z), t.rp R.rm (fun _ _ z => nomatch z), t.rp0 R.ri, t.rp R.ro (fun _ _ z => nomatch z), t.rp R.rb (fun _ _ z => nomatch z), R.nd, R.fr, fun a u e n => ?_, R.pm, R.gu, ⟨R.tb.t.ext x⟩⟩
  obtain ⟨o', e', f⟩ := R.kp a u e n
  exact ⟨o', x _ _ e', f⟩
/-! ### list(d.items()) -/
def kA : Key → AV
  | .inl i => .int i
  | .inr x => .str x
/-! ### [list(row) for row in e.f] -/
def rowOk : AV → Bool
  | .lst true ys => ys.all atomA
  | _ => false
def eCpN (C f : Str) (mo : Ss → Option AV) : M AV := fun st => match pFld C f mo st with
  | some (.nst xs) => bif xs.all rowOk && decide (xs.length < 16777216) then .ok (.nst xs) st else .bad
  | _ => .bad
def sAt2 (C f g : Str) (mo mq : Ss → Option AV) (ma mb : M AV) : M Fl := fun st => (ma st).bind fun x s1 => (mb s1).bind fun y s2 => match (mo s2).bind fun z => putFld C f z x s2 with
  | some s3 => (match (mq s3).bind fun z => putFld C g z y s3 with
    | some s4 => .ok .nx s4
    | none => .bad)
  | none => .bad
def sAt3 (C f g k : Str) (mo mq mr : Ss → Option AV) (ma mb mc : M AV) : M Fl := fun st => (ma st).bind fun x s1 => (mb s1).bind fun y s2 => (mc s2).bind fun w s3 => match (mo s3).bind fun z => putFld C f z x s3 with
  | some s4 => (match (mq s4).bind fun z => putFld C g z y s4 with
    | some s5 => (match (mr s5).bind fun z => putFld C k z w s5 with
      | some s6 => .ok .nx s6
      | none => .bad)
    | none => .bad)
  | none => .bad
end
end Fk
/-! ## tuples that were made by tuple(..): they have no dict; t.index(x) -/
namespace Fk
open PySem PySem.Spec PyProof.Rows L2
def eIxD (mo me : M AV) : M AV := fun st => (mo st).bind fun x s1 => match x with
  | .tud xs => (me s1).bind fun y s2 => if okA (.tup xs) && okA y then ofO (((dats xs).findIdx? fun w => PyData.eqv w (dat y)).map fun j => AV.int (j : Nat)) s2 else .bad
  | _ => .bad
section
variable {X : Cx} {Γ : Gam} {W : WX} {σ : L2.St} {H : Hp} {st : Ss} {p : Pd} {K : PySem.W.Frag} {apos cpos : Pos} {o e : Expr} {mo me m : M AV}
end
end Fk
/-! ## list(range(n)) -/
namespace Fk
open PySem PySem.Spec PyProof.Rows L2
def fRgL : AV → Option AV
  | .int n => if 0 ≤ n ∧ n ≤ 1000 then some (.lst true (rngL 0 n)) else none
  | _ => none
section
variable {X : Cx} {Γ : Gam} {W : WX} {pos q q2 pos2 : Pos} {e : Expr} {m : M AV}
theorem rp_rg {K : PySem.W.Frag} {H : Hp} {W m : List Addr} : ∀ l : List Nat, Rp K H W m (l.map fun i => V.int ((0 : Int) + (i : Nat))) (l.map fun i => AV.int ((0 : Int) + (i : Nat))) []
  | [] => .nil
  | _ :: l => .int (rp_rg l)
theorem s_lrgO (hc : X.calm = true) (hg : Gl X "list") (hm : X.mg "list" = none) (hg2 : Gl X "range") (hm2 : X.mg "range" = none) (he : PE X e (rdE X.K Γ W m)) (na : starEach [e] X.env = (false, eval e X.env) :: starEach [] X.env := by rfl)
    (nb : starEach [.Call (.Name "range" q2) [e] [] pos2] X.env = (false, eval (.Call (.Name "range" q2) [e] [] pos2) X.env) :: starEach [] X.env := by rfl) :
    PE X (.Call (.Name "list" q) [.Call (.Name "range" q2) [e] [] pos2] [] pos) (rdO X.K Γ W (e1 fRgL m)) := by
  refine pe_imp (pe_listRg hc hg hm (prg_1 hg2 hm2 he na) nb) fun σ H Q h => ?_
  obtain ⟨st, p, R, h⟩ := h
  refine ⟨st, p, R, ?_⟩
  unfold e1 at h
  cases ea : m st with
  | bad => rw [ea] at h; exact h
  | err c s1 => rw [ea] at h; exact h
  | ok x s1 =>
    rw [ea] at h
    simp only [Res.bind_ok] at h
    intro v H1 R1
    cases x with
    | int n =>
      by_cases c : 0 ≤ n ∧ n ≤ 1000
      · simp only [fRgL, if_pos c, ofO_some] at h
        obtain ⟨m1, ar, am, ao, ab, R2, r⟩ := R1.one
        obtain rfl := r.int_i
        refine ⟨n, rfl, ⟨by omega, by omega, by omega, by omega, by omega⟩, fun l hl => h _ _ (R2.newO hl fun {H' W'} t h1 => ?_).rel⟩
        exact .lsO h1 (rp_rg _) .nil
      · simp only [fRgL, if_neg c, ofO_none] at h
    | _ => simp only [fRgL, ofO_none] at h
end
end Fk
/-! ## text or text -/
namespace Fk
open PySem PySem.Spec PyProof.Rows L2
def strB : AV → Option Bool
  | .str y => if y.length ≤ 1000 then some ((y.length : Int) != 0) else none
  | _ => none
def eOrS (a b : M AV) : M AV := fun st => (a st).bind fun x s1 => (ofO (strB x) s1).bind fun c s2 => bif c then .ok x s2 else b s2
section
variable {X : Cx} {Γ : Gam} {W : WX} {pos : Pos} {a b : Expr} {rest : List Expr} {ma mb : M AV}
end
end Fk
/-! ## d.update(d2) -/
namespace Fk
open PySem PySem.Spec PyProof.Rows L2
def mrgKA (t : List Key × List AV) : List Key → List AV → List Key × List AV
  | k :: ks, x :: xs => mrgKA (putKA t.1 t.2 k x) ks xs
  | _, _ => t
section
variable {X : Cx} {pins : List (Addr × Obj)} {σ : L2.St} {H : Hp} {s : Shared} {a b : Addr} {A : Around} {E : Value → Shared → Prop}
end
section
variable {X : Cx} {o e : Expr} {td ty : TE} {apos cpos : Pos}
end
end Fk
namespace Fk
open PySem PySem.Spec PyProof.Rows L2
def dctI : AV → Option (List Key × List AV)
  | .dct false ks xs => some (ks, xs)
  | _ => none
def eUpdD (i : Nat) (m : M AV) : M AV := fun st => match ownD (getSl st.r i) with
  | none => .bad
  | some _ => (m st).bind fun d s1 => match ownD (getSl s1.r i), dctI d with
    | some (ks, xs), some (ks2, xs2) => if ks.length + ks2.length ≤ 16777216 then .ok .non (putD i (mrgKA (ks, xs) ks2 xs2).1 (mrgKA (ks, xs) ks2 xs2).2 s1) else .bad
    | _, _ => .bad
@[simp] theorem k_eUpdD (i : Nat) (m : M AV) (r0 : List Sl) (s0 : List AV) : eUpdD i m (Ss.mk r0 s0) = match ownD (getSl r0 i) with
  | none => .bad
  | some _ => (m (Ss.mk r0 s0)).bind fun d s1 => match ownD (getSl s1.r i), dctI d with
    | some (ks, xs), some (ks2, xs2) => if ks.length + ks2.length ≤ 16777216 then .ok .non (putD i (mrgKA (ks, xs) ks2 xs2).1 (mrgKA (ks, xs) ks2 xs2).2 s1) else .bad
    | _, _ => .bad := id rfl
section
variable {X : Cx} {Γ : Gam} {W : WX} {σ : L2.St} {H : Hp} {st : Ss} {p : Pd} {K : PySem.W.Frag} {apos cpos q : Pos} {ev : Expr} {x : Str} {i : Nat} {mv : M AV}
end
end Fk
/-! ## {k: v} of two ints -/
namespace Fk
open PySem PySem.Spec PyProof.Rows L2
section
variable {X : Cx} {Γ : Gam} {W : WX} {pos : Pos}
def eD1 (k v : Int) : M AV := fun st => .ok (.dct true [.inl k] [.int v]) st
@[simp] theorem k_eD1 (k v : Int) (r0 : List Sl) (s0 : List AV) : eD1 k v (Ss.mk r0 s0) = .ok (.dct true [.inl k] [.int v]) (Ss.mk r0 s0) := id rfl
end
end Fk
/-! ## {k: v, ..} with written keys -/
namespace Fk
open PySem PySem.Spec PyProof.Rows L2
section
variable {X : Cx} {Γ : Gam} {W : WX} {σ : L2.St} {H : Hp} {st : Ss} {p : Pd} {K : PySem.W.Frag} {pos : Pos}
def eDsp (ks : List Key) (a : M (List AV)) : M AV := fun st => (a st).bind fun xs s1 => if xs.length = ks.length then .ok (.dct true ks xs) s1 else .bad
@[simp] theorem k_eDsp (ks : List Key) (a : M (List AV)) (r0 : List Sl) (s0 : List AV) : eDsp ks a (Ss.mk r0 s0) = (a (Ss.mk r0 s0)).bind fun xs s1 => if xs.length = ks.length then .ok (.dct true ks xs) s1 else .bad := id rfl
end
end Fk
/-! ## o.f.append(x); {k: v for ..} -/
namespace Fk
open PySem PySem.Spec PyProof.Rows L2
def ownLst : AV → Option (List AV)
  | .lst true xs => some xs
  | _ => none
theorem ownLst_eq {z : AV} {xs : List AV} (h : ownLst z = some xs) : z = .lst true xs := by
  unfold ownLst at h
  split at h
  · cases h; rfl
  · cases h
def eAppP (fo : Option (Str × Str)) (mo me : Ss → Option AV) : M AV := fun st => match (mo st).bind locOf with
  | none => .bad
  | some l => match me st, (getPl st.s l fo).bind ownLst with
    | some d, some xs => if imm d = true ∧ xs.length < 16777216 then .ok .non ⟨st.r, setPl st.s l fo (.lst true (xs ++ [d]))⟩ else .bad
    | _, _ => .bad
@[simp] theorem k_eAppP (fo : Option (Str × Str)) (mo me : Ss → Option AV) (r0 : List Sl) (s0 : List AV) : eAppP fo mo me (Ss.mk r0 s0) = match (mo (Ss.mk r0 s0)).bind locOf with
  | none => .bad
  | some l => match me (Ss.mk r0 s0), (getPl s0 l fo).bind ownLst with
    | some d, some xs => if imm d = true ∧ xs.length < 16777216 then .ok .non ⟨r0, setPl s0 l fo (.lst true (xs ++ [d]))⟩ else .bad
    | _, _ => .bad := id rfl
section
variable {X : Cx} {Γ : Gam} {W : WX} {σ : L2.St} {H : Hp} {st : Ss} {p : Pd} {K : PySem.W.Frag} {apos cpos : Pos} {o e : Expr} {mo me : Ss → Option AV} {fo : Option (Str × Str)}
end
/-! ### dict comprehensions -/
def compD (t : Tg) (tt : M Bool) (tk tv : M AV) (vs : List Nat) : List AV → List Key → List AV → Ss → Res (List Key × List AV) Ss
  | [], ks, xs, st => .ok (ks, xs) st
  | d :: ds, ks, xs, st => match t d st with
    | none => .bad
    | some s0 => match tt s0 with
      | .ok false s1 => compD t tt tk tv vs ds ks xs (s1.wipe vs)
      | .ok true s1 => match tk s1 with
        | .ok y s2 => match tv s2 with
          | .ok z s3 => match keyA y with
            | some k => if ks.length < 16777216 then compD t tt tk tv vs ds (putKA ks xs k z).1 (putKA ks xs k z).2 (s3.wipe vs) else .bad
            | none => .bad
          | _ => .bad
        | _ => .bad
      | _ => .bad
def eDc (mi : M (List AV)) (t : Tg) (tt : M Bool) (tk tv : M AV) (vs : List Nat) : M AV := fun st => (mi st).bind fun ds s1 => (compD t tt tk tv vs ds [] [] (s1.wipe vs)).bind fun a s2 => .ok (.dct true a.1 a.2) s2
@[simp] theorem k_eDc (mi : M (List AV)) (t : Tg) (tt : M Bool) (tk tv : M AV) (vs : List Nat) (r0 : List Sl) (s0 : List AV) : eDc mi t tt tk tv vs (Ss.mk r0 s0) = (mi (Ss.mk r0 s0)).bind fun ds s1 => (compD t tt tk tv vs ds [] [] (s1.wipe vs)).bind fun a s2 => .ok (.dct true a.1 a.2) s2 := id rfl
section
variable {X : Cx} {Γ : Gam} {W : WX} {σ : L2.St} {H : Hp} {st : Ss} {p : Pd} {K : PySem.W.Frag} {pos : Pos}
end
end Fk
/-! ## [n for n, t in enumerate(o.f) if t is None], [C if t is None else t for t in o.f] -/
namespace Fk
open PySem PySem.Spec PyProof.Rows L2
def nonAt (n : Nat) : List AV → List AV
  | [] => []
  | x :: xs => if isN x = true then .int n :: nonAt (n + 1) xs else nonAt (n + 1) xs
def eWtF (C f : Str) (mo : Ss → Option AV) : M AV := fun st => match (pFld C f mo st).bind ownLst with
  | some xs => if xs.length < 16777216 then .ok (.lst false (nonAt 0 xs)) st else .bad
  | none => .bad
@[simp] theorem k_eWtF (C f : Str) (mo : Ss → Option AV) (r0 : List Sl) (s0 : List AV) : eWtF C f mo (Ss.mk r0 s0) = match (pFld C f mo (Ss.mk r0 s0)).bind ownLst with
  | some xs => if xs.length < 16777216 then .ok (.lst false (nonAt 0 xs)) (Ss.mk r0 s0) else .bad
  | none => .bad := id rfl
def eGnF (C f : Str) (mo : Ss → Option AV) (g : AV) : M AV := fun st => match (pFld C f mo st).bind ownLst with
  | some xs => if xs.length < 16777216 then .ok (.lst true (xs.map fun x => if isN x = true then g else x)) st else .bad
  | none => .bad
@[simp] theorem k_eGnF (C f : Str) (mo : Ss → Option AV) (g : AV) (r0 : List Sl) (s0 : List AV) : eGnF C f mo g (Ss.mk r0 s0) = match (pFld C f mo (Ss.mk r0 s0)).bind ownLst with
  | some xs => if xs.length < 16777216 then .ok (.lst true (xs.map fun x => if isN x = true then g else x)) (Ss.mk r0 s0) else .bad
  | none => .bad := id rfl
section
variable {X : Cx} {Γ : Gam} {W : WX} {σ : L2.St} {H : Hp} {st : Ss} {p : Pd} {K : PySem.W.Frag} {pos q1 q2 q4 q5 q6 q7 q8 q9 q10 tpos : Pos} {o : Expr} {C f : Str} {fs : List Str}
end
end Fk
/-! ## [(k, d[k]) for k in d], the dict one's own -/
namespace Fk
open PySem PySem.Spec PyProof.Rows L2
def wkT (ks : List Key) (xs : List AV) (l : List Key) : List AV := l.map fun k => .tup [kA k, (getK ks xs k).getD .non]
def wkOk (ks : List Key) (xs : List AV) : Bool := ks.all fun k => (getK ks xs k).isSome
def eWkD (i : Nat) : M AV := fun st => match ownD (getSl st.r i) with
  | some (ks, xs) => if ks.length < 16777216 ∧ wkOk ks xs = true then .ok (.lst false (wkT ks xs ks)) st else .bad
  | none => .bad
@[simp] theorem k_eWkD (i : Nat) (r0 : List Sl) (s0 : List AV) : eWkD i (Ss.mk r0 s0) = match ownD (getSl r0 i) with
  | some (ks, xs) => if ks.length < 16777216 ∧ wkOk ks xs = true then .ok (.lst false (wkT ks xs ks)) (Ss.mk r0 s0) else .bad
  | none => .bad := id rfl
section
variable {X : Cx} {Γ : Gam} {W : WX} {σ : L2.St} {H : Hp} {st : Ss} {p : Pd} {K : PySem.W.Frag} {pos q1 q2 q3 q4 q5 q6 sp tp : Pos}
end
end Fk
/-! ## for x in a list of the store -/
namespace Fk
open PySem PySem.Spec PyProof.Rows L2
def lstAt (s : List AV) (l : Nat) : Option (List AV) := (getPl s l none).bind ownLst
def forLM (l : Nat) (t : Tg) (body : M Fl) : Nat → Nat → M Fl
  | 0, i, st => match lstAt st.s l with
    | some zs => if zs.length ≤ i then .ok .nx st else .bad
    | none => .bad
  | n + 1, i, st => match lstAt st.s l with
    | none => .bad
    | some zs => match zs[i]? with
      | none => .ok .nx st
      | some d => match t d st with
        | none => .bad
        | some s0 => match body s0 with
          | .ok .nx s1 => forLM l t body n (i + 1) s1
          | .ok .ct s1 => forLM l t body n (i + 1) s1
          | .ok .bk s1 => .ok .nx s1
          | .ok (.rt d) s1 => .ok (.rt d) s1
          | .err c s1 => .err c s1
          | .bad => .bad
def sForL (m : M AV) (t : Tg) (body : M Fl) : M Fl := fun st => (m st).bind fun x s1 => match locOf x with
  | some l => match lstAt s1.s l with
    | some zs => forLM l t body zs.length 0 s1
    | none => .bad
  | none => .bad
@[simp] theorem k_sForL (m : M AV) (t : Tg) (body : M Fl) (r0 : List Sl) (s0 : List AV) : sForL m t body (Ss.mk r0 s0) = (m (Ss.mk r0 s0)).bind fun x s1 => match locOf x with
  | some l => match lstAt s1.s l with
    | some zs => forLM l t body zs.length 0 s1
    | none => .bad
  | none => .bad := id rfl
section
variable {X : Cx} {Γ : Gam} {W : WX} {σ : L2.St} {H : Hp} {st : Ss} {p : Pd} {K : PySem.W.Frag} {pos : Pos}
theorem Rl.lstAt {m ar am ao ab : List Addr} {a : Addr} {l : Nat} {zs : List AV} (R : Rl K Γ σ H st p m ar am ao ab) (em : m[l]? = some a) (e : Fk.lstAt st.s l = some zs) : ∃ us, H a = some (.lst us) ∧ Rp K H (wOf Γ ar am ao) m us zs [] := by
  obtain ⟨z, e1, e2⟩ := Option.bind_eq_some_iff.mp e
  have e3 := ownLst_eq e2
  subst e3
  obtain ⟨q', bb, hat', rz, _⟩ := R.place (cs := []) (ao' := ao) e1 rfl R.ro rfl
  have e4 : m[l]? = some q' := hat'
  rw [em] at e4
  cases e4
  obtain ⟨q2, us, eq2, _, hs2, qq⟩ := rz.lsO_i
  cases eq2
  exact ⟨us, hs2, qq⟩
end
end Fk
/-! ## x.upper() -/
namespace Fk
open PySem PySem.Spec PyProof.Rows L2
def upA : AV → Option AV
  | .str z => if z.length ≤ 5592405 then some (.str (Txt.upper z)) else none
  | _ => none
def eUpp (m : M AV) : M AV := fun st => (m st).bind fun x s1 => ofO (upA x) s1
@[simp] theorem k_eUpp (m : M AV) (r0 : List Sl) (s0 : List AV) : eUpp m (Ss.mk r0 s0) = (m (Ss.mk r0 s0)).bind fun x s1 => ofO (upA x) s1 := id rfl
section
variable {X : Cx} {Γ : Gam} {W : WX} {apos pos : Pos} {o : Expr}
theorem s_upp {m : M AV} (ho : PE X o (rdE X.K Γ W m)) (hbase : attributeBase o "upper" X.env (eval o X.env) = eval o X.env := by rfl) (hline : (apos.endLine == pos.line) = true := by rfl) :
    PE X (.Call (.Attribute o "upper" apos) [] [] pos) (rdE X.K Γ W (eUpp m)) := by
  refine pe_imp (pe_upper ho hbase hline) fun σ H Q h => ?_
  obtain ⟨st, p, R, h⟩ := h
  refine ⟨st, p, R, ?_⟩
  unfold eUpp at h
  cases ea : m st with
  | bad => rw [ea] at h; exact h
  | err c s1 => rw [ea] at h; exact h
  | ok x s1 =>
    rw [ea] at h
    simp only [Res.bind_ok] at h
    cases x with
    | str z =>
      by_cases c : z.length ≤ 5592405
      · have e : upA (.str z) = some (.str (Txt.upper z)) := by
          show (if _ then _ else _) = _
          rw [if_pos c]
        rw [e] at h
        intro v H1 R1
        obtain ⟨mm, ar, am, ao, ab, R2, r⟩ := R1.one
        obtain rfl := r.str_i
        exact ⟨⟨z, rfl⟩, z, rfl, rfl, c, h _ _ (R2.rel.str _)⟩
      · have e : upA (.str z) = none := by
          show (if _ then _ else _) = _
          rw [if_neg c]
        rw [e] at h
        exact h.elim
    | _ => exact h.elim
end
end Fk
/-! ## a, b, c = x, y, z where a name is seen by a comprehension; x.remove(y) of ints -/
namespace Fk
open PySem PySem.Spec PyProof.Rows L2
def intsO : List AV → Option (List Int)
  | [] => some []
  | x :: xs => (asI x).bind fun i => (intsO xs).map fun is => i :: is
def remA (xs : List AV) (d : AV) : Option (AV × List AV) := (asI d).bind fun k => (intsO xs).bind fun ns => (ns.findIdx? fun n => decide (n = k)).map fun j => (.non, (ns.eraseIdx j).map .int)
def eRem (i : Nat) (m : M AV) : M AV := fun st => match ownL (getSl st.r i) with
  | none => .bad
  | some _ => (m st).bind fun d s1 => match ownL (getSl s1.r i) with
    | none => .bad
    | some xs => match remA xs d with
      | some (y, ys) => .ok y (putL i ys s1)
      | none => .bad
@[simp] theorem k_eRem (i : Nat) (m : M AV) (r0 : List Sl) (s0 : List AV) : eRem i m (Ss.mk r0 s0) = match ownL (getSl r0 i) with
  | none => .bad
  | some _ => (m (Ss.mk r0 s0)).bind fun d s1 => match ownL (getSl s1.r i) with
    | none => .bad
    | some xs => match remA xs d with
      | some (y, ys) => .ok y (putL i ys s1)
      | none => .bad := id rfl
section
variable {X : Cx} {Γ : Gam} {W : WX} {σ : L2.St} {H : Hp} {st : Ss} {p : Pd} {K : PySem.W.Frag} {pos apos cpos : Pos} {e : Expr} {x : Str} {i : Nat}
end
end Fk
/-! ## x[i], n = a, b -/
namespace Fk
open PySem PySem.Spec PyProof.Rows L2
section
variable {X : Cx} {Γ : Gam} {W : WX} {pos : Pos}
end
end Fk
/-! ## texts: split, partition, join, startswith, str, int, f-strings, signs of a text -/
namespace Fk
open PySem PySem.Spec PyProof.Rows L2
def isStrA : AV → Bool
  | .str _ => true
  | _ => false
/-- a text's method of one argument -/
def eM1 (f : AV → AV → Option AV) (a b : M AV) : M AV := fun st => (a st).bind fun x s1 => bif isStrA x then (b s1).bind fun y s2 => ofO (f x y) s2 else .bad
@[simp] theorem k_eM1 (f : AV → AV → Option AV) (a b : M AV) (r0 : List Sl) (s0 : List AV) : eM1 f a b (Ss.mk r0 s0) = (a (Ss.mk r0 s0)).bind fun x s1 => bif isStrA x then (b s1).bind fun y s2 => ofO (f x y) s2 else .bad := id rfl
@[simp] theorem isStrA_s (z : Str) : isStrA (.str z) = true := id rfl
section
variable {K : PySem.W.Frag} {H : Hp} {W m as : List Addr} {v : V} {vs : List V} {xs : List AV} {x y : AV}
end
section
variable {X : Cx} {Γ : Gam} {W : WX} {σ : L2.St} {H : Hp} {st : Ss} {p : Pd} {K : PySem.W.Frag} {pos apos : Pos} {o e : Expr}
/-! str(x), int(x) -/
def lg (i : Int) : Bool := decide (i.natAbs.log2 < 1920)
/-! the signs of a text, walked -/
def sgs (z : Str) : List AV := z.cps.toList.map fun c => .str ⟨#[c]⟩
def itemsS : AV → Option (List AV)
  | .str z => some (sgs z)
  | x => itemsOf x
def iOfS (m : M AV) : M (List AV) := fun st => (m st).bind fun x s1 => ofO (itemsS x) s1
@[simp] theorem k_iOfS (m : M AV) (r0 : List Sl) (s0 : List AV) : iOfS m (Ss.mk r0 s0) = (m (Ss.mk r0 s0)).bind fun x s1 => ofO (itemsS x) s1 := id rfl
end
end Fk
/-! ## [e for x in a for y in b] -/
namespace Fk
open PySem PySem.Spec PyProof.Rows L2
def compI (t : Tg) (te : M AV) (vs : List Nat) : List AV → List AV → Ss → Res (List AV) Ss
  | [], acc, st => .ok acc st
  | d :: ds, acc, st => match t d st with
    | none => .bad
    | some s0 => match te s0 with
      | .ok y s2 => if acc.length < 16777216 then compI t te vs ds (acc ++ [y]) (s2.wipe vs) else .bad
      | _ => .bad
def compO (t : Tg) (mi1 : M (List AV)) (t1 : Tg) (te : M AV) (vs vs1 : List Nat) : List AV → List AV → Ss → Res (List AV) Ss
  | [], acc, st => .ok acc st
  | d :: ds, acc, st => match t d st with
    | none => .bad
    | some s0 => match mi1 s0 with
      | .ok es s1 => (match compI t1 te vs1 es acc (s1.wipe vs1) with
        | .ok acc2 s2 => compO t mi1 t1 te vs vs1 ds acc2 (s2.wipe vs)
        | _ => .bad)
      | _ => .bad
def lc2M (mi : M (List AV)) (t : Tg) (mi1 : M (List AV)) (t1 : Tg) (te : M AV) (vs vs1 : List Nat) : M (List AV) := fun st => (mi st).bind fun ds s1 => match compO t mi1 t1 te vs vs1 ds [] (s1.wipe vs) with
  | .ok xs s2 => .ok xs s2
  | _ => .bad
@[simp] theorem k_lc2M (mi : M (List AV)) (t : Tg) (mi1 : M (List AV)) (t1 : Tg) (te : M AV) (vs vs1 : List Nat) (r0 : List Sl) (s0 : List AV) : lc2M mi t mi1 t1 te vs vs1 (Ss.mk r0 s0) = (mi (Ss.mk r0 s0)).bind fun ds s1 => match compO t mi1 t1 te vs vs1 ds [] (s1.wipe vs) with
  | .ok xs s2 => .ok xs s2
  | _ => .bad := id rfl
section
variable {X : Cx} {Γ : Gam} {W : WX} {σ : L2.St} {H : Hp} {st : Ss} {p : Pd} {K : PySem.W.Frag} {pos : Pos}
end
end Fk
/-! ## t[::2], t[1::2] of a tuple -/
namespace Fk
open PySem PySem.Spec PyProof.Rows L2
section
variable {prog : Program} {w : World} {A : Around} {E : Value → Shared → Prop} {s : Shared}
end
section
variable {X : Cx} {Γ : Gam} {W : WX} {σ : L2.St} {H : Hp} {st : Ss} {p : Pd} {K : PySem.W.Frag} {pos : Pos}
end
end Fk
/-! ## sorted(set(x)) of a list of ints -/
namespace Fk
open PySem PySem.Spec PyProof.Rows L2
section
variable {P : Program} {w : World} {A : Around} {E : Value → Shared → Prop} {s : Shared}
end
section
variable {X : Cx} {Γ : Gam} {W : WX} {a : Expr} {ta : TE} {p1 p2 q pos : Pos}
end
end Fk
/-! ## tuple(zip(t, u)) of tuples -/
namespace Fk
open PySem PySem.Spec PyProof.Rows L2 PySem.W
section
variable {prog : Program} {w : World} {A : Around} {E : Value → Shared → Prop} {s : Shared}
end
/-- a zip of the tuples a, b that has given i pairs -/
def ZS (H : Hp) (h : Heap) (z TI TO i1 i2 a b : Addr) (i : Nat) : Prop := PySem.IsPair h TI (.ref i1) (.ref i2) ∧ h.IsTupleIter i1 a i ∧ h.IsTupleIter i2 b i ∧ (∃ o, h.get? TO = some o) ∧
  ((IsZip h z TI TO .none ∧ ∃ x y, PySem.IsPair h TO x y) ∨ ∃ T f w, IsZipHeld h z TI TO T f ∧ H T = some (.tup w))
section
variable {X : Cx} {A : Around} {E : Value → Shared → Prop} {s : Shared} {pins : List (Addr × Obj)} {σ : L2.St} {H : Hp} {z TI TO i1 i2 a b : Addr} {i : Nat} {xs ys : List V}
theorem ZS.keep {H' : Hp} {h h' : Heap} (st : ZS H h z TI TO i1 i2 a b i) (k : ∀ c, c ∈ [z, TI, TO, i1, i2] → ∀ o, h.get? c = some o → h'.get? c = some o) (kh : ∀ T w, H T = some (.tup w) → H' T = some (.tup w)) : ZS H' h' z TI TO i1 i2 a b i := by
  obtain ⟨hTI, h1, h2, ⟨o, ho⟩, hz⟩ := st
  refine ⟨k TI (by simp) _ hTI, h1.at fun o q => k i1 (by simp) o q, h2.at fun o q => k i2 (by simp) o q, ⟨o, k TO (by simp) _ ho⟩, ?_⟩
  rcases hz with ⟨hz, x, y, hTO⟩ | ⟨T, f, u, hz, hT⟩
  · exact .inl ⟨k z (by simp) _ hz, x, y, k TO (by simp) _ hTO⟩
  · exact .inr ⟨T, f, u, k z (by simp) _ hz, kh T u hT⟩
section
variable {X : Cx} {Γ : Gam} {W : WX} {σ : L2.St} {H : Hp} {K : PySem.W.Frag} {p1 p2 pos pos2 : Pos} {e e2 : Expr}
end
end
end Fk
/-! ## a, *b = l of a list -/
namespace Fk
open PySem PySem.Spec PyProof.Rows L2 PySem.W
section
variable {prog : Program} {w : World} {A : Around} {E : Value → Shared → Prop} {s : Shared}
end
section
variable {X : Cx} {Γ : Gam} {W : WX} {pos : Pos}
end
end Fk
/-! ## range(0, n, 2); len(set(list of ints)) -/
namespace Fk
open PySem PySem.Spec PyProof.Rows L2
section
variable {X : Cx} {Γ : Gam} {W : WX} {σ : L2.St} {H : Hp} {st : Ss} {p : Pd} {K : PySem.W.Frag} {pos : Pos}
end
end Fk
namespace Fk
open PySem PySem.Spec PyProof.Rows L2
section
variable {X : Cx} {Γ : Gam} {W : WX} {σ : L2.St} {H : Hp} {st : Ss} {p : Pd} {K : PySem.W.Frag} {pos p2' : Pos}
end
end Fk
namespace Fk
open PySem PySem.Spec PyProof.Rows L2
section
variable {X : Cx} {Γ : Gam} {pos p0 : Pos}
end
end Fk
/-! ## a, b, c, d = x, y, z, u -/
namespace Fk
open PySem PySem.Spec PyProof.Rows L2
def sPar4 (i j l o : Nat) (ma mb mc md : M Sl) : M Fl := fun st => (ma st).bind fun x s1 => bif isNo x then .bad else (mb s1).bind fun y s2 => bif isNo y then .bad else (mc s2).bind fun z s3 => bif isNo z then .bad else (md s3).bind fun u s4 => bif isNo u then .bad else if i < s4.r.length ∧ j < s4.r.length ∧ l < s4.r.length ∧ o < s4.r.length then .ok .nx ⟨setSl (setSl (setSl (setSl s4.r o u) l z) j y) i x, s4.s⟩ else .bad
@[simp] theorem k_sPar4 (i j l o : Nat) (ma mb mc md : M Sl) (r0 : List Sl) (s0 : List AV) : sPar4 i j l o ma mb mc md (Ss.mk r0 s0) = (ma (Ss.mk r0 s0)).bind fun x s1 => bif isNo x then .bad else (mb s1).bind fun y s2 => bif isNo y then .bad else (mc s2).bind fun z s3 => bif isNo z then .bad else (md s3).bind fun u s4 => bif isNo u then .bad else if i < s4.r.length ∧ j < s4.r.length ∧ l < s4.r.length ∧ o < s4.r.length then .ok .nx ⟨setSl (setSl (setSl (setSl s4.r o u) l z) j y) i x, s4.s⟩ else .bad := id rfl
section
variable {X : Cx} {Γ : Gam} {W : WX} {σ : L2.St} {H : Hp} {st : Ss} {p : Pd} {K : PySem.W.Frag} {pos apos cpos : Pos} {e : Expr} {x : Str} {i : Nat}
end
end Fk
/-! ## x = f(..) where f's answer is a new thing: it is taken over by the name -/
namespace Fk
open PySem PySem.Spec PyProof.Rows L2
def eTk (m : M AV) : M AV := fun st => (m st).bind fun d s1 => match d with
  | .loc l => match s1.s[l]? with
    | some x => bif ownA x then .ok x ⟨s1.r, s1.s.set l .ded⟩ else .bad
    | none => .bad
  | _ => .bad
@[simp] theorem k_eTk (m : M AV) (r0 : List Sl) (s0 : List AV) : eTk m (Ss.mk r0 s0) = (m (Ss.mk r0 s0)).bind fun d s1 => match d with
  | .loc l => match s1.s[l]? with
    | some x => bif ownA x then .ok x ⟨s1.r, s1.s.set l .ded⟩ else .bad
    | none => .bad
  | _ => .bad := id rfl
def eWtO (C f : Str) (mo : Ss → Option AV) : M AV := fun st => match (pFld C f mo st).bind ownLst with
  | some xs => if xs.length < 16777216 then .ok (.lst true (nonAt 0 xs)) st else .bad
  | none => .bad
@[simp] theorem k_eWtO (C f : Str) (mo : Ss → Option AV) (r0 : List Sl) (s0 : List AV) : eWtO C f mo (Ss.mk r0 s0) = match (pFld C f mo (Ss.mk r0 s0)).bind ownLst with
  | some xs => if xs.length < 16777216 then .ok (.lst true (nonAt 0 xs)) (Ss.mk r0 s0) else .bad
  | none => .bad := id rfl
section
variable {X : Cx} {Γ : Gam} {W : WX} {σ : L2.St} {H : Hp} {st : Ss} {p : Pd} {K : PySem.W.Frag} {e : Expr} {v : V} {d : AV} {l : Nat}
theorem Rel.take (R : Rel K Γ σ H st (p.sh v (.loc l))) (e : st.s[l]? = some d) (ho : ownA d = true) : Rel K Γ σ H ⟨st.r, st.s.set l .ded⟩ (p.nob.own v d) := by
  obtain ⟨m, ar, am, ao, ab, R⟩ := R
  obtain ⟨u0, a1, b, a2, eu, ea, rd, put⟩ := R.rm.spot0 e
  obtain ⟨u, rfl, hu⟩ := own_ref rd ho
  rw [List.getElem?_map] at eu
  obtain ⟨u', em, eu'⟩ := Option.map_eq_some_iff.mp eu
  cases eu'
  have ri := R.ri
  have hv : v = .ref u := by
    cases ri.head0.1 with
    | loc h _ =>
      rw [em] at h
      cases h
      rfl
  subst hv
  have r1 : Rp K H (wOf Γ ar am ao) m (m.map V.ref) (st.s.set l .ded) (a1 ++ ([] ++ a2)) := put (fun r => r) (.ded .nil)
  have nd := R.nd
  have fr := R.fr
  have wm : ∀ c, c ∈ wOf Γ ar (a1 ++ ([] ++ a2)) (b ++ ao) ↔ c ∈ wOf Γ ar am ao := fun c => by
    simp only [wOf, ea, List.mem_append]
    grind
  have t : ∀ {vs : List V} {xs : List AV} {as : List Addr}, Rp K H (wOf Γ ar am ao) m vs xs as → Rp K H (wOf Γ ar (a1 ++ ([] ++ a2)) (b ++ ao)) m vs xs as := fun r =>
    r.keep Kp.refl (fun _ z => nomatch z) (fun c _ n z => n ((wm c).mp z)) (fun _ _ h => h) (fun _ _ z => nomatch z)
  refine ⟨m, ar, a1 ++ ([] ++ a2), b ++ ao, [], ?_, t r1, t ri.head0.2, (t rd).app (t R.ro), .nil, ?_, ?_, R.kp, R.pm, R.gu, R.tb⟩
  · exact R.rs.keep Kp.refl (fun _ z => nomatch z) (fun c _ n z => n ((wm c).mp z)) (fun _ _ h => h) (fun _ _ z => nomatch z)
  · simp only [wOf, ea, List.nodup_append, List.mem_append] at nd ⊢
    grind
  · intro c hc
    have := fr c
    simp only [ea, List.mem_append] at this hc
    grind
end
section
variable {X : Cx} {Γ : Gam} {W : WX} {σ : L2.St} {H : Hp} {st : Ss} {p : Pd} {K : PySem.W.Frag} {pos q1 q2 q4 q5 q6 q7 q8 q9 q10 tpos : Pos} {o : Expr} {C f : Str} {fs : List Str}
end
end Fk
/-! ## an object's list beside + and !=; o.remove(x) of an object's list of ints -/
namespace Fk
open PySem PySem.Spec PyProof.Rows L2
def drS (S : List AV) : AV → Option AV
  | .loc l => match S[l]? with
    | some z => if ownA z = true then some z else none
    | none => none
  | x => some x
def e2D (f : AV → AV → Option AV) (ma : M AV) (mb : Ss → Option AV) : M AV := fun st => (ma st).bind fun x s1 => match (mb s1).bind (drS s1.s) with
  | some y => match f x y with
    | some d => .ok d s1
    | none => .bad
  | none => .bad
@[simp] theorem k_e2D (f : AV → AV → Option AV) (ma : M AV) (mb : Ss → Option AV) (r0 : List Sl) (s0 : List AV) : e2D f ma mb (Ss.mk r0 s0) = (ma (Ss.mk r0 s0)).bind fun x s1 => match (mb s1).bind (drS s1.s) with
  | some y => match f x y with
    | some d => .ok d s1
    | none => .bad
  | none => .bad := id rfl
def eRemP (fo : Option (Str × Str)) (mo me : Ss → Option AV) : M AV := fun st => match (mo st).bind locOf with
  | none => .bad
  | some l => match me st, (getPl st.s l fo).bind ownLst with
    | some d, some xs => match remA xs d with
      | some (y, ys) => .ok y ⟨st.r, setPl st.s l fo (.lst true ys)⟩
      | none => .bad
    | _, _ => .bad
@[simp] theorem k_eRemP (fo : Option (Str × Str)) (mo me : Ss → Option AV) (r0 : List Sl) (s0 : List AV) : eRemP fo mo me (Ss.mk r0 s0) = match (mo (Ss.mk r0 s0)).bind locOf with
  | none => .bad
  | some l => match me (Ss.mk r0 s0), (getPl s0 l fo).bind ownLst with
    | some d, some xs => match remA xs d with
      | some (y, ys) => .ok y ⟨r0, setPl s0 l fo (.lst true ys)⟩
      | none => .bad
    | _, _ => .bad := id rfl
section
variable {X : Cx} {Γ : Gam} {W : WX} {σ : L2.St} {H : Hp} {st : Ss} {p : Pd} {K : PySem.W.Frag} {m ar am ao ab : List Addr} {pos apos cpos : Pos}
end
section
variable {X : Cx} {Γ : Gam} {W : WX} {σ : L2.St} {H : Hp} {st : Ss} {p : Pd} {K : PySem.W.Frag} {apos cpos : Pos} {o e : Expr} {mo me : Ss → Option AV} {fo : Option (Str × Str)}
end
end Fk
/-! ## [C if t is None else t for t in o.f] -/
namespace Fk
open PySem PySem.Spec PyProof.Rows L2
def gnM (g x : AV) : AV := if isN x = true then g else x
def eGnP (fo : Option (Str × Str)) (mo : Ss → Option AV) (g : AV) : M AV := fun st => match (mo st).bind locOf with
  | none => .bad
  | some l => match (getPl st.s l fo).bind ownLst with
    | some xs => if xs.length < 16777216 then .ok (.lst true (xs.map (gnM g))) st else .bad
    | none => .bad
@[simp] theorem k_eGnP (fo : Option (Str × Str)) (mo : Ss → Option AV) (g : AV) (r0 : List Sl) (s0 : List AV) : eGnP fo mo g (Ss.mk r0 s0) = match (mo (Ss.mk r0 s0)).bind locOf with
  | none => .bad
  | some l => match (getPl s0 l fo).bind ownLst with
    | some xs => if xs.length < 16777216 then .ok (.lst true (xs.map (gnM g))) (Ss.mk r0 s0) else .bad
    | none => .bad := id rfl
section
variable {X : Cx} {Γ : Gam} {W : WX} {σ : L2.St} {H H' : Hp} {st : Ss} {p : Pd} {K : PySem.W.Frag} {pos q1 q4 q5 q6 q7 q8 q9 : Pos} {o : Expr} {C f : Str} {fs : List Str}
theorem AtH.keep {a0 a : Addr} {fo : Option (Str × Str)} (h : AtH K H a0 a fo) (k : ∀ b o, H b = some o → H' b = some o) : AtH K H' a0 a fo := by
  cases fo with
  | none => exact h
  | some z =>
    obtain ⟨dx, fs, e, l⟩ := h
    exact ⟨dx, fs, k _ _ e, l⟩
end
end Fk
/-! ## x or y, x None or a tuple -/
namespace Fk
open PySem PySem.Spec PyProof.Rows L2
def truT : AV → Option Bool
  | .non => some false
  | .tup xs => some (!xs.isEmpty)
  | _ => none
def eOrT (a b : M AV) : M AV := fun st => (a st).bind fun x s1 => (ofO (truT x) s1).bind fun c s2 => bif c then .ok x s2 else b s2
@[simp] theorem k_eOrT (a b : M AV) (r0 : List Sl) (s0 : List AV) : eOrT a b (Ss.mk r0 s0) = (a (Ss.mk r0 s0)).bind fun x s1 => (ofO (truT x) s1).bind fun c s2 => bif c then .ok x s2 else b s2 := id rfl
section
variable {X : Cx} {Γ : Gam} {W : WX} {pos : Pos} {a b : Expr} {rest : List Expr} {ma mb : M AV}
end
end Fk
/-! ## min, max of a list of ints, default=None -/
namespace Fk
open PySem PySem.Spec PyProof.Rows L2 PySem.W
section
variable {X : Cx} {Γ : Gam} {W : WX} {K : PySem.W.Frag} {pos q kpos npos : Pos} {e : Expr} {mp : Ss → Option (List AV)} {id : String} {x : Str} {r : List V → Hp → VK → Prop} {f : List AV → List AV → Option AV}
end
end Fk
/-! ## [k for k in d if k not in t or repr(t[k]) != repr(d[k])], where none is told -/
namespace Fk
open PySem PySem.Spec PyProof.Rows L2
def sameN : AV → AV → Bool
  | .int i, .int j => decide (i = j) && decide (i.natAbs < 2 ^ 100)
  | .non, .non => true
  | _, _ => false
def unOk (ks : List Key) (xs : List AV) (ks2 : List Key) (xs2 : List AV) : Bool := ks.all fun k => match getK ks xs k with
  | some a => (match getK ks2 xs2 k with
    | some b => sameN a b
    | none => false)
  | none => false
def imD : Sl → Option (List Key × List AV)
  | .im (.dct false ks xs) => some (ks, xs)
  | _ => none
def eUnl (i l : Nat) : M AV := fun st => match imD (getSl st.r i) with
  | some (ks, xs) => (match ownD (getSl st.r l) with
    | some (ks2, xs2) => if ks.length < 16777216 ∧ unOk ks xs ks2 xs2 = true then .ok (.lst false []) st else .bad
    | none => .bad)
  | none => .bad
@[simp] theorem k_eUnl (i l : Nat) (r0 : List Sl) (s0 : List AV) : eUnl i l (Ss.mk r0 s0) = match imD (getSl r0 i) with
  | some (ks, xs) => (match ownD (getSl r0 l) with
    | some (ks2, xs2) => if ks.length < 16777216 ∧ unOk ks xs ks2 xs2 = true then .ok (.lst false []) (Ss.mk r0 s0) else .bad
    | none => .bad)
  | none => .bad := id rfl
def tUn (K : PySem.W.Frag) (i l j : Nat) : TT := tOr (tB (tDNotIn (tVar j) (tVar l))) (tTest (tOp (uNe K) (tCB (uReprD K) (tCons (tDGet (tVar l) (tVar j)) tNil)) (tCB (uReprD K) (tCons (tDGet (tVar i) (tVar j)) tNil))))
section
variable {X : Cx} {Γ : Gam} {W : WX} {σ : L2.St} {H : Hp} {st : Ss} {p : Pd} {K : PySem.W.Frag} {pos q1 q2 q3 : Pos}
end
end Fk
/-! ## comparisons with short things, whatever is within; repr of data that holds empty dicts -/
namespace Fk
open PySem PySem.Spec PyProof.Rows L2
def shEq : AV → AV → Option Bool
  | .tup xs, .tup [] => some xs.isEmpty
  | .lst _ xs, .lst _ [] => some xs.isEmpty
  | .tup (.str w :: r), .tup [.str z] => some (decide (w = z) && r.isEmpty)
  | _, _ => none
def oEqS (x y : AV) : Option AV := (shEq x y).map AV.bl
def oNeS (x y : AV) : Option AV := (shEq x y).map fun b => AV.bl (!b)
/-- what is compared: a tuple with (), a list with [], a tuple of a text with one of a text -/
def shR (K : PySem.W.Frag) (H : Hp) (x y : V) (b : Bool) : Prop := ∃ a c xs, x = .ref a ∧ y = .ref c ∧ ((SqT K H a xs ∧ SqT K H c [] ∧ b = xs.isEmpty) ∨ (SqL K H a xs ∧ SqL K H c [] ∧ b = xs.isEmpty) ∨ ∃ w z r, xs = .str w :: r ∧ SqT K H a xs ∧ SqT K H c [.str z] ∧ b = (decide (w = z) && r.isEmpty))
def uEqS (K : PySem.W.Frag) : R2 := fun x y H Q => ∃ b, shR K H x y b ∧ Q (.bl b) H
def uNeS (K : PySem.W.Frag) : R2 := fun x y H Q => ∃ b, shR K H x y b ∧ Q (.bl (!b)) H
section
variable {X : Cx}
theorem vals_emp {xs : List V} {its : List Value} (r : Vals xs its) : (its.toArray.size == 0) = xs.isEmpty := by
  cases r <;> rfl
theorem sh_at {pins : List (Addr × Obj)} {σ : L2.St} {H : Hp} {s : Shared} {x y : V} {v u : Value} {b : Bool} (hu : X.A.units + 64 < cLine) (I : Inv X pins σ H s) (rx : RelV x v) (ry : RelV y u) (h : shR X.K H x y b) : SeqAt.RcAt X.A s v u b ∧ SeqAt.RcNeAt X.A s v u (!b) := by
  obtain ⟨a, c, xs, rfl, rfl, h⟩ := h
  cases rx
  cases ry
  have hu0 : X.A.units < cLine := by omega
  rcases h with ⟨h1, h2, rfl⟩ | ⟨h1, h2, rfl⟩ | ⟨w, z, r, rfl, h1, h2, rfl⟩
  · obtain ⟨its, rv, ⟨o, ho, hc, n, hd⟩, _⟩ := I.tuple h1
    obtain ⟨its2, rv2, ⟨o2, ho2, hc2, n2, hd2⟩, _⟩ := I.tuple h2
    cases rv2
    have t := SeqAt.RcAt.tuples (A := X.A) (e := fun _ => true) ⟨o, ho, hc, n, hd⟩ ⟨o2, ho2, hc2, n2, hd2⟩ hu0 (fun j j1 j2 => absurd j2 (Nat.not_lt_zero _))
    have t2 := SeqAt.RcNeAt.tuples (A := X.A) (e := fun _ => true) ⟨o, ho, hc, n, hd⟩ ⟨o2, ho2, hc2, n2, hd2⟩ hu0 (fun j j1 j2 => absurd j2 (Nat.not_lt_zero _))
    have e : ((List.range (min its.toArray.size ([] : List Value).toArray.size)).all (fun _ => true) && its.toArray.size == ([] : List Value).toArray.size) = xs.isEmpty := by
      rw [← vals_emp rv]
      simp
    rw [e] at t t2
    exact ⟨t, t2⟩
  · obtain ⟨its, rv, ⟨o, n, ho, hc, _, hd⟩, _⟩ := I.list h1
    obtain ⟨its2, rv2, ⟨o2, n2, ho2, hc2, _, hd2⟩, _⟩ := I.list h2
    cases rv2
    rw [← vals_emp rv]
    by_cases z : its.toArray.size = ([] : List Value).toArray.size
    · have t := SeqAt.RcAt.lists (A := X.A) (e := fun _ => true) ⟨o, ho, hc, n, hd⟩ ⟨o2, ho2, hc2, n2, hd2⟩ z hu0 (fun j j1 j2 => absurd j2 (Nat.not_lt_zero _))
      have t2 := SeqAt.RcNeAt.lists (A := X.A) (e := fun _ => true) ⟨o, ho, hc, n, hd⟩ ⟨o2, ho2, hc2, n2, hd2⟩ z hu0 (fun j j1 j2 => absurd j2 (Nat.not_lt_zero _))
      have z0 : its.toArray.size = 0 := z
      rw [z0] at t t2 ⊢
      exact ⟨t, t2⟩
    · have z0 : (its.toArray.size == 0) = false := by
        have : ¬ its.toArray.size = 0 := z
        simpa using this
      rw [z0]
      exact ⟨SeqAt.RcAt.lists_lengths ⟨o, ho, hc, n, hd⟩ ⟨o2, ho2, hc2, n2, hd2⟩ (by simpa using z) hu0, SeqAt.RcNeAt.lists_lengths ⟨o, ho, hc, n, hd⟩ ⟨o2, ho2, hc2, n2, hd2⟩ (by simpa using z) hu0⟩
  · obtain ⟨its, rv, ⟨o, ho, hc, n, hd⟩, _⟩ := I.tuple h1
    obtain ⟨its2, rv2, ⟨o2, ho2, hc2, n2, hd2⟩, _⟩ := I.tuple h2
    cases rv2 with
    | cons p1 p2 =>
      cases p2
      cases rv with
      | cons q1 q2 =>
        rename_i u2 u1 us
        obtain ⟨k1, rfl⟩ := p1
        obtain ⟨k2, rfl⟩ := q1
        have hat : ∀ j (j1 : j < (Value.str w k2 :: us).toArray.size) (j2 : j < [Value.str z k1].toArray.size), SeqAt.EqAt X.A.in1 s (Value.str w k2 :: us).toArray[j] [Value.str z k1].toArray[j] (w == z) := fun j j1 j2 => by
          have : j = 0 := by simp at j2; omega
          subst this
          exact SeqAt.EqAt.str_str w k2 z k1
        have t := SeqAt.RcAt.tuples (A := X.A) (e := fun _ => w == z) ⟨o, ho, hc, n, hd⟩ ⟨o2, ho2, hc2, n2, hd2⟩ hu0 hat
        have t2 := SeqAt.RcNeAt.tuples (A := X.A) (e := fun _ => w == z) ⟨o, ho, hc, n, hd⟩ ⟨o2, ho2, hc2, n2, hd2⟩ hu0 hat
        have e : ((List.range (min (Value.str w k2 :: us).toArray.size [Value.str z k1].toArray.size)).all (fun _ => w == z) && (Value.str w k2 :: us).toArray.size == [Value.str z k1].toArray.size) = (decide (w = z) && r.isEmpty) := by
          have e1 : min (Value.str w k2 :: us).toArray.size [Value.str z k1].toArray.size = 1 := by simp
          have e2 : ((Value.str w k2 :: us).toArray.size == [Value.str z k1].toArray.size) = r.isEmpty := by
            rw [← vals_emp q2]
            simp
          rw [e1, e2]
          by_cases c : w = z <;> simp [c]
        rw [e] at t t2
        exact ⟨t, t2⟩
theorem o_eqS (hu : X.A.units + 64 < cLine) : OpR X (compareOp .Eq) (uEqS X.K) := by
  intro pins s σ H x y v u Q I rx ry h
  obtain ⟨b, h, q⟩ := h
  exact (sh_at hu I rx ry h).1 _ _ _ _ ⟨.bl _, H, I, rfl, q⟩
theorem o_neS (hu : X.A.units + 64 < cLine) : OpR X (compareOp .NotEq) (uNeS X.K) := by
  intro pins s σ H x y v u Q I rx ry h
  obtain ⟨b, h, q⟩ := h
  exact (sh_at hu I rx ry h).2 _ _ _ _ ⟨.bl _, H, I, rfl, q⟩
end
section
variable {K : PySem.W.Frag}
theorem sh_sem {Γ : Gam} {H : Hp} {v1 v2 : V} {x y : AV} {b : Bool} (W m as bs : List Addr) (q1 : Rp K H W m [v1] [x] as) (q2 : Rp K H W m [v2] [y] bs) (e : shEq x y = some b) : shR K H v1 v2 b := by
  unfold shEq at e
  split at e
  · cases e
    obtain ⟨a, us, rfl, hs, q⟩ := q1.tup_i
    obtain ⟨c, us2, rfl, hs2, r⟩ := q2.tup_i
    cases r
    exact ⟨a, c, us, rfl, rfl, .inl ⟨hs, hs2, by cases q <;> rfl⟩⟩
  · cases e
    obtain ⟨a, us, rfl, hs, q⟩ := q1.lst_i
    obtain ⟨c, us2, rfl, hs2, r⟩ := q2.lst_i
    cases r
    exact ⟨a, c, us, rfl, rfl, .inr (.inl ⟨SqL.of hs, SqL.of hs2, by cases q <;> rfl⟩)⟩
  · cases e
    obtain ⟨a, us, rfl, hs, q⟩ := q1.tup_i
    obtain ⟨c, us2, rfl, hs2, r⟩ := q2.tup_i
    cases q with
    | str q' =>
      cases r with
      | str r' =>
        cases r'
        exact ⟨a, c, _, rfl, rfl, .inr (.inr ⟨_, _, _, rfl, hs, hs2, by cases q' <;> rfl⟩)⟩
  · cases e
theorem p_eqS : Op2 K (uEqS K) oEqS := by
  intro Γ σ H st p m ar am ao ab v1 v2 x y d a1 a2 Q R0 r1 r2 e h
  replace R0 := R0.nob
  obtain ⟨b, e1, rfl⟩ := Option.map_eq_some_iff.mp e
  exact ⟨b, sh_sem (Γ := Γ) _ _ _ _ r1 r2 e1, h _ _ (R0.rel.bl _)⟩
theorem p_neS : Op2 K (uNeS K) oNeS := by
  intro Γ σ H st p m ar am ao ab v1 v2 x y d a1 a2 Q R0 r1 r2 e h
  replace R0 := R0.nob
  obtain ⟨b, e1, rfl⟩ := Option.map_eq_some_iff.mp e
  exact ⟨b, sh_sem (Γ := Γ) _ _ _ _ r1 r2 e1, h _ _ (R0.rel.bl _)⟩
end
/-! repr -/
mutual
/-- what a value reads as: leaves, tuples, lists, empty dicts -/
inductive Dx (H : Hp) (K : PySem.W.Frag) : V → PyData → Prop
  | non : Dx H K .non .none
  | bl (b : Bool) : Dx H K (.bl b) (.bool b)
  | int (i : Int) : Dx H K (.int i) (.int i)
  | str (x : Str) : Dx H K (.str x) (.str x)
  | tup {a : Addr} {xs : List V} {ds : List PyData} : SqT K H a xs → DxAll H K xs ds → Dx H K (.ref a) (.tuple ds)
  | lst {a : Addr} {xs : List V} {ds : List PyData} : H a = some (.lst xs) → DxAll H K xs ds → Dx H K (.ref a) (.list ds)
  | dct {a : Addr} : H a = some (.dK []) → Dx H K (.ref a) (.dict [])
inductive DxAll (H : Hp) (K : PySem.W.Frag) : List V → List PyData → Prop
  | nil : DxAll H K [] []
  | cons {v : V} {vs : List V} {d : PyData} {ds : List PyData} : Dx H K v d → DxAll H K vs ds → DxAll H K (v :: vs) (d :: ds)
end
section
variable {X : Cx} {pins : List (Addr × Obj)} {σ : L2.St} {H : Hp} {s : Shared}
mutual
theorem Dx.reads (I : Inv X pins σ H s) (h1 : H sysModules = none) : ∀ (d : PyData) (v : V) (u : Value), Dx H X.K v d → RelV v u → ∃ as, Reads s.heap u d as ∧ sysModules ∉ as
  | .none, _, _, h, r => by
    cases h
    cases r
    exact ⟨_, Reads.none, by simp⟩
  | .bool b, _, _, h, r => by
    cases h
    cases r
    exact ⟨_, Reads.bool b, by simp⟩
  | .int i, _, _, h, r => by
    cases h
    obtain ⟨t, rfl⟩ := r
    exact ⟨_, Reads.int i t, by simp⟩
  | .str x, _, _, h, r => by
    cases h
    obtain ⟨t, rfl⟩ := r
    exact ⟨_, Reads.str x t, by simp⟩
  | .list ds, _, _, h, r => by
    cases h with
    | lst hs ha =>
      cases r
      obtain ⟨its, rv, ⟨o, n, ho, hc, _, hd⟩, _⟩ := I.list (SqL.of hs)
      obtain ⟨as, hr, hn⟩ := Dx.readsAll I h1 ds _ its ha rv
      refine ⟨_, Reads.list ho hc hd hr, ?_⟩
      intro z
      rcases List.mem_cons.mp z with z | z
      · rw [z] at h1
        rw [h1] at hs
        cases hs
      · exact hn z
  | .tuple ds, _, _, h, r => by
    cases h with
    | tup hs ha =>
      cases r
      obtain ⟨its, rv, ⟨o, ho, hc, n, hd⟩, _⟩ := I.tuple hs
      obtain ⟨as, hr, hn⟩ := Dx.readsAll I h1 ds _ its ha rv
      exact ⟨_, Reads.tuple ho hc hd hr, hn⟩
  | .dict kvs, _, _, h, r => by
    generalize ek : kvs = kk at h
    cases h with
    | @dct a e =>
      cases r
      obtain ⟨_, hy, vs, kv, o, es, ep, ho, hx, hd, _, prs, _⟩ := I.hok a _ e
      obtain ⟨q1, q2⟩ := rd_pairs (h := s.heap) [] es.toList vs kv prs
      subst ek
      refine ⟨_, Reads.dict ho hx.1 hd q1 q2, ?_⟩
      intro z
      have z2 : sysModules = a := by simpa using z
      rw [z2] at hy
      simp at hy
theorem Dx.readsAll (I : Inv X pins σ H s) (h1 : H sysModules = none) : ∀ (ds : List PyData) (vs : List V) (us : List Value), DxAll H X.K vs ds → Vals vs us → ∃ as, ReadsAll s.heap us ds as ∧ sysModules ∉ as
  | [], _, _, h, r => by
    cases h
    cases r
    exact ⟨_, ReadsAll.nil, by simp⟩
  | d :: ds, _, _, h, r => by
    cases h with
    | cons q1 q2 =>
      cases r with
      | cons r1 r2 =>
        obtain ⟨as, k1, n1⟩ := Dx.reads I h1 d _ _ q1 r1
        obtain ⟨bs, k2, n2⟩ := Dx.readsAll I h1 ds _ _ q2 r2
        exact ⟨_, ReadsAll.cons k1 k2, fun z => (List.mem_append.mp z).elim n1 n2⟩
end
end
def uReprX (K : PySem.W.Frag) : List V → Hp → VK → Prop := fun xs H Q => ∃ v d, xs = [v] ∧ Dx H K v d ∧ d.showable = true ∧ d.depth ≤ 60 ∧ d.shown.length ≤ sizeLine ∧ Q (.str d.shown) H
theorem call_reprX {X : Cx} (hG : X.A.guards = some []) (hu : X.A.units + 64 < cLine) (hM : (X.K.lookup sysModules).isSome = true) : CallR X (.builtin "repr") (uReprX X.K) := by
  intro pins s σ H xs us Q I r h
  obtain ⟨v, d, rfl, hd, hs, hdp, hz, q⟩ := h
  cases r with
  | cons ru rn =>
    rename_i u us'
    cases rn
    obtain ⟨o1, ho1⟩ := Option.isSome_iff_exists.mp hM
    obtain ⟨as, rd, hsm⟩ := Dx.reads I (I.bs _ _ (I.mod.kin _ _ ho1)).2 d v u hd ru
    have fin : ∀ h' uu tk, (∀ b o, s.heap.get? b = some o → h'.get? b = some o) → EP X pins σ Q (.str d.shown uu) { s with heap := h', toks := tk } := fun h' uu tk hk => ⟨.str d.shown, H, I.kept (t' := tk) hk, ⟨uu, rfl⟩, q⟩
    cases u with
    | ref a => exact repr_of_reads' rd hs (fun _ => hsm) hG (by omega) (fun _ _ e => e) fin hz
    | none =>
      cases rd
      exact P.repr_of_none (fin s.heap _ _ fun _ _ e => e)
    | bool b =>
      cases rd
      exact P.repr_of_bool (fin s.heap _ _ fun _ _ e => e)
    | int i t =>
      cases rd
      exact P.repr_of_int (by simpa [PyData.showable] using hs) (fin s.heap _ _ fun _ _ e => e)
    | str z t =>
      cases rd
      exact P.repr_of_str (fin s.heap _ _ fun _ _ e => e) hz
    | _ => cases rd
mutual
def datX : AV → PyData
  | .bl b => .bool b
  | .int i => .int i
  | .str x => .str x
  | .tup xs => .tuple (datsX xs)
  | .lst _ xs => .list (datsX xs)
  | .dct _ _ _ => .dict []
  | _ => .none
def datsX : List AV → List PyData
  | [] => []
  | x :: xs => datX x :: datsX xs
end
mutual
def plX : AV → Bool
  | .non => true
  | .bl _ => true
  | .int _ => true
  | .str _ => true
  | .tup xs => plsX xs
  | .lst _ xs => plsX xs
  | .dct _ [] [] => true
  | _ => false
def plsX : List AV → Bool
  | [] => true
  | x :: xs => plX x && plsX xs
end
def fRepX (_ : List AV) : List AV → Option AV
  | [x] => if plX x && (datX x).showable && decide ((datX x).depth ≤ 60) && decide ((datX x).shown.length ≤ 16777216) then some (.str (datX x).shown) else none
  | _ => none
theorem Rp.dxs {K : PySem.W.Frag} {H : Hp} {W m as : List Addr} {vs : List V} {xs : List AV} (r : Rp K H W m vs xs as) : plsX xs = true → DxAll H K vs (datsX xs) := by
  have ba : ∀ {a b : Bool}, (a && b) = true → a = true ∧ b = true := fun h => Bool.and_eq_true_iff.mp h
  induction r with
  | nil => intro _; exact .nil
  | non _ ih => intro h; exact .cons .non (ih (ba h).2)
  | bl _ ih => intro h; exact .cons (.bl _) (ih (ba h).2)
  | int _ ih => intro h; exact .cons (.int _) (ih (ba h).2)
  | str _ ih => intro h; exact .cons (.str _) (ih (ba h).2)
  | tup hs _ _ ih1 ih2 => intro h; exact .cons (.tup hs (ih1 (ba h).1)) (ih2 (ba h).2)
  | lsI hs _ _ _ ih1 ih2 => intro h; exact .cons (.lst hs (ih1 (ba h).1)) (ih2 (ba h).2)
  | lsO hs _ _ ih1 ih2 => intro h; exact .cons (.lst hs (ih1 (ba h).1)) (ih2 (ba h).2)
  | @dcI a kvs ks ys vs xs as hs n ek q _ _ ih2 =>
    intro h
    obtain ⟨h1, h2⟩ := ba h
    cases ks with
    | nil =>
      cases ys with
      | nil =>
        obtain rfl : kvs = [] := by simpa using ek
        exact .cons (.dct hs) (ih2 h2)
      | cons y ys => cases h1
    | cons k ks => cases h1
  | @dcO a kvs ks ys vs xs as hs ek q _ _ ih2 =>
    intro h
    obtain ⟨h1, h2⟩ := ba h
    cases ks with
    | nil =>
      cases ys with
      | nil =>
        obtain rfl : kvs = [] := by simpa using ek
        exact .cons (.dct hs) (ih2 h2)
      | cons y ys => cases h1
    | cons k ks => cases h1
  | _ => intro h; exact absurd (ba h).1 (by simp [plX])
section
variable {K : PySem.W.Frag}
theorem o_repX : OpA K (uReprX K) fRepX := by
  intro Γ σ H st p m ar am ao ab vs xs as d Q R r e h
  unfold fRepX at e
  split at e
  · split at e
    · cases e
      rename_i x c
      simp only [Bool.and_eq_true, decide_eq_true_eq] at c
      obtain ⟨v, rfl, r1⟩ := r.one
      have q := Rp.dxs r1 (by simp [plsX, c.1.1.1])
      cases q with
      | cons q1 q2 => exact ⟨v, _, rfl, q1, c.1.1.2, c.1.2, by rw [mx_eq]; exact c.2, h _ _ (R.nob.rel.str _)⟩
    · cases e
  · cases e
end
end Fk
namespace Fk
open PySem PySem.Spec PyProof.Rows L2
def m_is_whole : Fn := fnM 0 ((sRet (eAnd (eIsi "int" (eVar 0)) (e1 oNot (eIsi "bool" (eVar 0))))))
def m_is_within : Fn := fnM 0 ((sRet (eAnd (eCall 1 m_is_whole [] (aCons (eVar 0) aNil)) (eChn oLe oLe (eVar 1) (eVar 0) (eVar 2)))))
def m_is_plan : Fn := fnM 5 ((sSeq (sIf (tOrM (tNotM (tOf (eIsi "tuple" (eVar 0)))) (tOf (e2 oNe (eBP fLen (pCons (pVar 0) pNil)) (eC (.int 5))))) (sRet (eC (.bl false))) sNx)
    (sSeq (sAsgG (gT 5 (gCons' (gN 1) (gCons' (gN 2) (gCons' (gN 3) (gCons' (gN 4) (gCons' (gN 5) gNil')))))) (eVar 0))
    (sSeq (sIf (tOrM (tNotM (tOf (eCall 3 m_is_within [] (aCons (eVar 1) (aCons (eC (.int 3)) (aCons (eC (.int 8)) aNil)))))) (tNotM (tOf (eCall 3 m_is_within [] (aCons (eVar 2) (aCons (eC (.int 2)) (aCons (eC (.int 8)) aNil))))))) (sRet (eC (.bl false))) sNx)
    (sSeq (sIf (tNotM (tOf (eCall 3 m_is_within [] (aCons (eVar 3) (aCons (eC (.int 1)) (aCons (eB fMin2 (aCons (eC (.int 16)) (aCons (e2 oSub (e2 oMul (e2 oSub (eVar 1) (eC (.int 2))) (eVar 2)) (eC (.int 5))) aNil))) aNil)))))) (sRet (eC (.bl false))) sNx)
    (sRet (eAnd (eIsi "bool" (eVar 4)) (eIsi "bool" (eVar 5)))))))))
def m_need_plan : Fn := fnM 0 ((sIf (tNotM (tOf (eCall 1 m_is_plan [] (aCons (eVar 0) aNil)))) (sRaise "NoPlan") sNx))
def m_is_row : Fn := fnM 0 ((sSeq (sIf (tOrM (tNotM (tOf (eIsi "tuple" (eVar 1)))) (tOf (e2 oNe (eBP fLen (pCons (pVar 1) pNil)) (eC (.int 2))))) (sRet (eC (.bl false))) sNx)
    (sRet (eAnd (eCall 3 m_is_within [] (aCons (eP (pIx (pVar 1) (pC (.int 0)))) (aCons (eC (.int 0)) (aCons (e2 oSub (eP (pIx (pVar 0) (pC (.int 2)))) (eC (.int 1))) aNil)))) (eCall 3 m_is_within [] (aCons (eP (pIx (pVar 1) (pC (.int 1)))) (aCons (eC (.int 0)) (aCons (eC (.int 63)) aNil))))))))
def m_are_rows : Fn := fnM 3 ((sSeq (sIf (tOrM (tNotM (tOf (eIsi "tuple" (eVar 1)))) (tNotM (tOf (eChn oLe oLe (eC (.int 1)) (eBP fLen (pCons (pVar 1) pNil)) (eC (.int 4)))))) (sRet (eC (.bl false))) sNx)
    (sSeq (sIf (tNotM (tOf (eB fAll (aCons (eLc false (lcM (iOf (eVar 1)) (gN 2) tTrue (eCall 2 m_is_row [] (aCons (eVar 0) (aCons (eVar 2) aNil))) [2])) aNil)))) (sRet (eC (.bl false))) sNx)
    (sRet (e2 oEq (eLenS (eSc (iOf (eVar 1)) (gT 2 (gCons' (gN 3) (gCons' (gN 4) gNil'))) tTrue (eVar 3) [3, 4])) (eBP fLen (pCons (pVar 1) pNil)))))))
def m_is_order_of : Fn := fnM 2 ((sSeq (sIf (tOrM (tNotM (tOf (eIsi "tuple" (eVar 1)))) (tOrM (tOf (e2 oEqS (eVar 1) (eTup aNil))) (tNotM (tOf (eIsi "str" (eP (pIx (pVar 1) (pC (.int 0))))))))) (sRet (eC (.bl false))) sNx)
    (sSeq (sAsgG (gSt 2 3) (eVar 1))
    (sSeq (sIf (tOf (e2P oEq (pVar 2) (pC (.str "mend")))) (sRet (e2 oEqS (eVar 3) (eLst aNil))) sNx)
    (sSeq (sIf (tOf (e2P oEq (pVar 2) (pC (.str "write")))) (sRet (eCall 2 m_is_row [] (aCons (eVar 0) (aCons (eSl (eVar 1) (some (eC (.int 1))) none) aNil)))) sNx)
    (sSeq (sIf (tOf (e2 oNe (eBP fLen (pCons (pVar 3) pNil)) (eC (.int 1)))) (sRet (eC (.bl false))) sNx)
    (sSeq (sIf (tOf (e2P oEq (pVar 2) (pC (.str "group")))) (sRet (eCall 2 m_are_rows [] (aCons (eVar 0) (aCons (eP (pIx (pVar 3) (pC (.int 0)))) aNil)))) sNx)
    (sRet (eAnd (e2 oIn (eVar 2) (eTup (aCons (eC (.str "read")) (aCons (eC (.str "trim")) aNil)))) (eCall 3 m_is_within [] (aCons (eP (pIx (pVar 3) (pC (.int 0)))) (aCons (eC (.int 0)) (aCons (e2 oSub (eP (pIx (pVar 0) (pC (.int 2)))) (eC (.int 1))) aNil)))))))))))))
def m_is_order : Fn := fnM 0 ((sSeq (sExp (eCall 1 m_need_plan [] (aCons (eVar 0) aNil)))
    (sRet (eCall 2 m_is_order_of [] (aCons (eVar 0) (aCons (eVar 1) aNil))))))
def m__law_cell_at : Fn := fnM 0 ((sSeq (sIf (tOf (e2 oLt (eVar 1) (eBP fLen (pCons (pVar 0) pNil)))) (sRet (eP (pIx (pVar 0) (pVar 1)))) sNx)
    (sRet (eC (.int 0)))))
def m__law_state : Fn := fnM 1 ((sSeq (sAsg 2 (eCall 2 m__law_cell_at [] (aCons (eVar 0) (aCons (eVar 1) aNil))))
    (sRet (eProm (eLstO (aCons (eB fMax2 (aCons (eC (.int 0)) (aCons (e2 oSub (eVar 2) (e2 oPow (eC (.int 10)) (eC (.int 18)))) aNil))) (aCons (e2 oAdd (e2 oMod (eVar 2) (eC (.int 2147483629))) (eC (.int 1))) (aCons (eC (.int 0)) aNil))))))))
def m__law_choice : Fn := fnM 2 ((sSeq (sIf (tOf (e2P oGt (pIx (pVar 0) (pC (.int 0))) (pC (.int 0)))) (sSeq (sAsg 2 (e2 oMod (eP (pIx (pVar 0) (pC (.int 0)))) (eVar 1)))
    (sSeq (sSetP false none (pVar 0) (pC (.int 0)) (e2 oFdv (eP (pIx (pVar 0) (pC (.int 0)))) (eVar 1)))
    (sRet (eVar 2)))) sNx)
    (sSeq (sSetP false none (pVar 0) (pC (.int 2)) (e2 oAdd (eP (pIx (pVar 0) (pC (.int 2)))) (eC (.int 1))))
    (sSeq (sSetP false none (pVar 0) (pC (.int 1)) (e2 oMod (e2 oAdd (e2 oAdd (e2 oMul (eP (pIx (pVar 0) (pC (.int 1)))) (eC (.int 48271))) (eC (.int 29))) (eP (pIx (pVar 0) (pC (.int 2))))) (eC (.int 2147483647))))
    (sSeq (sAsg 3 (e2 oMod (e2 oAdd (e2 oAdd (e2 oMul (eP (pIx (pVar 0) (pC (.int 1)))) (eP (pIx (pVar 0) (pC (.int 1))))) (e2 oMul (eC (.int 39373)) (eP (pIx (pVar 0) (pC (.int 1)))))) (eC (.int 7))) (eC (.int 2147483629))))
    (sSeq (sAsg 3 (e2 oMod (e2 oAdd (e2 oMul (eVar 3) (eVar 3)) (e2 oMul (eC (.int 50021)) (eVar 3))) (eC (.int 2147483587))))
    (sRet (e2 oMod (e2 oFdv (eVar 3) (eC (.int 8))) (eVar 1)))))))))
def m__law_same : Fn := fnM 0 ((sRet (e2 oEq (eBP fRepX (pCons (pVar 0) pNil)) (eBP fRepX (pCons (pVar 1) pNil)))))
def m__law_plan : Fn := fnM 4 ((sSeq (sAsg 3 (e2 oAdd (eC (.int 3)) (eCall 2 m__law_choice [] (aCons (eVar 0) (aCons (eC (.int 4)) aNil)))))
    (sSeq (sAsg 4 (eIx (eLst (aCons (eC (.int 6)) (aCons (eC (.int 3)) (aCons (eC (.int 2)) (aCons (eC (.int 2)) aNil))))) (e2 oSub (eVar 3) (eC (.int 3)))))
    (sSeq (sAsg 5 (eB fMin2 (aCons (eC (.int 8)) (aCons (e2 oAdd (eVar 4) (eCall 2 m__law_choice [] (aCons (eVar 0) (aCons (eC (.int 3)) aNil)))) aNil))))
    (sSeq (sAsg 6 (e2 oAdd (eC (.int 1)) (eCall 2 m__law_choice [] (aCons (eVar 0) (aCons (eB fMin2 (aCons (eC (.int 16)) (aCons (e2 oSub (e2 oMul (e2 oSub (eVar 3) (eC (.int 2))) (eVar 5)) (eC (.int 5))) aNil))) aNil)))))
    (sRet (eTup (aCons (eVar 3) (aCons (eVar 5) (aCons (eVar 6) (aCons (eVar 1) (aCons (eVar 2) aNil))))))))))))
def m__law_rows : Fn := fnM 3 ((sSeq (sPar 2 3 (xO (e1 fRgL (eP (pIx (pVar 1) (pC (.int 2)))))) (xO (eLstO aNil)))
    (sSeq (sFor (iArg rng1 (aCons (eB fMin2 (aCons (eBP fLen (pCons (pVar 2) pNil)) (aCons (e2 oAdd (eC (.int 1)) (eCall 2 m__law_choice [] (aCons (eVar 0) (aCons (eC (.int 4)) aNil)))) aNil))) aNil)) (gN 4) (sExp (eApp 3 (eTup (aCons (ePop 2 (eCall 2 m__law_choice [] (aCons (eVar 0) (aCons (eBP fLen (pCons (pVar 2) pNil)) aNil)))) (aCons (eCall 2 m__law_choice [] (aCons (eVar 0) (aCons (eC (.int 64)) aNil))) aNil))))))
    (sRet (eBP fTup (pCons (pVar 3) pNil))))))
def m__law_order : Fn := fnM 2 ((sSeq (sPar 2 3 (xI (eCall 2 m__law_choice [] (aCons (eVar 0) (aCons (eC (.int 12)) aNil)))) (xI (eCall 2 m__law_choice [] (aCons (eVar 0) (aCons (eP (pIx (pVar 1) (pC (.int 2)))) aNil)))))
    (sSeq (sIf (tOf (e2P oLt (pVar 2) (pC (.int 5)))) (sRet (eTup (aCons (eC (.str "write")) (aCons (eVar 3) (aCons (eCall 2 m__law_choice [] (aCons (eVar 0) (aCons (eC (.int 64)) aNil))) aNil))))) sNx)
    (sSeq (sIf (tOf (e2P oLt (pVar 2) (pC (.int 8)))) (sRet (eTup (aCons (eC (.str "group")) (aCons (eCall 2 m__law_rows [] (aCons (eVar 0) (aCons (eVar 1) aNil))) aNil)))) sNx)
    (sSeq (sIf (tOf (e2P oLt (pVar 2) (pC (.int 10)))) (sRet (eTup (aCons (eC (.str "read")) (aCons (eVar 3) aNil)))) sNx)
    (sRet (eIf (tOf (e2P oEq (pVar 2) (pC (.int 10)))) (eTup (aCons (eC (.str "trim")) (aCons (eVar 3) aNil))) (eTup (aCons (eC (.str "mend")) aNil)))))))))
def m__law_in : Fn := fnM 0 ((sRet (eAnd (eIsi "int" (eVar 0)) (eAnd (e1 oNot (eIsi "bool" (eVar 0))) (eChn oLe oLe (eVar 1) (eVar 0) (eVar 2))))))
def m__law_is_row : Fn := fnM 0 ((sSeq (sIf (tOrM (tNotM (tOf (eIsi "tuple" (eVar 1)))) (tOf (e2 oNe (eBP fLen (pCons (pVar 1) pNil)) (eC (.int 2))))) (sRet (eC (.bl false))) sNx)
    (sRet (eAnd (eCall 3 m__law_in [] (aCons (eP (pIx (pVar 1) (pC (.int 0)))) (aCons (eC (.int 0)) (aCons (e2 oSub (eP (pIx (pVar 0) (pC (.int 2)))) (eC (.int 1))) aNil)))) (eCall 3 m__law_in [] (aCons (eP (pIx (pVar 1) (pC (.int 1)))) (aCons (eC (.int 0)) (aCons (eC (.int 63)) aNil))))))))
def m__law_is_order : Fn := fnM 4 ((sSeq (sIf (tOrM (tNotM (tOf (eIsi "tuple" (eVar 1)))) (tOrM (tOf (e2 oEqS (eVar 1) (eTup aNil))) (tNotM (tOf (eIsi "str" (eP (pIx (pVar 1) (pC (.int 0))))))))) (sRet (eC (.bl false))) sNx)
    (sSeq (sIf (tOf (e2P oEq (pIx (pVar 1) (pC (.int 0))) (pC (.str "write")))) (sRet (eCall 2 m__law_is_row [] (aCons (eVar 0) (aCons (eSl (eVar 1) (some (eC (.int 1))) none) aNil)))) sNx)
    (sSeq (sIf (tOf (e2 oIn (eP (pIx (pVar 1) (pC (.int 0)))) (eLst (aCons (eC (.str "read")) (aCons (eC (.str "trim")) aNil))))) (sRet (eAnd (e2 oEq (eBP fLen (pCons (pVar 1) pNil)) (eC (.int 2))) (eCall 3 m__law_in [] (aCons (eP (pIx (pVar 1) (pC (.int 1)))) (aCons (eC (.int 0)) (aCons (e2 oSub (eP (pIx (pVar 0) (pC (.int 2)))) (eC (.int 1))) aNil)))))) sNx)
    (sSeq (sIf (tOrM (tOf (e2P oNe (pIx (pVar 1) (pC (.int 0))) (pC (.str "group")))) (tOf (e2 oNe (eBP fLen (pCons (pVar 1) pNil)) (eC (.int 2))))) (sRet (e2 oEqS (eVar 1) (eTup (aCons (eC (.str "mend")) aNil)))) sNx)
    (sSeq (sAsg 2 (eP (pIx (pVar 1) (pC (.int 1)))))
    (sSeq (sIf (tOrM (tNotM (tOf (eIsi "tuple" (eVar 2)))) (tNotM (tOf (eChn oLt oLt (eC (.int 0)) (eBP fLen (pCons (pVar 2) pNil)) (eC (.int 5)))))) (sRet (eC (.bl false))) sNx)
    (sSeq (sIf (tOf (e2 oNeS (eLc false (lcM (iOf (eVar 2)) (gN 3) (tNotM (tOf (eCall 2 m__law_is_row [] (aCons (eVar 0) (aCons (eVar 3) aNil))))) (eVar 3) [3])) (eLst aNil))) (sRet (eC (.bl false))) sNx)
    (sRet (e2 oEqS (eLc false (lcM (iArg enuA (aCons (eVar 2) aNil)) (gT 2 (gCons' (gN 4) (gCons' (gN 3) gNil'))) (tOf (e2 oIn (eP (pIx (pVar 3) (pC (.int 0)))) (eLc false (lcM (iOf (eSl (eVar 2) none (some (eVar 4)))) (gN 5) tTrue (eP (pIx (pVar 5) (pC (.int 0)))) [5])))) (eVar 4) [4, 3])) (eLst aNil)))))))))))
def m__law_odd : Fn := fnM 1 ((sSeq (sAsg 1 (eLst (aCons (eC .non) (aCons (eC (.bl true)) (aCons (eC (.bl false)) (aCons (eC (.int 0)) (aCons (eC (.int 1)) (aCons (e1 oNeg (eC (.int 1))) (aCons (e2 oPow (eC (.int 10)) (eC (.int 29))) (aCons (eC (.str "")) (aCons (eC (.str "read")) (aCons (eC (.str "mend")) (aCons (eTup aNil) (aCons (eLst aNil) (aCons (eFrz eDnew) (aCons (eTup (aCons (eC (.str "mend")) aNil)) (aCons (eTup (aCons (eC (.int 0)) (aCons (eC (.int 1)) aNil))) (aCons (eLst (aCons (eC (.int 0)) aNil)) (aCons (eTup (aCons (eC (.str "fence")) aNil)) aNil)))))))))))))))))))
    (sRet (eIx (eVar 1) (eCall 2 m__law_choice [] (aCons (eVar 0) (aCons (eC (.int 17)) aNil)))))))
def mR__law_bent : Nat → Fn
  | 0 => fun _ _ => .bad
  | n_ + 1 => fnM 2 ((sSeq (sIf (tAndM (tOf (eIsi "tuple" (eVar 1))) (tAndM (tOf (e2 oNeS (eVar 1) (eTup aNil))) (tOf (e2 oGt (eCall 2 m__law_choice [] (aCons (eVar 0) (aCons (eC (.int 6)) aNil))) (eC (.int 0)))))) (sSeq (sAsg 2 (eCall 2 m__law_choice [] (aCons (eVar 0) (aCons (eBP fLen (pCons (pVar 1) pNil)) aNil))))
    (sRet (e2 oAdd (e2 oAdd (eSl (eVar 1) none (some (eVar 2))) (eTup (aCons (eCall 2 (mR__law_bent n_) [] (aCons (eVar 0) (aCons (eP (pIx (pVar 1) (pVar 2))) aNil))) aNil))) (eSl (eVar 1) (some (e2 oAdd (eVar 2) (eC (.int 1)))) none)))) sNx)
    (sSeq (sAsg 3 (eCall 2 m__law_choice [] (aCons (eVar 0) (aCons (eC (.int 8)) aNil))))
    (sSeq (sIf (tAndM (tOf (eIsi "tuple" (eVar 1))) (tOf (e2P oLt (pVar 3) (pC (.int 6))))) (sRet (eIx (eLst (aCons (e2 oAdd (eVar 1) (eSl (eVar 1) (some (e1 oNeg (eC (.int 1)))) none)) (aCons (eSl (eVar 1) none (some (e1 oNeg (eC (.int 1))))) (aCons (eSl (eVar 1) (some (eC (.int 1))) none) (aCons (e1 revA (eVar 1)) (aCons (eFrz (eBP (fL true fList) (pCons (pVar 1) pNil))) (aCons (e2 oAdd (eVar 1) (eTup (aCons (eC (.int 0)) aNil))) aNil))))))) (eVar 3))) sNx)
    (sSeq (sIf (tAndM (tOf (eIsi "int" (eVar 1))) (tAndM (tNotM (tOf (eIsi "bool" (eVar 1)))) (tOf (e2P oLt (pVar 3) (pC (.int 6)))))) (sRet (e2 oAdd (eVar 1) (eIx (eLst (aCons (eC (.int 1)) (aCons (e1 oNeg (eC (.int 1))) (aCons (eC (.int 2)) (aCons (e1 oNeg (eC (.int 9))) (aCons (eC (.int 63)) (aCons (eC (.int 16)) aNil))))))) (eVar 3)))) sNx)
    (sSeq (sIf (tAndM (tOf (eIsi "str" (eVar 1))) (tOf (e2P oLt (pVar 3) (pC (.int 4))))) (sRet (eIx (eLst (aCons (e2 oAdd (eVar 1) (eC (.str "s"))) (aCons (eSl (eVar 1) (some (eC (.int 1))) none) (aCons (eUpp (eVar 1)) (aCons (eC (.str "trim")) aNil))))) (eVar 3))) sNx)
    (sRet (eCall 1 m__law_odd [] (aCons (eVar 0) aNil)))))))))
def m__law_bent : Fn := mR__law_bent 6
def m_law : Fn := fnM 12 ((sSeq (sFor (iArg rng1 (aCons (eB fMax2 (aCons (eC (.int 1)) (aCons (eB fMin2 (aCons (eBP fLen (pCons (pVar 0) pNil)) (aCons (eC (.int 4)) aNil))) aNil))) aNil)) (gN 1) (sSeq (sAsg 2 (eCall 2 m__law_state [] (aCons (eVar 0) (aCons (eVar 1) aNil))))
    (sSeq (sAsg 3 (eCall 3 m__law_plan [] (aCons (eVar 2) (aCons (e2 oEq (eCall 2 m__law_choice [] (aCons (eVar 2) (aCons (eC (.int 2)) aNil))) (eC (.int 0))) (aCons (e2 oEq (eCall 2 m__law_choice [] (aCons (eVar 2) (aCons (eC (.int 2)) aNil))) (eC (.int 0))) aNil)))))
    (sSeq (sAsg 4 (e2 oSub (eP (pIx (pVar 3) (pC (.int 2)))) (eC (.int 1))))
    (sSeq (sAsgOw 5 (eLstO (aCons (eTup (aCons (eC (.str "read")) (aCons (eVar 4) aNil))) (aCons (eTup (aCons (eC (.str "read")) (aCons (e2 oAdd (eVar 4) (eC (.int 1))) aNil))) (aCons (eTup (aCons (eC (.str "trim")) (aCons (e1 oNeg (eC (.int 1))) aNil))) (aCons (eTup (aCons (eC (.str "write")) (aCons (eVar 4) (aCons (eC (.int 63)) aNil)))) (aCons (eTup (aCons (eC (.str "write")) (aCons (eC (.int 0)) (aCons (eC (.int 64)) aNil)))) (aCons (eTup (aCons (eC (.str "mend")) (aCons (eC (.int 0)) aNil))) aNil))))))))
    (sSeq (sAsgOw 5 (e2 oAddO (eVar 5) (eLst (aCons (eTup (aCons (eC (.str "group")) (aCons (eTup aNil) aNil))) (aCons (eTup (aCons (eC (.str "group")) (aCons (e2 oMul (eTup (aCons (eTup (aCons (eC (.int 0)) (aCons (eC (.int 0)) aNil))) aNil)) (eC (.int 2))) aNil))) (aCons (eTup (aCons (eC (.str "group")) (aCons (eTup (aCons (eTup (aCons (eC (.int 0)) (aCons (eC (.int 0)) aNil))) aNil)) aNil))) (aCons (eTup (aCons (eC (.str "group")) (aCons (eLst (aCons (eTup (aCons (eC (.int 0)) (aCons (eC (.int 0)) aNil))) aNil)) aNil))) aNil)))))))
    (sSeq (sExp (eApp 5 (eTup (aCons (eC (.str "read")) aNil))))
    (sSeq (sFor (iOf (eTup (aCons (eC (.int 4)) (aCons (eC (.int 5)) aNil)))) (gN 6) (sExp (eApp 5 (eTup (aCons (eC (.str "group")) (aCons (eB fTup (aCons (eLc false (lcM (iArg rng1 (aCons (eVar 6) aNil)) (gN 12) tTrue (eTup (aCons (eVar 12) (aCons (eVar 12) aNil))) [12])) aNil)) aNil))))))
    (sSeq (sFor (iArg rng1 (aCons (eC (.int 8)) aNil)) (gN 7) (sSeq (sAsg 8 (eCall 2 m__law_order [] (aCons (eVar 2) (aCons (eVar 3) aNil))))
    (sSeq (sAsg 9 (eCall 2 m__law_bent [] (aCons (eVar 2) (aCons (eVar 8) aNil))))
    (sAsgOw 5 (e2 oAddO (eVar 5) (eLst (aCons (eVar 8) (aCons (eVar 9) (aCons (eCall 2 m__law_bent [] (aCons (eVar 2) (aCons (eVar 9) aNil))) (aCons (eFrz (eBP (fL true fList) (pCons (pVar 8) pNil))) (aCons (eCall 1 m__law_odd [] (aCons (eVar 2) aNil)) aNil)))))))))))
    (sFor (iOf (eVar 5)) (gN 10) (sSeq (sAsg 11 (eB fRepX (aCons (eTup (aCons (eVar 3) (aCons (eVar 10) aNil))) aNil)))
    (sIf (tOrM (tNotM (tOf (eCall 2 m__law_same [] (aCons (eCall 2 m_is_order [] (aCons (eVar 3) (aCons (eVar 10) aNil))) (aCons (eCall 2 m__law_is_order [] (aCons (eVar 3) (aCons (eVar 10) aNil))) aNil))))) (tOf (e2 oNe (eB fRepX (aCons (eTup (aCons (eVar 3) (aCons (eVar 10) aNil))) aNil)) (eVar 11)))) (sRet (eC (.bl false))) sNx))))))))))))
    (sRet (eC (.bl true)))))
end Fk
namespace Fk
open PySem PySem.Spec PyProof.Rows L2
open Hd
/-! ### the text -/
abbrev N_is_whole : List Str := ["thing"]
theorem sc_is_whole : FnScope N_is_whole ["thing"] (defScope z_is_whole) := ⟨rfl, rfl, rfl, by decide +kernel, rfl, by decide +kernel, by decide +kernel⟩
abbrev N_is_within : List Str := ["thing", "least", "most"]
theorem sc_is_within : FnScope N_is_within ["thing", "least", "most"] (defScope z_is_within) := ⟨rfl, rfl, rfl, by decide +kernel, rfl, by decide +kernel, by decide +kernel⟩
abbrev N_is_plan : List Str := ["thing", "blocks", "pages", "places", "sealed", "commits"]
theorem sc_is_plan : FnScope N_is_plan ["thing"] (defScope z_is_plan) := ⟨rfl, rfl, rfl, by decide +kernel, rfl, by decide +kernel, by decide +kernel⟩
abbrev N_need_plan : List Str := ["thing"]
theorem sc_need_plan : FnScope N_need_plan ["thing"] (defScope z_need_plan) := ⟨rfl, rfl, rfl, by decide +kernel, rfl, by decide +kernel, by decide +kernel⟩
abbrev N_is_row : List Str := ["plan", "thing"]
theorem sc_is_row : FnScope N_is_row ["plan", "thing"] (defScope z_is_row) := ⟨rfl, rfl, rfl, by decide +kernel, rfl, by decide +kernel, by decide +kernel⟩
abbrev N_are_rows : List Str := ["plan", "thing", "one", "place", "data"]
theorem sc_are_rows : FnScope N_are_rows ["plan", "thing"] (defScope z_are_rows) := ⟨rfl, rfl, rfl, by decide +kernel, rfl, by decide +kernel, by decide +kernel⟩
abbrev N_is_order_of : List Str := ["plan", "thing", "word", "things"]
theorem sc_is_order_of : FnScope N_is_order_of ["plan", "thing"] (defScope z_is_order_of) := ⟨rfl, rfl, rfl, by decide +kernel, rfl, by decide +kernel, by decide +kernel⟩
abbrev N_is_order : List Str := ["plan", "thing"]
theorem sc_is_order : FnScope N_is_order ["plan", "thing"] (defScope z_is_order) := ⟨rfl, rfl, rfl, by decide +kernel, rfl, by decide +kernel, by decide +kernel⟩
abbrev N__law_cell_at : List Str := ["_law_script", "_law_k"]
theorem sc__law_cell_at : FnScope N__law_cell_at ["_law_script", "_law_k"] (defScope z__law_cell_at) := ⟨rfl, rfl, rfl, by decide +kernel, rfl, by decide +kernel, by decide +kernel⟩
abbrev N__law_state : List Str := ["_law_script", "_law_k", "_law_cell"]
theorem sc__law_state : FnScope N__law_state ["_law_script", "_law_k"] (defScope z__law_state) := ⟨rfl, rfl, rfl, by decide +kernel, rfl, by decide +kernel, by decide +kernel⟩
abbrev N__law_choice : List Str := ["_law_state_here", "_law_many", "_law_found", "_law_mixed"]
theorem sc__law_choice : FnScope N__law_choice ["_law_state_here", "_law_many"] (defScope z__law_choice) := ⟨rfl, rfl, rfl, by decide +kernel, rfl, by decide +kernel, by decide +kernel⟩
abbrev N__law_same : List Str := ["_law_found", "_law_ought"]
theorem sc__law_same : FnScope N__law_same ["_law_found", "_law_ought"] (defScope z__law_same) := ⟨rfl, rfl, rfl, by decide +kernel, rfl, by decide +kernel, by decide +kernel⟩
abbrev N__law_plan : List Str := ["_law_state_here", "_law_sealed", "_law_commits", "_law_blocks", "_law_least_pages", "_law_pages", "_law_places"]
theorem sc__law_plan : FnScope N__law_plan ["_law_state_here", "_law_sealed", "_law_commits"] (defScope z__law_plan) := ⟨rfl, rfl, rfl, by decide +kernel, rfl, by decide +kernel, by decide +kernel⟩
abbrev N__law_rows : List Str := ["_law_state_here", "_law_shape", "_law_left", "_law_lines", "_law_again"]
theorem sc__law_rows : FnScope N__law_rows ["_law_state_here", "_law_shape"] (defScope z__law_rows) := ⟨rfl, rfl, rfl, by decide +kernel, rfl, by decide +kernel, by decide +kernel⟩
abbrev N__law_order : List Str := ["_law_state_here", "_law_shape", "_law_way", "_law_place"]
theorem sc__law_order : FnScope N__law_order ["_law_state_here", "_law_shape"] (defScope z__law_order) := ⟨rfl, rfl, rfl, by decide +kernel, rfl, by decide +kernel, by decide +kernel⟩
abbrev N__law_in : List Str := ["_law_thing", "_law_least", "_law_top"]
theorem sc__law_in : FnScope N__law_in ["_law_thing", "_law_least", "_law_top"] (defScope z__law_in) := ⟨rfl, rfl, rfl, by decide +kernel, rfl, by decide +kernel, by decide +kernel⟩
abbrev N__law_is_row : List Str := ["_law_shape", "_law_thing"]
theorem sc__law_is_row : FnScope N__law_is_row ["_law_shape", "_law_thing"] (defScope z__law_is_row) := ⟨rfl, rfl, rfl, by decide +kernel, rfl, by decide +kernel, by decide +kernel⟩
abbrev N__law_is_order : List Str := ["_law_shape", "_law_thing", "_law_lines", "_law_row", "_law_at", "_law_one"]
theorem sc__law_is_order : FnScope N__law_is_order ["_law_shape", "_law_thing"] (defScope z__law_is_order) := ⟨rfl, rfl, rfl, by decide +kernel, rfl, by decide +kernel, by decide +kernel⟩
abbrev N__law_odd : List Str := ["_law_state_here", "_law_some"]
theorem sc__law_odd : FnScope N__law_odd ["_law_state_here"] (defScope z__law_odd) := ⟨rfl, rfl, rfl, by decide +kernel, rfl, by decide +kernel, by decide +kernel⟩
abbrev N__law_bent : List Str := ["_law_state_here", "_law_thing", "_law_at", "_law_way"]
theorem sc__law_bent : FnScope N__law_bent ["_law_state_here", "_law_thing"] (defScope z__law_bent) := ⟨rfl, rfl, rfl, by decide +kernel, rfl, by decide +kernel, by decide +kernel⟩
abbrev N_law : List Str := ["_law_script", "_law_k", "_law_state_here", "_law_shape", "_law_last", "_law_things", "_law_many", "_law_again", "_law_deed", "_law_once", "_law_thing", "_law_stood", "_law_place"]
theorem sc_law : FnScope N_law ["_law_script"] (defScope z_law) := ⟨rfl, rfl, rfl, by decide +kernel, rfl, by decide +kernel, by decide +kernel⟩
abbrev TT (K : PySem.W.Frag) : List (Addr × Str) := []
/-! ### what the top has written -/
structure Bs (K : PySem.W.Frag) (mg : Str → Option Value) : Prop where
  yes : True
  n_all : mg "all" = none
  n_bool : mg "bool" = none
  n_enumerate : mg "enumerate" = none
  n_int : mg "int" = none
  n_isinstance : mg "isinstance" = none
  n_len : mg "len" = none
  n_list : mg "list" = none
  n_max : mg "max" = none
  n_min : mg "min" = none
  n_range : mg "range" = none
  n_repr : mg "repr" = none
  n_str : mg "str" = none
  n_tuple : mg "tuple" = none
  sm : (K.lookup sysModules).isSome = true
  c_MOST_BLOCKS : ∃ t, mg "MOST_BLOCKS" = some (.int 8 t)
  c_MOST_DATA : ∃ t, mg "MOST_DATA" = some (.int 63 t)
  c_MOST_PAGES : ∃ t, mg "MOST_PAGES" = some (.int 8 t)
  c_MOST_PLACES : ∃ t, mg "MOST_PLACES" = some (.int 16 t)
  c_MOST_ROWS : ∃ t, mg "MOST_ROWS" = some (.int 4 t)
  c_SPARE : ∃ t, mg "SPARE" = some (.int 5 t)
  x_NoPlan : ExcF K mg "NoPlan"
/-! ### each def is worth its mirror -/
section
variable {P : Program} {w : World} {K : PySem.W.Frag} {mg : Str → Option Value} {base : Heap} {f : Addr} {fd : FuncData}
theorem ok_is_whole (F : FunD K "is_whole" "is_whole" (defArgs z_is_whole) (defBody z_is_whole) (defScope z_is_whole) [] [] f fd) (B : Bs K mg) : FnN P w K mg base 1 f fd ["thing"] (spM K (TT K) 1 m_is_whole) := by
  have sc := sc_is_whole
  refine okM (T := TT K) F sc rfl (fun cdv A outer s H E Γ hT hG hr => ?_)
  obtain ⟨U0, H0, A0, m0, T0⟩ := Γ
  obtain rfl : T0 = TT K := hT
  have tk := takes_N (P := P) (w := w) (K := K) (mg := mg) (base := base) (N := N_is_whole) (qual := "is_whole") (scope := defScope z_is_whole) (f := f) (cd := cdv) (A := A) (outer := outer) (s := s) (H := H) (E := E)
  have pO := own_N (P := P) (w := w) (K := K) (mg := mg) (base := base) (N := N_is_whole) (qual := "is_whole") (scope := defScope z_is_whole) (f := f) (cd := cdv) (A := A) (outer := outer) (s := s) (H := H) (E := E)
  have hU := hr.units
  have hU65 := units65 hr
  have hU1 : (A.deeper (envOfC "is_whole" (defScope z_is_whole) s.heap.objs.size f cdv)).units + 1 < cLine := by have := hr.un; omega
  exact (s_one (s_ret (s_vand (s_isi (n := "int") (by decide) rfl B.n_isinstance rfl B.n_int (by decide +kernel) (sv 0)) (s_vone (s_vnot (s_isi (n := "bool") (by decide) rfl B.n_isinstance rfl B.n_bool (by decide +kernel) (sv 0)))))))
theorem ok_is_within (F : FunD K "is_within" "is_within" (defArgs z_is_within) (defBody z_is_within) (defScope z_is_within) [] [] f fd) (B : Bs K mg) (C_is_whole : CalN P w K mg base (TT K) 1 "is_whole" ["thing"] [] m_is_whole) : FnN P w K mg base 2 f fd ["thing", "least", "most"] (spM K (TT K) 3 m_is_within) := by
  have sc := sc_is_within
  refine okM (T := TT K) F sc rfl (fun cdv A outer s H E Γ hT hG hr => ?_)
  obtain ⟨U0, H0, A0, m0, T0⟩ := Γ
  obtain rfl : T0 = TT K := hT
  have tk := takes_N (P := P) (w := w) (K := K) (mg := mg) (base := base) (N := N_is_within) (qual := "is_within") (scope := defScope z_is_within) (f := f) (cd := cdv) (A := A) (outer := outer) (s := s) (H := H) (E := E)
  have pO := own_N (P := P) (w := w) (K := K) (mg := mg) (base := base) (N := N_is_within) (qual := "is_within") (scope := defScope z_is_within) (f := f) (cd := cdv) (A := A) (outer := outer) (s := s) (H := H) (E := E)
  have hU := hr.units
  have hU65 := units65 hr
  have hU1 : (A.deeper (envOfC "is_within" (defScope z_is_within) s.heap.objs.size f cdv)).units + 1 < cLine := by have := hr.un; omega
  exact (s_one (s_ret (s_vand (sCl C_is_whole hG hr (by decide) rfl tk (s_cons (sv 0) s_nil)) (s_vone (s_chn o_le o_le p_le p_le (sv 1) (sv 0) (sv 2) (fun h1 h2 h3 h4 h5 => pe_chain h1 h2 h3 h4 h5))))))
theorem ok_is_plan (F : FunD K "is_plan" "is_plan" (defArgs z_is_plan) (defBody z_is_plan) (defScope z_is_plan) [] [] f fd) (B : Bs K mg) (C_is_within : CalN P w K mg base (TT K) 2 "is_within" ["thing", "least", "most"] [] m_is_within) : FnN P w K mg base 3 f fd ["thing"] (spM K (TT K) 1 m_is_plan) := by
  have sc := sc_is_plan
  obtain ⟨_, h_MOST_BLOCKS⟩ := B.c_MOST_BLOCKS
  obtain ⟨_, h_MOST_PAGES⟩ := B.c_MOST_PAGES
  obtain ⟨_, h_MOST_PLACES⟩ := B.c_MOST_PLACES
  obtain ⟨_, h_SPARE⟩ := B.c_SPARE
  refine okM (T := TT K) F sc rfl (fun cdv A outer s H E Γ hT hG hr => ?_)
  obtain ⟨U0, H0, A0, m0, T0⟩ := Γ
  obtain rfl : T0 = TT K := hT
  have tk := takes_N (P := P) (w := w) (K := K) (mg := mg) (base := base) (N := N_is_plan) (qual := "is_plan") (scope := defScope z_is_plan) (f := f) (cd := cdv) (A := A) (outer := outer) (s := s) (H := H) (E := E)
  have pO := own_N (P := P) (w := w) (K := K) (mg := mg) (base := base) (N := N_is_plan) (qual := "is_plan") (scope := defScope z_is_plan) (f := f) (cd := cdv) (A := A) (outer := outer) (s := s) (H := H) (E := E)
  have hU := hr.units
  have hU65 := units65 hr
  have hU1 : (A.deeper (envOfC "is_plan" (defScope z_is_plan) s.heap.objs.size f cdv)).units + 1 < cLine := by have := hr.un; omega
  exact (s_seq (s_if (PW.pt (s_or (s_not (s_tval (s_isi (n := "tuple") (by decide) rfl B.n_isinstance rfl B.n_tuple (by decide +kernel) (sv 0)))) (s_or1 (s_tcmp (o_ne hU) p_ne (s_cbP c_len o_len rfl B.n_len (by decide +kernel) (q_cons (qv 0) q_nil)) s_int (nomark _))))) (s_one (s_ret s_bl)) s_end)
      (s_seq (s_asgG (sv 0) (s_gt rfl (s_gcons (s_gn (i := 1) sc.nd rfl (Or.inl rfl)) (s_gcons (s_gn (i := 2) sc.nd rfl (Or.inl rfl)) (s_gcons (s_gn (i := 3) sc.nd rfl (Or.inl rfl)) (s_gcons (s_gn (i := 4) sc.nd rfl (Or.inl rfl)) (s_gcons (s_gn (i := 5) sc.nd rfl (Or.inl rfl)) s_gnil)))))))
      (s_seq (s_if (PW.pt (s_or (s_not (s_tval (sCl C_is_within hG hr (by decide) rfl tk (s_cons (sv 1) (s_cons s_int (s_cons (s_gl (v := .int 8) rfl h_MOST_BLOCKS ⟨_, rfl⟩ (fun _ _ _ => .int .nil)) s_nil)))))) (s_or1 (s_not (s_tval (sCl C_is_within hG hr (by decide) rfl tk (s_cons (sv 2) (s_cons s_int (s_cons (s_gl (v := .int 8) rfl h_MOST_PAGES ⟨_, rfl⟩ (fun _ _ _ => .int .nil)) s_nil))))))))) (s_one (s_ret s_bl)) s_end)
      (s_seq (s_if (s_not (s_tval (sCl C_is_within hG hr (by decide) rfl tk (s_cons (sv 3) (s_cons s_int (s_cons (s_cb (call_min2 rfl) o_min2 rfl B.n_min (by decide +kernel) (s_cons (s_gl (v := .int 16) rfl h_MOST_PLACES ⟨_, rfl⟩ (fun _ _ _ => .int .nil)) (s_cons (s_op o_subB p_sub (s_op o_mul2 p_mul (s_op o_subB p_sub (sv 1) s_int) (sv 2)) (s_gl (v := .int 5) rfl h_SPARE ⟨_, rfl⟩ (fun _ _ _ => .int .nil))) s_nil))) s_nil)))))) (s_one (s_ret s_bl)) s_end)
      (s_one (s_ret (s_vand (s_isi (n := "bool") (by decide) rfl B.n_isinstance rfl B.n_bool (by decide +kernel) (sv 4)) (s_vone (s_isi (n := "bool") (by decide) rfl B.n_isinstance rfl B.n_bool (by decide +kernel) (sv 5))))))))))
theorem ok_need_plan (F : FunD K "need_plan" "need_plan" (defArgs z_need_plan) (defBody z_need_plan) (defScope z_need_plan) [] [] f fd) (B : Bs K mg) (C_is_plan : CalN P w K mg base (TT K) 3 "is_plan" ["thing"] [] m_is_plan) : FnN P w K mg base 4 f fd ["thing"] (spM K (TT K) 1 m_need_plan) := by
  have sc := sc_need_plan
  refine okM (T := TT K) F sc rfl (fun cdv A outer s H E Γ hT hG hr => ?_)
  obtain ⟨U0, H0, A0, m0, T0⟩ := Γ
  obtain rfl : T0 = TT K := hT
  have tk := takes_N (P := P) (w := w) (K := K) (mg := mg) (base := base) (N := N_need_plan) (qual := "need_plan") (scope := defScope z_need_plan) (f := f) (cd := cdv) (A := A) (outer := outer) (s := s) (H := H) (E := E)
  have pO := own_N (P := P) (w := w) (K := K) (mg := mg) (base := base) (N := N_need_plan) (qual := "need_plan") (scope := defScope z_need_plan) (f := f) (cd := cdv) (A := A) (outer := outer) (s := s) (H := H) (E := E)
  have hU := hr.units
  have hU65 := units65 hr
  have hU1 : (A.deeper (envOfC "need_plan" (defScope z_need_plan) s.heap.objs.size f cdv)).units + 1 < cLine := by have := hr.un; omega
  exact (s_one (s_if (s_not (s_tval (sCl C_is_plan hG hr (by decide) rfl tk (s_cons (sv 0) s_nil)))) (s_one (s_raise B.x_NoPlan rfl tk rfl)) s_end))
theorem ok_is_row (F : FunD K "is_row" "is_row" (defArgs z_is_row) (defBody z_is_row) (defScope z_is_row) [] [] f fd) (B : Bs K mg) (C_is_within : CalN P w K mg base (TT K) 2 "is_within" ["thing", "least", "most"] [] m_is_within) : FnN P w K mg base 3 f fd ["plan", "thing"] (spM K (TT K) 2 m_is_row) := by
  have sc := sc_is_row
  obtain ⟨_, h_MOST_DATA⟩ := B.c_MOST_DATA
  refine okM (T := TT K) F sc rfl (fun cdv A outer s H E Γ hT hG hr => ?_)
  obtain ⟨U0, H0, A0, m0, T0⟩ := Γ
  obtain rfl : T0 = TT K := hT
  have tk := takes_N (P := P) (w := w) (K := K) (mg := mg) (base := base) (N := N_is_row) (qual := "is_row") (scope := defScope z_is_row) (f := f) (cd := cdv) (A := A) (outer := outer) (s := s) (H := H) (E := E)
  have pO := own_N (P := P) (w := w) (K := K) (mg := mg) (base := base) (N := N_is_row) (qual := "is_row") (scope := defScope z_is_row) (f := f) (cd := cdv) (A := A) (outer := outer) (s := s) (H := H) (E := E)
  have hU := hr.units
  have hU65 := units65 hr
  have hU1 : (A.deeper (envOfC "is_row" (defScope z_is_row) s.heap.objs.size f cdv)).units + 1 < cLine := by have := hr.un; omega
  exact (s_seq (s_if (PW.pt (s_or (s_not (s_tval (s_isi (n := "tuple") (by decide) rfl B.n_isinstance rfl B.n_tuple (by decide +kernel) (sv 1)))) (s_or1 (s_tcmp (o_ne hU) p_ne (s_cbP c_len o_len rfl B.n_len (by decide +kernel) (q_cons (qv 1) q_nil)) s_int (nomark _))))) (s_one (s_ret s_bl)) s_end)
      (s_one (s_ret (s_vand (sCl C_is_within hG hr (by decide) rfl tk (s_cons (s_ofP (q_ix hU1 (qv 1) q_int)) (s_cons s_int (s_cons (s_op o_subB p_sub (s_ofP (q_ix hU1 (qv 0) q_int)) s_int) s_nil)))) (s_vone (sCl C_is_within hG hr (by decide) rfl tk (s_cons (s_ofP (q_ix hU1 (qv 1) q_int)) (s_cons s_int (s_cons (s_gl (v := .int 63) rfl h_MOST_DATA ⟨_, rfl⟩ (fun _ _ _ => .int .nil)) s_nil)))))))))
theorem ok_are_rows (F : FunD K "are_rows" "are_rows" (defArgs z_are_rows) (defBody z_are_rows) (defScope z_are_rows) [] [] f fd) (B : Bs K mg) (C_is_row : CalN P w K mg base (TT K) 3 "is_row" ["plan", "thing"] [] m_is_row) : FnN P w K mg base 4 f fd ["plan", "thing"] (spM K (TT K) 2 m_are_rows) := by
  have sc := sc_are_rows
  obtain ⟨_, h_MOST_ROWS⟩ := B.c_MOST_ROWS
  refine okM (T := TT K) F sc rfl (fun cdv A outer s H E Γ hT hG hr => ?_)
  obtain ⟨U0, H0, A0, m0, T0⟩ := Γ
  obtain rfl : T0 = TT K := hT
  have tk := takes_N (P := P) (w := w) (K := K) (mg := mg) (base := base) (N := N_are_rows) (qual := "are_rows") (scope := defScope z_are_rows) (f := f) (cd := cdv) (A := A) (outer := outer) (s := s) (H := H) (E := E)
  have pO := own_N (P := P) (w := w) (K := K) (mg := mg) (base := base) (N := N_are_rows) (qual := "are_rows") (scope := defScope z_are_rows) (f := f) (cd := cdv) (A := A) (outer := outer) (s := s) (H := H) (E := E)
  have hU := hr.units
  have hU65 := units65 hr
  have hU1 : (A.deeper (envOfC "are_rows" (defScope z_are_rows) s.heap.objs.size f cdv)).units + 1 < cLine := by have := hr.un; omega
  exact (s_seq (s_if (PW.pt (s_or (s_not (s_tval (s_isi (n := "tuple") (by decide) rfl B.n_isinstance rfl B.n_tuple (by decide +kernel) (sv 1)))) (s_or1 (s_not (s_tchn o_le o_le p_le p_le s_int (s_cbP c_len o_len rfl B.n_len (by decide +kernel) (q_cons (qv 1) q_nil)) (s_gl (v := .int 4) rfl h_MOST_ROWS ⟨_, rfl⟩ (fun _ _ _ => .int .nil)) (fun h1 h2 h3 h4 h5 => pt_chain h1 h2 h3 h4 h5)))))) (s_one (s_ret s_bl)) s_end)
      (s_seq (s_if (s_not (s_tval (s_cb (cr_all rfl) o_all rfl B.n_all (by decide +kernel) (s_cons (s_lc (own := [("one", 2)]) rfl sc.nd (s_it (sv 1)) (blkOk_by (own := [("one", 2)]) (N := N_are_rows) (sc := defScope z_are_rows) (by decide +kernel)) (fun _ _ _ _ _ => (s_gn (i := 2) sc.nd rfl (Or.inl rfl))) (fun _ _ _ _ _ => s_ts0) (fun _ _ _ _ _ => (sCl C_is_row hG hr (by decide) rfl takes_noX (s_cons (sv 0) (s_cons (sv 2) s_nil))))) s_nil)))) (s_one (s_ret s_bl)) s_end)
      (s_one (s_ret (s_cmp (o_eq hU) p_eq (s_lenS rfl B.n_len (s_scO (own := [("place", 3), ("data", 4)]) rfl sc.nd (s_it (sv 1)) (blkOk_by (own := [("place", 3), ("data", 4)]) (N := N_are_rows) (sc := defScope z_are_rows) (by decide +kernel)) (fun _ _ _ _ _ => (s_gt rfl (s_gcons (s_gn (i := 3) sc.nd rfl (Or.inl rfl)) (s_gcons (s_gn (i := 4) sc.nd rfl (Or.inl rfl)) s_gnil)))) (fun _ _ _ _ _ => s_ts0) (fun _ _ _ _ _ => (sv 3)))) (s_cbP c_len o_len rfl B.n_len (by decide +kernel) (q_cons (qv 1) q_nil)) (nomark _))))))
theorem ok_is_order_of (F : FunD K "is_order_of" "is_order_of" (defArgs z_is_order_of) (defBody z_is_order_of) (defScope z_is_order_of) [] [] f fd) (B : Bs K mg) (C_are_rows : CalN P w K mg base (TT K) 4 "are_rows" ["plan", "thing"] [] m_are_rows) (C_is_row : CalN P w K mg base (TT K) 3 "is_row" ["plan", "thing"] [] m_is_row) (C_is_within : CalN P w K mg base (TT K) 2 "is_within" ["thing", "least", "most"] [] m_is_within) : FnN P w K mg base 5 f fd ["plan", "thing"] (spM K (TT K) 2 m_is_order_of) := by
  have sc := sc_is_order_of
  refine okM (T := TT K) F sc rfl (fun cdv A outer s H E Γ hT hG hr => ?_)
  obtain ⟨U0, H0, A0, m0, T0⟩ := Γ
  obtain rfl : T0 = TT K := hT
  have tk := takes_N (P := P) (w := w) (K := K) (mg := mg) (base := base) (N := N_is_order_of) (qual := "is_order_of") (scope := defScope z_is_order_of) (f := f) (cd := cdv) (A := A) (outer := outer) (s := s) (H := H) (E := E)
  have pO := own_N (P := P) (w := w) (K := K) (mg := mg) (base := base) (N := N_is_order_of) (qual := "is_order_of") (scope := defScope z_is_order_of) (f := f) (cd := cdv) (A := A) (outer := outer) (s := s) (H := H) (E := E)
  have hU := hr.units
  have hU65 := units65 hr
  have hU1 : (A.deeper (envOfC "is_order_of" (defScope z_is_order_of) s.heap.objs.size f cdv)).units + 1 < cLine := by have := hr.un; omega
  exact (s_seq (s_if (PW.pt (s_or (s_not (s_tval (s_isi (n := "tuple") (by decide) rfl B.n_isinstance rfl B.n_tuple (by decide +kernel) (sv 1)))) (s_or (s_tcmp (o_eqS hU) p_eqS (sv 1) (s_tup s_nil) (nomark _)) (s_or1 (s_not (s_tval (s_isi (n := "str") (by decide) rfl B.n_isinstance rfl B.n_str (by decide +kernel) (s_ofP (q_ix hU1 (qv 1) q_int))))))))) (s_one (s_ret s_bl)) s_end)
      (s_seq (s_asgG (sv 1) (s_gstar (i := 2) (j := 3) rfl sc.nd rfl rfl (Or.inl rfl) (Or.inl rfl)))
      (s_seq (s_if (s_tcmpP (o_eq hU) p_eq (qv 2) q_str (nomark _)) (s_one (s_ret (s_cmp (o_eqS hU) p_eqS (sv 3) (s_lst s_nil) (nomark _)))) s_end)
      (s_seq (s_if (s_tcmpP (o_eq hU) p_eq (qv 2) q_str (nomark _)) (s_one (s_ret (sCl C_is_row hG hr (by decide) rfl tk (s_cons (sv 0) (s_cons (s_sl (sv 1) (s_po1 s_int) s_po0) s_nil))))) s_end)
      (s_seq (s_if (s_tcmp (o_ne hU) p_ne (s_cbP c_len o_len rfl B.n_len (by decide +kernel) (q_cons (qv 3) q_nil)) s_int (nomark _)) (s_one (s_ret s_bl)) s_end)
      (s_seq (s_if (s_tcmpP (o_eq hU) p_eq (qv 2) q_str (nomark _)) (s_one (s_ret (sCl C_are_rows hG hr (by decide) rfl tk (s_cons (sv 0) (s_cons (s_ofP (q_ix hU1 (qv 3) q_int)) s_nil))))) s_end)
      (s_one (s_ret (s_vand (s_cmp (oo_in hU65) p_in (sv 2) (s_tup (s_cons s_str (s_cons s_str s_nil))) (by rfl)) (s_vone (sCl C_is_within hG hr (by decide) rfl tk (s_cons (s_ofP (q_ix hU1 (qv 3) q_int)) (s_cons s_int (s_cons (s_op o_subB p_sub (s_ofP (q_ix hU1 (qv 0) q_int)) s_int) s_nil))))))))))))))
theorem ok_is_order (F : FunD K "is_order" "is_order" (defArgs z_is_order) (defBody z_is_order) (defScope z_is_order) [] [] f fd) (B : Bs K mg) (C_is_order_of : CalN P w K mg base (TT K) 5 "is_order_of" ["plan", "thing"] [] m_is_order_of) (C_need_plan : CalN P w K mg base (TT K) 4 "need_plan" ["thing"] [] m_need_plan) : FnN P w K mg base 6 f fd ["plan", "thing"] (spM K (TT K) 2 m_is_order) := by
  have sc := sc_is_order
  refine okM (T := TT K) F sc rfl (fun cdv A outer s H E Γ hT hG hr => ?_)
  obtain ⟨U0, H0, A0, m0, T0⟩ := Γ
  obtain rfl : T0 = TT K := hT
  have tk := takes_N (P := P) (w := w) (K := K) (mg := mg) (base := base) (N := N_is_order) (qual := "is_order") (scope := defScope z_is_order) (f := f) (cd := cdv) (A := A) (outer := outer) (s := s) (H := H) (E := E)
  have pO := own_N (P := P) (w := w) (K := K) (mg := mg) (base := base) (N := N_is_order) (qual := "is_order") (scope := defScope z_is_order) (f := f) (cd := cdv) (A := A) (outer := outer) (s := s) (H := H) (E := E)
  have hU := hr.units
  have hU65 := units65 hr
  have hU1 : (A.deeper (envOfC "is_order" (defScope z_is_order) s.heap.objs.size f cdv)).units + 1 < cLine := by have := hr.un; omega
  exact (s_seq (s_exp (sCl C_need_plan hG hr (by decide) rfl tk (s_cons (sv 0) s_nil)))
      (s_one (s_ret (sCl C_is_order_of hG hr (by decide) rfl tk (s_cons (sv 0) (s_cons (sv 1) s_nil))))))
theorem ok__law_cell_at (F : FunD K "_law_cell_at" "_law_cell_at" (defArgs z__law_cell_at) (defBody z__law_cell_at) (defScope z__law_cell_at) [] [] f fd) (B : Bs K mg) : FnN P w K mg base 1 f fd ["_law_script", "_law_k"] (spM K (TT K) 2 m__law_cell_at) := by
  have sc := sc__law_cell_at
  refine okM (T := TT K) F sc rfl (fun cdv A outer s H E Γ hT hG hr => ?_)
  obtain ⟨U0, H0, A0, m0, T0⟩ := Γ
  obtain rfl : T0 = TT K := hT
  have tk := takes_N (P := P) (w := w) (K := K) (mg := mg) (base := base) (N := N__law_cell_at) (qual := "_law_cell_at") (scope := defScope z__law_cell_at) (f := f) (cd := cdv) (A := A) (outer := outer) (s := s) (H := H) (E := E)
  have pO := own_N (P := P) (w := w) (K := K) (mg := mg) (base := base) (N := N__law_cell_at) (qual := "_law_cell_at") (scope := defScope z__law_cell_at) (f := f) (cd := cdv) (A := A) (outer := outer) (s := s) (H := H) (E := E)
  have hU := hr.units
  have hU65 := units65 hr
  have hU1 : (A.deeper (envOfC "_law_cell_at" (defScope z__law_cell_at) s.heap.objs.size f cdv)).units + 1 < cLine := by have := hr.un; omega
  exact (s_seq (s_if (s_tcmp o_lt p_lt (sv 1) (s_cbP c_len o_len rfl B.n_len (by decide +kernel) (q_cons (qv 0) q_nil)) (nomark _)) (s_one (s_ret (s_ofP (q_ix hU1 (qv 0) (qv 1))))) s_end)
      (s_one (s_ret s_int)))
theorem ok__law_state (F : FunD K "_law_state" "_law_state" (defArgs z__law_state) (defBody z__law_state) (defScope z__law_state) [] [] f fd) (B : Bs K mg) (C__law_cell_at : CalN P w K mg base (TT K) 1 "_law_cell_at" ["_law_script", "_law_k"] [] m__law_cell_at) : FnN P w K mg base 2 f fd ["_law_script", "_law_k"] (spM K (TT K) 2 m__law_state) := by
  have sc := sc__law_state
  refine okM (T := TT K) F sc rfl (fun cdv A outer s H E Γ hT hG hr => ?_)
  obtain ⟨U0, H0, A0, m0, T0⟩ := Γ
  obtain rfl : T0 = TT K := hT
  have tk := takes_N (P := P) (w := w) (K := K) (mg := mg) (base := base) (N := N__law_state) (qual := "_law_state") (scope := defScope z__law_state) (f := f) (cd := cdv) (A := A) (outer := outer) (s := s) (H := H) (E := E)
  have pO := own_N (P := P) (w := w) (K := K) (mg := mg) (base := base) (N := N__law_state) (qual := "_law_state") (scope := defScope z__law_state) (f := f) (cd := cdv) (A := A) (outer := outer) (s := s) (H := H) (E := E)
  have hU := hr.units
  have hU65 := units65 hr
  have hU1 : (A.deeper (envOfC "_law_state" (defScope z__law_state) s.heap.objs.size f cdv)).units + 1 < cLine := by have := hr.un; omega
  exact (s_seq (s_asg (i := 2) sc.nd rfl (Or.inl rfl) (sCl C__law_cell_at hG hr (by decide) rfl tk (s_cons (sv 0) (s_cons (sv 1) s_nil))))
      (s_one (s_ret (s_prom (s_lstO (s_cons (s_cb (call_max2 rfl) o_max2 rfl B.n_max (by decide +kernel) (s_cons s_int (s_cons (s_op o_subB p_sub (sv 2) (s_op o_pow p_pow s_int s_int)) s_nil))) (s_cons (s_op o_addB p_add (s_op o_mod p_mod (sv 2) s_int) s_int) (s_cons s_int s_nil))))))))
theorem ok__law_choice (F : FunD K "_law_choice" "_law_choice" (defArgs z__law_choice) (defBody z__law_choice) (defScope z__law_choice) [] [] f fd) (B : Bs K mg) : FnN P w K mg base 1 f fd ["_law_state_here", "_law_many"] (spM K (TT K) 2 m__law_choice) := by
  have sc := sc__law_choice
  refine okM (T := TT K) F sc rfl (fun cdv A outer s H E Γ hT hG hr => ?_)
  obtain ⟨U0, H0, A0, m0, T0⟩ := Γ
  obtain rfl : T0 = TT K := hT
  have tk := takes_N (P := P) (w := w) (K := K) (mg := mg) (base := base) (N := N__law_choice) (qual := "_law_choice") (scope := defScope z__law_choice) (f := f) (cd := cdv) (A := A) (outer := outer) (s := s) (H := H) (E := E)
  have pO := own_N (P := P) (w := w) (K := K) (mg := mg) (base := base) (N := N__law_choice) (qual := "_law_choice") (scope := defScope z__law_choice) (f := f) (cd := cdv) (A := A) (outer := outer) (s := s) (H := H) (E := E)
  have hU := hr.units
  have hU65 := units65 hr
  have hU1 : (A.deeper (envOfC "_law_choice" (defScope z__law_choice) s.heap.objs.size f cdv)).units + 1 < cLine := by have := hr.un; omega
  exact (s_seq (s_if (s_tcmpP o_gt p_gt (q_ix hU1 (qv 0) q_int) q_int (nomark _)) (s_seq (s_asg (i := 2) sc.nd rfl (Or.inl rfl) (s_op o_mod p_mod (s_ofP (q_ix hU1 (qv 0) q_int)) (sv 1)))
      (s_seq (sStI hU1 (s_b0 (qv 0)) q_int (s_op o_fdv p_fdv (s_ofP (q_ix hU1 (qv 0) q_int)) (sv 1)))
      (s_one (s_ret (sv 2))))) s_end)
      (s_seq (sStI hU1 (s_b0 (qv 0)) q_int (s_op o_addB p_add (s_ofP (q_ix hU1 (qv 0) q_int)) s_int))
      (s_seq (sStI hU1 (s_b0 (qv 0)) q_int (s_op o_mod p_mod (s_op o_addB p_add (s_op o_addB p_add (s_op o_mul2 p_mul (s_ofP (q_ix hU1 (qv 0) q_int)) s_int) s_int) (s_ofP (q_ix hU1 (qv 0) q_int))) s_int))
      (s_seq (s_asg (i := 3) sc.nd rfl (Or.inl rfl) (s_op o_mod p_mod (s_op o_addB p_add (s_op o_addB p_add (s_op o_mul2 p_mul (s_ofP (q_ix hU1 (qv 0) q_int)) (s_ofP (q_ix hU1 (qv 0) q_int))) (s_op o_mul2 p_mul s_int (s_ofP (q_ix hU1 (qv 0) q_int)))) s_int) s_int))
      (s_seq (s_asg (i := 3) sc.nd rfl (Or.inl rfl) (s_op o_mod p_mod (s_op o_addB p_add (s_op o_mul2 p_mul (sv 3) (sv 3)) (s_op o_mul2 p_mul s_int (sv 3))) s_int))
      (s_one (s_ret (s_op o_mod p_mod (s_op o_fdv p_fdv (sv 3) s_int) (sv 1)))))))))
theorem ok__law_same (F : FunD K "_law_same" "_law_same" (defArgs z__law_same) (defBody z__law_same) (defScope z__law_same) [] [] f fd) (B : Bs K mg) : FnN P w K mg base 1 f fd ["_law_found", "_law_ought"] (spM K (TT K) 2 m__law_same) := by
  have sc := sc__law_same
  refine okM (T := TT K) F sc rfl (fun cdv A outer s H E Γ hT hG hr => ?_)
  obtain ⟨U0, H0, A0, m0, T0⟩ := Γ
  obtain rfl : T0 = TT K := hT
  have tk := takes_N (P := P) (w := w) (K := K) (mg := mg) (base := base) (N := N__law_same) (qual := "_law_same") (scope := defScope z__law_same) (f := f) (cd := cdv) (A := A) (outer := outer) (s := s) (H := H) (E := E)
  have pO := own_N (P := P) (w := w) (K := K) (mg := mg) (base := base) (N := N__law_same) (qual := "_law_same") (scope := defScope z__law_same) (f := f) (cd := cdv) (A := A) (outer := outer) (s := s) (H := H) (E := E)
  have hU := hr.units
  have hU65 := units65 hr
  have hU1 : (A.deeper (envOfC "_law_same" (defScope z__law_same) s.heap.objs.size f cdv)).units + 1 < cLine := by have := hr.un; omega
  exact (s_one (s_ret (s_cmp (o_eq hU) p_eq (s_cbP (call_reprX hG hU B.sm) o_repX rfl B.n_repr (by decide +kernel) (q_cons (qv 0) q_nil)) (s_cbP (call_reprX hG hU B.sm) o_repX rfl B.n_repr (by decide +kernel) (q_cons (qv 1) q_nil)) (nomark _))))
theorem ok__law_plan (F : FunD K "_law_plan" "_law_plan" (defArgs z__law_plan) (defBody z__law_plan) (defScope z__law_plan) [] [] f fd) (B : Bs K mg) (C__law_choice : CalN P w K mg base (TT K) 1 "_law_choice" ["_law_state_here", "_law_many"] [] m__law_choice) : FnN P w K mg base 2 f fd ["_law_state_here", "_law_sealed", "_law_commits"] (spM K (TT K) 3 m__law_plan) := by
  have sc := sc__law_plan
  refine okM (T := TT K) F sc rfl (fun cdv A outer s H E Γ hT hG hr => ?_)
  obtain ⟨U0, H0, A0, m0, T0⟩ := Γ
  obtain rfl : T0 = TT K := hT
  have tk := takes_N (P := P) (w := w) (K := K) (mg := mg) (base := base) (N := N__law_plan) (qual := "_law_plan") (scope := defScope z__law_plan) (f := f) (cd := cdv) (A := A) (outer := outer) (s := s) (H := H) (E := E)
  have pO := own_N (P := P) (w := w) (K := K) (mg := mg) (base := base) (N := N__law_plan) (qual := "_law_plan") (scope := defScope z__law_plan) (f := f) (cd := cdv) (A := A) (outer := outer) (s := s) (H := H) (E := E)
  have hU := hr.units
  have hU65 := units65 hr
  have hU1 : (A.deeper (envOfC "_law_plan" (defScope z__law_plan) s.heap.objs.size f cdv)).units + 1 < cLine := by have := hr.un; omega
  exact (s_seq (s_asg (i := 3) sc.nd rfl (Or.inl rfl) (s_op o_addB p_add s_int (sCl C__law_choice hG hr (by decide) rfl tk (s_cons (sv 0) (s_cons s_int s_nil)))))
      (s_seq (s_asg (i := 4) sc.nd rfl (Or.inl rfl) (s_ix hU1 (s_lst (s_cons s_int (s_cons s_int (s_cons s_int (s_cons s_int s_nil))))) (s_op o_subB p_sub (sv 3) s_int)))
      (s_seq (s_asg (i := 5) sc.nd rfl (Or.inl rfl) (s_cb (call_min2 rfl) o_min2 rfl B.n_min (by decide +kernel) (s_cons s_int (s_cons (s_op o_addB p_add (sv 4) (sCl C__law_choice hG hr (by decide) rfl tk (s_cons (sv 0) (s_cons s_int s_nil)))) s_nil))))
      (s_seq (s_asg (i := 6) sc.nd rfl (Or.inl rfl) (s_op o_addB p_add s_int (sCl C__law_choice hG hr (by decide) rfl tk (s_cons (sv 0) (s_cons (s_cb (call_min2 rfl) o_min2 rfl B.n_min (by decide +kernel) (s_cons s_int (s_cons (s_op o_subB p_sub (s_op o_mul2 p_mul (s_op o_subB p_sub (sv 3) s_int) (sv 5)) s_int) s_nil))) s_nil)))))
      (s_one (s_ret (s_tup (s_cons (sv 3) (s_cons (sv 5) (s_cons (sv 6) (s_cons (sv 1) (s_cons (sv 2) s_nil))))))))))))
theorem ok__law_rows (F : FunD K "_law_rows" "_law_rows" (defArgs z__law_rows) (defBody z__law_rows) (defScope z__law_rows) [] [] f fd) (B : Bs K mg) (C__law_choice : CalN P w K mg base (TT K) 1 "_law_choice" ["_law_state_here", "_law_many"] [] m__law_choice) : FnN P w K mg base 2 f fd ["_law_state_here", "_law_shape"] (spM K (TT K) 2 m__law_rows) := by
  have sc := sc__law_rows
  refine okM (T := TT K) F sc rfl (fun cdv A outer s H E Γ hT hG hr => ?_)
  obtain ⟨U0, H0, A0, m0, T0⟩ := Γ
  obtain rfl : T0 = TT K := hT
  have tk := takes_N (P := P) (w := w) (K := K) (mg := mg) (base := base) (N := N__law_rows) (qual := "_law_rows") (scope := defScope z__law_rows) (f := f) (cd := cdv) (A := A) (outer := outer) (s := s) (H := H) (E := E)
  have pO := own_N (P := P) (w := w) (K := K) (mg := mg) (base := base) (N := N__law_rows) (qual := "_law_rows") (scope := defScope z__law_rows) (f := f) (cd := cdv) (A := A) (outer := outer) (s := s) (H := H) (E := E)
  have hU := hr.units
  have hU65 := units65 hr
  have hU1 : (A.deeper (envOfC "_law_rows" (defScope z__law_rows) s.heap.objs.size f cdv)).units + 1 < cLine := by have := hr.un; omega
  exact (s_seq (s_par (i := 2) (j := 3) rfl sc.nd rfl rfl (by decide) rfl rfl (s_xO (s_lrgO rfl rfl B.n_list rfl B.n_range (s_ofP (q_ix hU1 (qv 1) q_int)))) (s_xO (s_lstO s_nil)) rfl)
      (s_seq (s_for pO rfl (s_rng1 rfl B.n_range (s_cons (s_cb (call_min2 rfl) o_min2 rfl B.n_min (by decide +kernel) (s_cons (s_cbP c_len o_len rfl B.n_len (by decide +kernel) (q_cons (qv 2) q_nil)) (s_cons (s_op o_addB p_add s_int (sCl C__law_choice hG hr (by decide) rfl tk (s_cons (sv 0) (s_cons s_int s_nil)))) s_nil))) s_nil)) (s_gn (i := 4) sc.nd rfl (Or.inl rfl)) (s_one (s_exp (s_app (i := 3) rfl (by first | exact Or.inl rfl | exact Or.inr (Or.inl rfl) | exact Or.inr (Or.inr rfl)) (s_tup (s_cons (s_pop (i := 2) rfl (by first | exact Or.inl rfl | exact Or.inr (Or.inl rfl) | exact Or.inr (Or.inr rfl)) (sCl C__law_choice hG hr (by decide) rfl tk (s_cons (sv 0) (s_cons (s_cbP c_len o_len rfl B.n_len (by decide +kernel) (q_cons (qv 2) q_nil)) s_nil))) (fun hM ho ha => pe_bm PySem.F.plainAttrs_list PySem.F.slot_list_pop PySem.F.type_list_pop hM ho ha)) (s_cons (sCl C__law_choice hG hr (by decide) rfl tk (s_cons (sv 0) (s_cons s_int s_nil))) s_nil))) (fun hM ho ha => pe_bm PySem.F.plainAttrs_list PySem.F.slot_list_append PySem.F.type_list_append hM ho ha)))))
      (s_one (s_ret (s_ctP call_tuple_of o_tuple rfl B.n_tuple (by decide +kernel) (q_cons (qv 3) q_nil))))))
theorem ok__law_order (F : FunD K "_law_order" "_law_order" (defArgs z__law_order) (defBody z__law_order) (defScope z__law_order) [] [] f fd) (B : Bs K mg) (C__law_choice : CalN P w K mg base (TT K) 1 "_law_choice" ["_law_state_here", "_law_many"] [] m__law_choice) (C__law_rows : CalN P w K mg base (TT K) 2 "_law_rows" ["_law_state_here", "_law_shape"] [] m__law_rows) : FnN P w K mg base 3 f fd ["_law_state_here", "_law_shape"] (spM K (TT K) 2 m__law_order) := by
  have sc := sc__law_order
  refine okM (T := TT K) F sc rfl (fun cdv A outer s H E Γ hT hG hr => ?_)
  obtain ⟨U0, H0, A0, m0, T0⟩ := Γ
  obtain rfl : T0 = TT K := hT
  have tk := takes_N (P := P) (w := w) (K := K) (mg := mg) (base := base) (N := N__law_order) (qual := "_law_order") (scope := defScope z__law_order) (f := f) (cd := cdv) (A := A) (outer := outer) (s := s) (H := H) (E := E)
  have pO := own_N (P := P) (w := w) (K := K) (mg := mg) (base := base) (N := N__law_order) (qual := "_law_order") (scope := defScope z__law_order) (f := f) (cd := cdv) (A := A) (outer := outer) (s := s) (H := H) (E := E)
  have hU := hr.units
  have hU65 := units65 hr
  have hU1 : (A.deeper (envOfC "_law_order" (defScope z__law_order) s.heap.objs.size f cdv)).units + 1 < cLine := by have := hr.un; omega
  exact (s_seq (s_par (i := 2) (j := 3) rfl sc.nd rfl rfl (by decide) rfl rfl (s_xI (sCl C__law_choice hG hr (by decide) rfl tk (s_cons (sv 0) (s_cons s_int s_nil)))) (s_xI (sCl C__law_choice hG hr (by decide) rfl tk (s_cons (sv 0) (s_cons (s_ofP (q_ix hU1 (qv 1) q_int)) s_nil)))) rfl)
      (s_seq (s_if (s_tcmpP o_lt p_lt (qv 2) q_int (nomark _)) (s_one (s_ret (s_tup (s_cons s_str (s_cons (sv 3) (s_cons (sCl C__law_choice hG hr (by decide) rfl tk (s_cons (sv 0) (s_cons s_int s_nil))) s_nil)))))) s_end)
      (s_seq (s_if (s_tcmpP o_lt p_lt (qv 2) q_int (nomark _)) (s_one (s_ret (s_tup (s_cons s_str (s_cons (sCl C__law_rows hG hr (by decide) rfl tk (s_cons (sv 0) (s_cons (sv 1) s_nil))) s_nil))))) s_end)
      (s_seq (s_if (s_tcmpP o_lt p_lt (qv 2) q_int (nomark _)) (s_one (s_ret (s_tup (s_cons s_str (s_cons (sv 3) s_nil))))) s_end)
      (s_one (s_ret (s_ife (s_tcmpP (o_eq hU) p_eq (qv 2) q_int (nomark _)) (s_tup (s_cons s_str (s_cons (sv 3) s_nil))) (s_tup (s_cons s_str s_nil)))))))))
theorem ok__law_in (F : FunD K "_law_in" "_law_in" (defArgs z__law_in) (defBody z__law_in) (defScope z__law_in) [] [] f fd) (B : Bs K mg) : FnN P w K mg base 1 f fd ["_law_thing", "_law_least", "_law_top"] (spM K (TT K) 3 m__law_in) := by
  have sc := sc__law_in
  refine okM (T := TT K) F sc rfl (fun cdv A outer s H E Γ hT hG hr => ?_)
  obtain ⟨U0, H0, A0, m0, T0⟩ := Γ
  obtain rfl : T0 = TT K := hT
  have tk := takes_N (P := P) (w := w) (K := K) (mg := mg) (base := base) (N := N__law_in) (qual := "_law_in") (scope := defScope z__law_in) (f := f) (cd := cdv) (A := A) (outer := outer) (s := s) (H := H) (E := E)
  have pO := own_N (P := P) (w := w) (K := K) (mg := mg) (base := base) (N := N__law_in) (qual := "_law_in") (scope := defScope z__law_in) (f := f) (cd := cdv) (A := A) (outer := outer) (s := s) (H := H) (E := E)
  have hU := hr.units
  have hU65 := units65 hr
  have hU1 : (A.deeper (envOfC "_law_in" (defScope z__law_in) s.heap.objs.size f cdv)).units + 1 < cLine := by have := hr.un; omega
  exact (s_one (s_ret (s_vand (s_isi (n := "int") (by decide) rfl B.n_isinstance rfl B.n_int (by decide +kernel) (sv 0)) (s_vand (s_vnot (s_isi (n := "bool") (by decide) rfl B.n_isinstance rfl B.n_bool (by decide +kernel) (sv 0))) (s_vone (s_chn o_le o_le p_le p_le (sv 1) (sv 0) (sv 2) (fun h1 h2 h3 h4 h5 => pe_chain h1 h2 h3 h4 h5)))))))
theorem ok__law_is_row (F : FunD K "_law_is_row" "_law_is_row" (defArgs z__law_is_row) (defBody z__law_is_row) (defScope z__law_is_row) [] [] f fd) (B : Bs K mg) (C__law_in : CalN P w K mg base (TT K) 1 "_law_in" ["_law_thing", "_law_least", "_law_top"] [] m__law_in) : FnN P w K mg base 2 f fd ["_law_shape", "_law_thing"] (spM K (TT K) 2 m__law_is_row) := by
  have sc := sc__law_is_row
  refine okM (T := TT K) F sc rfl (fun cdv A outer s H E Γ hT hG hr => ?_)
  obtain ⟨U0, H0, A0, m0, T0⟩ := Γ
  obtain rfl : T0 = TT K := hT
  have tk := takes_N (P := P) (w := w) (K := K) (mg := mg) (base := base) (N := N__law_is_row) (qual := "_law_is_row") (scope := defScope z__law_is_row) (f := f) (cd := cdv) (A := A) (outer := outer) (s := s) (H := H) (E := E)
  have pO := own_N (P := P) (w := w) (K := K) (mg := mg) (base := base) (N := N__law_is_row) (qual := "_law_is_row") (scope := defScope z__law_is_row) (f := f) (cd := cdv) (A := A) (outer := outer) (s := s) (H := H) (E := E)
  have hU := hr.units
  have hU65 := units65 hr
  have hU1 : (A.deeper (envOfC "_law_is_row" (defScope z__law_is_row) s.heap.objs.size f cdv)).units + 1 < cLine := by have := hr.un; omega
  exact (s_seq (s_if (PW.pt (s_or (s_not (s_tval (s_isi (n := "tuple") (by decide) rfl B.n_isinstance rfl B.n_tuple (by decide +kernel) (sv 1)))) (s_or1 (s_tcmp (o_ne hU) p_ne (s_cbP c_len o_len rfl B.n_len (by decide +kernel) (q_cons (qv 1) q_nil)) s_int (nomark _))))) (s_one (s_ret s_bl)) s_end)
      (s_one (s_ret (s_vand (sCl C__law_in hG hr (by decide) rfl tk (s_cons (s_ofP (q_ix hU1 (qv 1) q_int)) (s_cons s_int (s_cons (s_op o_subB p_sub (s_ofP (q_ix hU1 (qv 0) q_int)) s_int) s_nil)))) (s_vone (sCl C__law_in hG hr (by decide) rfl tk (s_cons (s_ofP (q_ix hU1 (qv 1) q_int)) (s_cons s_int (s_cons s_int s_nil)))))))))
theorem ok__law_is_order (F : FunD K "_law_is_order" "_law_is_order" (defArgs z__law_is_order) (defBody z__law_is_order) (defScope z__law_is_order) [] [] f fd) (B : Bs K mg) (C__law_in : CalN P w K mg base (TT K) 1 "_law_in" ["_law_thing", "_law_least", "_law_top"] [] m__law_in) (C__law_is_row : CalN P w K mg base (TT K) 2 "_law_is_row" ["_law_shape", "_law_thing"] [] m__law_is_row) : FnN P w K mg base 3 f fd ["_law_shape", "_law_thing"] (spM K (TT K) 2 m__law_is_order) := by
  have sc := sc__law_is_order
  refine okM (T := TT K) F sc rfl (fun cdv A outer s H E Γ hT hG hr => ?_)
  obtain ⟨U0, H0, A0, m0, T0⟩ := Γ
  obtain rfl : T0 = TT K := hT
  have tk := takes_N (P := P) (w := w) (K := K) (mg := mg) (base := base) (N := N__law_is_order) (qual := "_law_is_order") (scope := defScope z__law_is_order) (f := f) (cd := cdv) (A := A) (outer := outer) (s := s) (H := H) (E := E)
  have pO := own_N (P := P) (w := w) (K := K) (mg := mg) (base := base) (N := N__law_is_order) (qual := "_law_is_order") (scope := defScope z__law_is_order) (f := f) (cd := cdv) (A := A) (outer := outer) (s := s) (H := H) (E := E)
  have hU := hr.units
  have hU65 := units65 hr
  have hU1 : (A.deeper (envOfC "_law_is_order" (defScope z__law_is_order) s.heap.objs.size f cdv)).units + 1 < cLine := by have := hr.un; omega
  exact (s_seq (s_if (PW.pt (s_or (s_not (s_tval (s_isi (n := "tuple") (by decide) rfl B.n_isinstance rfl B.n_tuple (by decide +kernel) (sv 1)))) (s_or (s_tcmp (o_eqS hU) p_eqS (sv 1) (s_tup s_nil) (nomark _)) (s_or1 (s_not (s_tval (s_isi (n := "str") (by decide) rfl B.n_isinstance rfl B.n_str (by decide +kernel) (s_ofP (q_ix hU1 (qv 1) q_int))))))))) (s_one (s_ret s_bl)) s_end)
      (s_seq (s_if (s_tcmpP (o_eq hU) p_eq (q_ix hU1 (qv 1) q_int) q_str (nomark _)) (s_one (s_ret (sCl C__law_is_row hG hr (by decide) rfl tk (s_cons (sv 0) (s_cons (s_sl (sv 1) (s_po1 s_int) s_po0) s_nil))))) s_end)
      (s_seq (s_if (s_tcmp (oo_in hU65) p_in (s_ofP (q_ix hU1 (qv 1) q_int)) (s_lst (s_cons s_str (s_cons s_str s_nil))) (by rfl)) (s_one (s_ret (s_vand (s_cmp (o_eq hU) p_eq (s_cbP c_len o_len rfl B.n_len (by decide +kernel) (q_cons (qv 1) q_nil)) s_int (nomark _)) (s_vone (sCl C__law_in hG hr (by decide) rfl tk (s_cons (s_ofP (q_ix hU1 (qv 1) q_int)) (s_cons s_int (s_cons (s_op o_subB p_sub (s_ofP (q_ix hU1 (qv 0) q_int)) s_int) s_nil)))))))) s_end)
      (s_seq (s_if (PW.pt (s_or (s_tcmpP (o_ne hU) p_ne (q_ix hU1 (qv 1) q_int) q_str (nomark _)) (s_or1 (s_tcmp (o_ne hU) p_ne (s_cbP c_len o_len rfl B.n_len (by decide +kernel) (q_cons (qv 1) q_nil)) s_int (nomark _))))) (s_one (s_ret (s_cmp (o_eqS hU) p_eqS (sv 1) (s_tup (s_cons s_str s_nil)) (nomark _)))) s_end)
      (s_seq (s_asg (i := 2) sc.nd rfl (Or.inr rfl) (s_ofP (q_ix hU1 (qv 1) q_int)))
      (s_seq (s_if (PW.pt (s_or (s_not (s_tval (s_isi (n := "tuple") (by decide) rfl B.n_isinstance rfl B.n_tuple (by decide +kernel) (sv 2)))) (s_or1 (s_not (s_tchn o_lt o_lt p_lt p_lt s_int (s_cbP c_len o_len rfl B.n_len (by decide +kernel) (q_cons (qv 2) q_nil)) s_int (fun h1 h2 h3 h4 h5 => pt_chain h1 h2 h3 h4 h5)))))) (s_one (s_ret s_bl)) s_end)
      (s_seq (s_if (s_tcmp (o_neS hU) p_neS (s_lc (own := [("_law_row", 3)]) rfl sc.nd (s_it (sv 2)) (blkOk_by (own := [("_law_row", 3)]) (N := N__law_is_order) (sc := defScope z__law_is_order) (by decide +kernel)) (fun _ _ _ _ _ => (s_gn (i := 3) sc.nd rfl (Or.inl rfl))) (fun _ _ _ _ _ => (s_ts1 (s_not (s_tval (sCl C__law_is_row hG hr (by decide) rfl takes_noX (s_cons (sv 0) (s_cons (sv 3) s_nil))))))) (fun _ _ _ _ _ => (sv 3))) (s_lst s_nil) (nomark _)) (s_one (s_ret s_bl)) s_end)
      (s_one (s_ret (s_cmp (o_eqS hU) p_eqS (s_lc (own := [("_law_at", 4), ("_law_row", 3)]) rfl sc.nd (s_enum rfl B.n_enumerate (s_cons (sv 2) s_nil)) (blkOk_by (own := [("_law_at", 4), ("_law_row", 3)]) (N := N__law_is_order) (sc := defScope z__law_is_order) (by decide +kernel)) (fun _ _ _ _ _ => (s_gt rfl (s_gcons (s_gn (i := 4) sc.nd rfl (Or.inl rfl)) (s_gcons (s_gn (i := 3) sc.nd rfl (Or.inl rfl)) s_gnil)))) (fun _ _ _ _ _ => (s_ts1 (s_tcmp (oo_in hU65) p_in (s_ofP (q_ix hU1 (qv 3) q_int)) (s_lc (own := [("_law_one", 5)]) rfl sc.nd (s_it (s_sl (sv 2) s_po0 (s_po1 (sv 4)))) (blkOk_by (own := [("_law_one", 5)]) (by kernel_rfl)) (fun _ _ _ _ _ => (s_gn (i := 5) sc.nd rfl (Or.inl rfl))) (fun _ _ _ _ _ => s_ts0) (fun _ _ _ _ _ => (s_ofP (q_ix hU1 (qv 5) q_int)))) (by rfl)))) (fun _ _ _ _ _ => (sv 4))) (s_lst s_nil) (nomark _)))))))))))
theorem ok__law_odd (F : FunD K "_law_odd" "_law_odd" (defArgs z__law_odd) (defBody z__law_odd) (defScope z__law_odd) [] [] f fd) (B : Bs K mg) (C__law_choice : CalN P w K mg base (TT K) 1 "_law_choice" ["_law_state_here", "_law_many"] [] m__law_choice) : FnN P w K mg base 2 f fd ["_law_state_here"] (spM K (TT K) 1 m__law_odd) := by
  have sc := sc__law_odd
  refine okM (T := TT K) F sc rfl (fun cdv A outer s H E Γ hT hG hr => ?_)
  obtain ⟨U0, H0, A0, m0, T0⟩ := Γ
  obtain rfl : T0 = TT K := hT
  have tk := takes_N (P := P) (w := w) (K := K) (mg := mg) (base := base) (N := N__law_odd) (qual := "_law_odd") (scope := defScope z__law_odd) (f := f) (cd := cdv) (A := A) (outer := outer) (s := s) (H := H) (E := E)
  have pO := own_N (P := P) (w := w) (K := K) (mg := mg) (base := base) (N := N__law_odd) (qual := "_law_odd") (scope := defScope z__law_odd) (f := f) (cd := cdv) (A := A) (outer := outer) (s := s) (H := H) (E := E)
  have hU := hr.units
  have hU65 := units65 hr
  have hU1 : (A.deeper (envOfC "_law_odd" (defScope z__law_odd) s.heap.objs.size f cdv)).units + 1 < cLine := by have := hr.un; omega
  exact (s_seq (s_asg (i := 1) sc.nd rfl (Or.inl rfl) (s_lst (s_cons s_non (s_cons s_bl (s_cons s_bl (s_cons s_int (s_cons s_int (s_cons (s_neg s_int) (s_cons (s_op o_pow p_pow s_int s_int) (s_cons s_str (s_cons s_str (s_cons s_str (s_cons (s_tup s_nil) (s_cons (s_lst s_nil) (s_cons (s_frz s_dnew) (s_cons (s_tup (s_cons s_str s_nil)) (s_cons (s_tup (s_cons s_int (s_cons s_int s_nil))) (s_cons (s_lst (s_cons s_int s_nil)) (s_cons (s_tup (s_cons s_str s_nil)) s_nil)))))))))))))))))))
      (s_one (s_ret (s_ix hU1 (sv 1) (sCl C__law_choice hG hr (by decide) rfl tk (s_cons (sv 0) (s_cons s_int s_nil)))))))
theorem okR__law_bent (F : FunD K "_law_bent" "_law_bent" (defArgs z__law_bent) (defBody z__law_bent) (defScope z__law_bent) [] [] f fd) (B : Bs K mg) (gl_ : mg "_law_bent" = some (.ref f)) (bi_ : Binds K fd ["_law_state_here", "_law_thing"] []) (C__law_choice : CalN P w K mg base (TT K) 1 "_law_choice" ["_law_state_here", "_law_many"] [] m__law_choice) (C__law_odd : CalN P w K mg base (TT K) 2 "_law_odd" ["_law_state_here"] [] m__law_odd) : ∀ n_ : Nat, FnN P w K mg base (2 + n_) f fd ["_law_state_here", "_law_thing"] (spM K (TT K) 2 (mR__law_bent n_))
| 0 => ⟨fun _ _ _ _ h => h.1, fun _ _ _ _ _ _ _ _ _ _ _ _ _ _ h => by
    obtain ⟨_, _, _, _, _, _, _, _, _, _, _, z⟩ := h
    exact z.elim⟩
| n_ + 1 => by
  have C_rec : CalN P w K mg base (TT K) (2 + n_) "_law_bent" ["_law_state_here", "_law_thing"] [] (mR__law_bent n_) := ⟨⟨_, _, [], [], okR__law_bent F B gl_ bi_ C__law_choice C__law_odd n_, gl_, F.kp, bi_, .nil, fun _ _ _ => .nil⟩⟩
  show FnN P w K mg base ((2 + n_) + 1) f fd ["_law_state_here", "_law_thing"] (spM K (TT K) 2 (mR__law_bent (n_ + 1)))
  have sc := sc__law_bent
  refine okM (T := TT K) F sc rfl (fun cdv A outer s H E Γ hT hG hr => ?_)
  obtain ⟨U0, H0, A0, m0, T0⟩ := Γ
  obtain rfl : T0 = TT K := hT
  have tk := takes_N (P := P) (w := w) (K := K) (mg := mg) (base := base) (N := N__law_bent) (qual := "_law_bent") (scope := defScope z__law_bent) (f := f) (cd := cdv) (A := A) (outer := outer) (s := s) (H := H) (E := E)
  have pO := own_N (P := P) (w := w) (K := K) (mg := mg) (base := base) (N := N__law_bent) (qual := "_law_bent") (scope := defScope z__law_bent) (f := f) (cd := cdv) (A := A) (outer := outer) (s := s) (H := H) (E := E)
  have hU := hr.units
  have hU65 := units65 hr
  have hU1 : (A.deeper (envOfC "_law_bent" (defScope z__law_bent) s.heap.objs.size f cdv)).units + 1 < cLine := by have := hr.un; omega
  exact (s_seq (s_if (PW.pt (s_and (s_tval (s_isi (n := "tuple") (by decide) rfl B.n_isinstance rfl B.n_tuple (by decide +kernel) (sv 1))) (s_and (s_tcmp (o_neS hU) p_neS (sv 1) (s_tup s_nil) (nomark _)) (s_and1 (s_tcmp o_gt p_gt (sCl C__law_choice hG hr (by omega) rfl tk (s_cons (sv 0) (s_cons s_int s_nil))) s_int (nomark _)))))) (s_seq (s_asg (i := 2) sc.nd rfl (Or.inl rfl) (sCl C__law_choice hG hr (by omega) rfl tk (s_cons (sv 0) (s_cons (s_cbP c_len o_len rfl B.n_len (by decide +kernel) (q_cons (qv 1) q_nil)) s_nil))))
      (s_one (s_ret (s_op o_addB p_add (s_op o_addB p_add (s_sl (sv 1) s_po0 (s_po1 (sv 2))) (s_tup (s_cons (sCl C_rec hG hr (by omega) rfl tk (s_cons (sv 0) (s_cons (s_ofP (q_ix hU1 (qv 1) (qv 2))) s_nil))) s_nil))) (s_sl (sv 1) (s_po1 (s_op o_addB p_add (sv 2) s_int)) s_po0))))) s_end)
      (s_seq (s_asg (i := 3) sc.nd rfl (Or.inl rfl) (sCl C__law_choice hG hr (by omega) rfl tk (s_cons (sv 0) (s_cons s_int s_nil))))
      (s_seq (s_if (PW.pt (s_and (s_tval (s_isi (n := "tuple") (by decide) rfl B.n_isinstance rfl B.n_tuple (by decide +kernel) (sv 1))) (s_and1 (s_tcmpP o_lt p_lt (qv 3) q_int (nomark _))))) (s_one (s_ret (s_ix hU1 (s_lst (s_cons (s_op o_addB p_add (sv 1) (s_sl (sv 1) (s_po1 (s_neg s_int)) s_po0)) (s_cons (s_sl (sv 1) s_po0 (s_po1 (s_neg s_int))) (s_cons (s_sl (sv 1) (s_po1 s_int) s_po0) (s_cons (s_rev (sv 1)) (s_cons (s_frz (s_ctOP call_list_of o_list rfl B.n_list (by decide +kernel) (q_cons (qv 1) q_nil))) (s_cons (s_op o_addB p_add (sv 1) (s_tup (s_cons s_int s_nil))) s_nil))))))) (sv 3)))) s_end)
      (s_seq (s_if (PW.pt (s_and (s_tval (s_isi (n := "int") (by decide) rfl B.n_isinstance rfl B.n_int (by decide +kernel) (sv 1))) (s_and (s_not (s_tval (s_isi (n := "bool") (by decide) rfl B.n_isinstance rfl B.n_bool (by decide +kernel) (sv 1)))) (s_and1 (s_tcmpP o_lt p_lt (qv 3) q_int (nomark _)))))) (s_one (s_ret (s_op o_addB p_add (sv 1) (s_ix hU1 (s_lst (s_cons s_int (s_cons (s_neg s_int) (s_cons s_int (s_cons (s_neg s_int) (s_cons s_int (s_cons s_int s_nil))))))) (sv 3))))) s_end)
      (s_seq (s_if (PW.pt (s_and (s_tval (s_isi (n := "str") (by decide) rfl B.n_isinstance rfl B.n_str (by decide +kernel) (sv 1))) (s_and1 (s_tcmpP o_lt p_lt (qv 3) q_int (nomark _))))) (s_one (s_ret (s_ix hU1 (s_lst (s_cons (s_op o_addB p_add (sv 1) s_str) (s_cons (s_sl (sv 1) (s_po1 s_int) s_po0) (s_cons (s_upp (sv 1)) (s_cons s_str s_nil))))) (sv 3)))) s_end)
      (s_one (s_ret (sCl C__law_odd hG hr (by omega) rfl tk (s_cons (sv 0) s_nil)))))))))
theorem ok__law_bent (F : FunD K "_law_bent" "_law_bent" (defArgs z__law_bent) (defBody z__law_bent) (defScope z__law_bent) [] [] f fd) (B : Bs K mg) (gl_ : mg "_law_bent" = some (.ref f)) (bi_ : Binds K fd ["_law_state_here", "_law_thing"] []) (C__law_choice : CalN P w K mg base (TT K) 1 "_law_choice" ["_law_state_here", "_law_many"] [] m__law_choice) (C__law_odd : CalN P w K mg base (TT K) 2 "_law_odd" ["_law_state_here"] [] m__law_odd) : FnN P w K mg base 8 f fd ["_law_state_here", "_law_thing"] (spM K (TT K) 2 m__law_bent) := okR__law_bent F B gl_ bi_ C__law_choice C__law_odd 6
theorem ok_law (F : FunD K "law" "law" (defArgs z_law) (defBody z_law) (defScope z_law) [] [] f fd) (B : Bs K mg) (C__law_bent : CalN P w K mg base (TT K) 8 "_law_bent" ["_law_state_here", "_law_thing"] [] m__law_bent) (C__law_choice : CalN P w K mg base (TT K) 1 "_law_choice" ["_law_state_here", "_law_many"] [] m__law_choice) (C__law_is_order : CalN P w K mg base (TT K) 3 "_law_is_order" ["_law_shape", "_law_thing"] [] m__law_is_order) (C__law_odd : CalN P w K mg base (TT K) 2 "_law_odd" ["_law_state_here"] [] m__law_odd) (C__law_order : CalN P w K mg base (TT K) 3 "_law_order" ["_law_state_here", "_law_shape"] [] m__law_order) (C__law_plan : CalN P w K mg base (TT K) 2 "_law_plan" ["_law_state_here", "_law_sealed", "_law_commits"] [] m__law_plan) (C__law_same : CalN P w K mg base (TT K) 1 "_law_same" ["_law_found", "_law_ought"] [] m__law_same) (C__law_state : CalN P w K mg base (TT K) 2 "_law_state" ["_law_script", "_law_k"] [] m__law_state) (C_is_order : CalN P w K mg base (TT K) 6 "is_order" ["plan", "thing"] [] m_is_order) : FnN P w K mg base 9 f fd ["_law_script"] (spM K (TT K) 1 m_law) := by
  have sc := sc_law
  refine okM (T := TT K) F sc rfl (fun cdv A outer s H E Γ hT hG hr => ?_)
  obtain ⟨U0, H0, A0, m0, T0⟩ := Γ
  obtain rfl : T0 = TT K := hT
  have tk := takes_N (P := P) (w := w) (K := K) (mg := mg) (base := base) (N := N_law) (qual := "law") (scope := defScope z_law) (f := f) (cd := cdv) (A := A) (outer := outer) (s := s) (H := H) (E := E)
  have pO := own_N (P := P) (w := w) (K := K) (mg := mg) (base := base) (N := N_law) (qual := "law") (scope := defScope z_law) (f := f) (cd := cdv) (A := A) (outer := outer) (s := s) (H := H) (E := E)
  have hU := hr.units
  have hU65 := units65 hr
  have hU1 : (A.deeper (envOfC "law" (defScope z_law) s.heap.objs.size f cdv)).units + 1 < cLine := by have := hr.un; omega
  exact (s_seq (s_for pO rfl (s_rng1 rfl B.n_range (s_cons (s_cb (call_max2 rfl) o_max2 rfl B.n_max (by decide +kernel) (s_cons s_int (s_cons (s_cb (call_min2 rfl) o_min2 rfl B.n_min (by decide +kernel) (s_cons (s_cbP c_len o_len rfl B.n_len (by decide +kernel) (q_cons (qv 0) q_nil)) (s_cons s_int s_nil))) s_nil))) s_nil)) (s_gn (i := 1) sc.nd rfl (Or.inl rfl)) (s_seq (s_asg (i := 2) sc.nd rfl (Or.inl rfl) (sCl C__law_state hG hr (by decide) rfl tk (s_cons (sv 0) (s_cons (sv 1) s_nil))))
      (s_seq (s_asg (i := 3) sc.nd rfl (Or.inl rfl) (sCl C__law_plan hG hr (by decide) rfl tk (s_cons (sv 2) (s_cons (s_cmp (o_eq hU) p_eq (sCl C__law_choice hG hr (by decide) rfl tk (s_cons (sv 2) (s_cons s_int s_nil))) s_int (nomark _)) (s_cons (s_cmp (o_eq hU) p_eq (sCl C__law_choice hG hr (by decide) rfl tk (s_cons (sv 2) (s_cons s_int s_nil))) s_int (nomark _)) s_nil)))))
      (s_seq (s_asg (i := 4) sc.nd rfl (Or.inl rfl) (s_op o_subB p_sub (s_ofP (q_ix hU1 (qv 3) q_int)) s_int))
      (s_seq (s_asgO (i := 5) sc.nd rfl (Or.inl rfl) (s_lstO (s_cons (s_tup (s_cons s_str (s_cons (sv 4) s_nil))) (s_cons (s_tup (s_cons s_str (s_cons (s_op o_addB p_add (sv 4) s_int) s_nil))) (s_cons (s_tup (s_cons s_str (s_cons (s_neg s_int) s_nil))) (s_cons (s_tup (s_cons s_str (s_cons (sv 4) (s_cons s_int s_nil)))) (s_cons (s_tup (s_cons s_str (s_cons s_int (s_cons s_int s_nil)))) (s_cons (s_tup (s_cons s_str (s_cons s_int s_nil))) s_nil))))))))
      (s_seq (s_asgO (i := 5) sc.nd rfl (Or.inl rfl) (s_addO (sv 5) (s_lst (s_cons (s_tup (s_cons s_str (s_cons (s_tup s_nil) s_nil))) (s_cons (s_tup (s_cons s_str (s_cons (s_op o_mul2 p_mul (s_tup (s_cons (s_tup (s_cons s_int (s_cons s_int s_nil))) s_nil)) s_int) s_nil))) (s_cons (s_tup (s_cons s_str (s_cons (s_tup (s_cons (s_tup (s_cons s_int (s_cons s_int s_nil))) s_nil)) s_nil))) (s_cons (s_tup (s_cons s_str (s_cons (s_lst (s_cons (s_tup (s_cons s_int (s_cons s_int s_nil))) s_nil)) s_nil))) s_nil)))))))
      (s_seq (s_exp (s_app (i := 5) rfl (by first | exact Or.inl rfl | exact Or.inr (Or.inl rfl) | exact Or.inr (Or.inr rfl)) (s_tup (s_cons s_str s_nil)) (fun hM ho ha => pe_bm PySem.F.plainAttrs_list PySem.F.slot_list_append PySem.F.type_list_append hM ho ha)))
      (s_seq (s_for pO rfl (s_it (s_tup (s_cons s_int (s_cons s_int s_nil)))) (s_gn (i := 6) sc.nd rfl (Or.inl rfl)) (s_one (s_exp (s_app (i := 5) rfl (by first | exact Or.inl rfl | exact Or.inr (Or.inl rfl) | exact Or.inr (Or.inr rfl)) (s_tup (s_cons s_str (s_cons (s_ct call_tuple_of o_tuple rfl B.n_tuple (by decide +kernel) (s_cons (s_lc (own := [("_law_place", 12)]) rfl sc.nd (s_rng1 rfl B.n_range (s_cons (sv 6) s_nil)) (blkOk_by (own := [("_law_place", 12)]) (N := N_law) (sc := defScope z_law) (by decide +kernel)) (fun _ _ _ _ _ => (s_gn (i := 12) sc.nd rfl (Or.inl rfl))) (fun _ _ _ _ _ => s_ts0) (fun _ _ _ _ _ => (s_tup (s_cons (sv 12) (s_cons (sv 12) s_nil))))) s_nil)) s_nil))) (fun hM ho ha => pe_bm PySem.F.plainAttrs_list PySem.F.slot_list_append PySem.F.type_list_append hM ho ha)))))
      (s_seq (s_for pO rfl (s_rng1 rfl B.n_range (s_cons s_int s_nil)) (s_gn (i := 7) sc.nd rfl (Or.inl rfl)) (s_seq (s_asg (i := 8) sc.nd rfl (Or.inl rfl) (sCl C__law_order hG hr (by decide) rfl tk (s_cons (sv 2) (s_cons (sv 3) s_nil))))
      (s_seq (s_asg (i := 9) sc.nd rfl (Or.inl rfl) (sCl C__law_bent hG hr (by decide) rfl tk (s_cons (sv 2) (s_cons (sv 8) s_nil))))
      (s_one (s_asgO (i := 5) sc.nd rfl (Or.inl rfl) (s_addO (sv 5) (s_lst (s_cons (sv 8) (s_cons (sv 9) (s_cons (sCl C__law_bent hG hr (by decide) rfl tk (s_cons (sv 2) (s_cons (sv 9) s_nil))) (s_cons (s_frz (s_ctOP call_list_of o_list rfl B.n_list (by decide +kernel) (q_cons (qv 8) q_nil))) (s_cons (sCl C__law_odd hG hr (by decide) rfl tk (s_cons (sv 2) s_nil)) s_nil))))))))))))
      (s_one (s_for pO rfl (s_it (sv 5)) (s_gn (i := 10) sc.nd rfl (Or.inl rfl)) (s_seq (s_asg (i := 11) sc.nd rfl (Or.inl rfl) (s_cb (call_reprX hG hU B.sm) o_repX rfl B.n_repr (by decide +kernel) (s_cons (s_tup (s_cons (sv 3) (s_cons (sv 10) s_nil))) s_nil)))
      (s_one (s_if (PW.pt (s_or (s_not (s_tval (sCl C__law_same hG hr (by decide) rfl tk (s_cons (sCl C_is_order hG hr (by decide) rfl tk (s_cons (sv 3) (s_cons (sv 10) s_nil))) (s_cons (sCl C__law_is_order hG hr (by decide) rfl tk (s_cons (sv 3) (s_cons (sv 10) s_nil))) s_nil))))) (s_or1 (s_tcmp (o_ne hU) p_ne (s_cb (call_reprX hG hU B.sm) o_repX rfl B.n_repr (by decide +kernel) (s_cons (s_tup (s_cons (sv 3) (s_cons (sv 10) s_nil))) s_nil)) (sv 11) (nomark _))))) (s_one (s_ret s_bl)) s_end))))))))))))))
      (s_one (s_ret s_bl)))
end
/-! ### the head -/
theorem facts {P : Program} {w : World} {K : PySem.W.Frag} {h : Heap} {mg : Str → Option Value} {f : Addr} (X : K.In h) (G : h.Ns mainGlobals mg) (hfa : mg ("law" : Str) = some (.ref f)) (c : obsK fa fn ex K = (He.valD fn, true)) :
    ∃ fd : FuncData, (∀ (s : Shared) (v : Value), BindsTo s fd ⟨[v], []⟩ [("_law_script", v)]) ∧ ∀ base : Heap, K.In base → base.Ns mainGlobals mg → (∀ p ∈ mk.map (mkr K), LamX.TabB base mg p.1 p.2) → FnN P w K mg base 9 f fd ["_law_script"] (spM K (TT K) 1 m_law) := by
  have cD : He.SaysD fa fn K := congrArg (fun z : He.AlD × Bool => z.1) c
  have mo : ex K = true := congrArg (fun z : He.AlD × Bool => z.2) c
  simp only [ex, Bool.and_eq_true] at mo
  obtain ⟨m0, _⟩ := mo
  have B : Bs K mg := {
    yes := trivial
    n_all := He.free_ok X G (cD.fact 0 (f := .free "all") rfl)
    n_bool := He.free_ok X G (cD.fact 1 (f := .free "bool") rfl)
    n_enumerate := He.free_ok X G (cD.fact 2 (f := .free "enumerate") rfl)
    n_int := He.free_ok X G (cD.fact 3 (f := .free "int") rfl)
    n_isinstance := He.free_ok X G (cD.fact 4 (f := .free "isinstance") rfl)
    n_len := He.free_ok X G (cD.fact 5 (f := .free "len") rfl)
    n_list := He.free_ok X G (cD.fact 6 (f := .free "list") rfl)
    n_max := He.free_ok X G (cD.fact 7 (f := .free "max") rfl)
    n_min := He.free_ok X G (cD.fact 8 (f := .free "min") rfl)
    n_range := He.free_ok X G (cD.fact 9 (f := .free "range") rfl)
    n_repr := He.free_ok X G (cD.fact 10 (f := .free "repr") rfl)
    n_str := He.free_ok X G (cD.fact 11 (f := .free "str") rfl)
    n_tuple := He.free_ok X G (cD.fact 12 (f := .free "tuple") rfl)
    sm := m0
    c_MOST_BLOCKS := He.int_ok X G (cD.fact 13 (f := .int "MOST_BLOCKS" 8) rfl)
    c_MOST_DATA := He.int_ok X G (cD.fact 14 (f := .int "MOST_DATA" 63) rfl)
    c_MOST_PAGES := He.int_ok X G (cD.fact 15 (f := .int "MOST_PAGES" 8) rfl)
    c_MOST_PLACES := He.int_ok X G (cD.fact 16 (f := .int "MOST_PLACES" 16) rfl)
    c_MOST_ROWS := He.int_ok X G (cD.fact 17 (f := .int "MOST_ROWS" 4) rfl)
    c_SPARE := He.int_ok X G (cD.fact 18 (f := .int "SPARE" 5) rfl)
    x_NoPlan := let q := He.exc_ok (x := "NoPlan") (cD.fact 19 (f := .exc "NoPlan") rfl); ⟨He.glo_ok X G (cD.fact 20 (f := .glo "NoPlan") rfl), q.1, q.2.1, q.2.2.1, q.2.2.2⟩
  }
  obtain ⟨fd_is_whole, F_is_whole⟩ := cD.def_ 0 (d := dd_is_whole) rfl
  obtain ⟨fd_is_within, F_is_within⟩ := cD.def_ 1 (d := dd_is_within) rfl
  obtain ⟨fd_is_plan, F_is_plan⟩ := cD.def_ 2 (d := dd_is_plan) rfl
  obtain ⟨fd_need_plan, F_need_plan⟩ := cD.def_ 3 (d := dd_need_plan) rfl
  obtain ⟨fd_is_row, F_is_row⟩ := cD.def_ 4 (d := dd_is_row) rfl
  obtain ⟨fd_are_rows, F_are_rows⟩ := cD.def_ 5 (d := dd_are_rows) rfl
  obtain ⟨fd_is_order_of, F_is_order_of⟩ := cD.def_ 6 (d := dd_is_order_of) rfl
  obtain ⟨fd_is_order, F_is_order⟩ := cD.def_ 7 (d := dd_is_order) rfl
  obtain ⟨fd__law_cell_at, F__law_cell_at⟩ := cD.def_ 8 (d := dd__law_cell_at) rfl
  obtain ⟨fd__law_state, F__law_state⟩ := cD.def_ 9 (d := dd__law_state) rfl
  obtain ⟨fd__law_choice, F__law_choice⟩ := cD.def_ 10 (d := dd__law_choice) rfl
  obtain ⟨fd__law_same, F__law_same⟩ := cD.def_ 11 (d := dd__law_same) rfl
  obtain ⟨fd__law_plan, F__law_plan⟩ := cD.def_ 12 (d := dd__law_plan) rfl
  obtain ⟨fd__law_rows, F__law_rows⟩ := cD.def_ 13 (d := dd__law_rows) rfl
  obtain ⟨fd__law_order, F__law_order⟩ := cD.def_ 14 (d := dd__law_order) rfl
  obtain ⟨fd__law_in, F__law_in⟩ := cD.def_ 15 (d := dd__law_in) rfl
  obtain ⟨fd__law_is_row, F__law_is_row⟩ := cD.def_ 16 (d := dd__law_is_row) rfl
  obtain ⟨fd__law_is_order, F__law_is_order⟩ := cD.def_ 17 (d := dd__law_is_order) rfl
  obtain ⟨fd__law_odd, F__law_odd⟩ := cD.def_ 18 (d := dd__law_odd) rfl
  obtain ⟨fd__law_bent, F__law_bent⟩ := cD.def_ 19 (d := dd__law_bent) rfl
  obtain ⟨fd_law, F_law⟩ := cD.def_ 20 (d := dd_law) rfl
  have e := hfa.symm.trans (He.glo_ok X G (cD.fact 41 (f := .glo "law") rfl))
  cases e
  have b := FunD.bindsA (ps := ["_law_script"]) F_law fun _ _ _ _ _ _ us hl => match us, hl with | [_], _ => rfl
  refine ⟨fd_law, fun s v => b s [v] rfl, fun base _ _ hTB => ?_⟩
  have o_is_whole := ok_is_whole (P := P) (w := w) (base := base) F_is_whole B 
  have biC_is_whole : Binds K fd_is_whole ["thing"] [] := F_is_whole.bindsN (fun _ _ _ _ _ _ us hl => match us, hl with | [_], _ => rfl)
  have C_is_whole : CalN P w K mg base (TT K) 1 "is_whole" ["thing"] [] m_is_whole := ⟨⟨_, _, [], [], o_is_whole, He.glo_ok X G (cD.fact 21 (f := .glo "is_whole") rfl), F_is_whole.kp, biC_is_whole, .nil, fun _ _ _ => .nil⟩⟩
  have o_is_within := ok_is_within (P := P) (w := w) (base := base) F_is_within B C_is_whole
  have biC_is_within : Binds K fd_is_within ["thing", "least", "most"] [] := F_is_within.bindsN (fun _ _ _ _ _ _ us hl => match us, hl with | [_, _, _], _ => rfl)
  have C_is_within : CalN P w K mg base (TT K) 2 "is_within" ["thing", "least", "most"] [] m_is_within := ⟨⟨_, _, [], [], o_is_within, He.glo_ok X G (cD.fact 22 (f := .glo "is_within") rfl), F_is_within.kp, biC_is_within, .nil, fun _ _ _ => .nil⟩⟩
  have o_is_plan := ok_is_plan (P := P) (w := w) (base := base) F_is_plan B C_is_within
  have biC_is_plan : Binds K fd_is_plan ["thing"] [] := F_is_plan.bindsN (fun _ _ _ _ _ _ us hl => match us, hl with | [_], _ => rfl)
  have C_is_plan : CalN P w K mg base (TT K) 3 "is_plan" ["thing"] [] m_is_plan := ⟨⟨_, _, [], [], o_is_plan, He.glo_ok X G (cD.fact 23 (f := .glo "is_plan") rfl), F_is_plan.kp, biC_is_plan, .nil, fun _ _ _ => .nil⟩⟩
  have o_need_plan := ok_need_plan (P := P) (w := w) (base := base) F_need_plan B C_is_plan
  have biC_need_plan : Binds K fd_need_plan ["thing"] [] := F_need_plan.bindsN (fun _ _ _ _ _ _ us hl => match us, hl with | [_], _ => rfl)
  have C_need_plan : CalN P w K mg base (TT K) 4 "need_plan" ["thing"] [] m_need_plan := ⟨⟨_, _, [], [], o_need_plan, He.glo_ok X G (cD.fact 24 (f := .glo "need_plan") rfl), F_need_plan.kp, biC_need_plan, .nil, fun _ _ _ => .nil⟩⟩
  have o_is_row := ok_is_row (P := P) (w := w) (base := base) F_is_row B C_is_within
  have biC_is_row : Binds K fd_is_row ["plan", "thing"] [] := F_is_row.bindsN (fun _ _ _ _ _ _ us hl => match us, hl with | [_, _], _ => rfl)
  have C_is_row : CalN P w K mg base (TT K) 3 "is_row" ["plan", "thing"] [] m_is_row := ⟨⟨_, _, [], [], o_is_row, He.glo_ok X G (cD.fact 25 (f := .glo "is_row") rfl), F_is_row.kp, biC_is_row, .nil, fun _ _ _ => .nil⟩⟩
  have o_are_rows := ok_are_rows (P := P) (w := w) (base := base) F_are_rows B C_is_row
  have biC_are_rows : Binds K fd_are_rows ["plan", "thing"] [] := F_are_rows.bindsN (fun _ _ _ _ _ _ us hl => match us, hl with | [_, _], _ => rfl)
  have C_are_rows : CalN P w K mg base (TT K) 4 "are_rows" ["plan", "thing"] [] m_are_rows := ⟨⟨_, _, [], [], o_are_rows, He.glo_ok X G (cD.fact 26 (f := .glo "are_rows") rfl), F_are_rows.kp, biC_are_rows, .nil, fun _ _ _ => .nil⟩⟩
  have o_is_order_of := ok_is_order_of (P := P) (w := w) (base := base) F_is_order_of B C_are_rows C_is_row C_is_within
  have biC_is_order_of : Binds K fd_is_order_of ["plan", "thing"] [] := F_is_order_of.bindsN (fun _ _ _ _ _ _ us hl => match us, hl with | [_, _], _ => rfl)
  have C_is_order_of : CalN P w K mg base (TT K) 5 "is_order_of" ["plan", "thing"] [] m_is_order_of := ⟨⟨_, _, [], [], o_is_order_of, He.glo_ok X G (cD.fact 27 (f := .glo "is_order_of") rfl), F_is_order_of.kp, biC_is_order_of, .nil, fun _ _ _ => .nil⟩⟩
  have o_is_order := ok_is_order (P := P) (w := w) (base := base) F_is_order B C_is_order_of C_need_plan
  have biC_is_order : Binds K fd_is_order ["plan", "thing"] [] := F_is_order.bindsN (fun _ _ _ _ _ _ us hl => match us, hl with | [_, _], _ => rfl)
  have C_is_order : CalN P w K mg base (TT K) 6 "is_order" ["plan", "thing"] [] m_is_order := ⟨⟨_, _, [], [], o_is_order, He.glo_ok X G (cD.fact 28 (f := .glo "is_order") rfl), F_is_order.kp, biC_is_order, .nil, fun _ _ _ => .nil⟩⟩
  have o__law_cell_at := ok__law_cell_at (P := P) (w := w) (base := base) F__law_cell_at B 
  have biC__law_cell_at : Binds K fd__law_cell_at ["_law_script", "_law_k"] [] := F__law_cell_at.bindsN (fun _ _ _ _ _ _ us hl => match us, hl with | [_, _], _ => rfl)
  have C__law_cell_at : CalN P w K mg base (TT K) 1 "_law_cell_at" ["_law_script", "_law_k"] [] m__law_cell_at := ⟨⟨_, _, [], [], o__law_cell_at, He.glo_ok X G (cD.fact 29 (f := .glo "_law_cell_at") rfl), F__law_cell_at.kp, biC__law_cell_at, .nil, fun _ _ _ => .nil⟩⟩
  have o__law_state := ok__law_state (P := P) (w := w) (base := base) F__law_state B C__law_cell_at
  have biC__law_state : Binds K fd__law_state ["_law_script", "_law_k"] [] := F__law_state.bindsN (fun _ _ _ _ _ _ us hl => match us, hl with | [_, _], _ => rfl)
  have C__law_state : CalN P w K mg base (TT K) 2 "_law_state" ["_law_script", "_law_k"] [] m__law_state := ⟨⟨_, _, [], [], o__law_state, He.glo_ok X G (cD.fact 30 (f := .glo "_law_state") rfl), F__law_state.kp, biC__law_state, .nil, fun _ _ _ => .nil⟩⟩
  have o__law_choice := ok__law_choice (P := P) (w := w) (base := base) F__law_choice B 
  have biC__law_choice : Binds K fd__law_choice ["_law_state_here", "_law_many"] [] := F__law_choice.bindsN (fun _ _ _ _ _ _ us hl => match us, hl with | [_, _], _ => rfl)
  have C__law_choice : CalN P w K mg base (TT K) 1 "_law_choice" ["_law_state_here", "_law_many"] [] m__law_choice := ⟨⟨_, _, [], [], o__law_choice, He.glo_ok X G (cD.fact 31 (f := .glo "_law_choice") rfl), F__law_choice.kp, biC__law_choice, .nil, fun _ _ _ => .nil⟩⟩
  have o__law_same := ok__law_same (P := P) (w := w) (base := base) F__law_same B 
  have biC__law_same : Binds K fd__law_same ["_law_found", "_law_ought"] [] := F__law_same.bindsN (fun _ _ _ _ _ _ us hl => match us, hl with | [_, _], _ => rfl)
  have C__law_same : CalN P w K mg base (TT K) 1 "_law_same" ["_law_found", "_law_ought"] [] m__law_same := ⟨⟨_, _, [], [], o__law_same, He.glo_ok X G (cD.fact 32 (f := .glo "_law_same") rfl), F__law_same.kp, biC__law_same, .nil, fun _ _ _ => .nil⟩⟩
  have o__law_plan := ok__law_plan (P := P) (w := w) (base := base) F__law_plan B C__law_choice
  have biC__law_plan : Binds K fd__law_plan ["_law_state_here", "_law_sealed", "_law_commits"] [] := F__law_plan.bindsN (fun _ _ _ _ _ _ us hl => match us, hl with | [_, _, _], _ => rfl)
  have C__law_plan : CalN P w K mg base (TT K) 2 "_law_plan" ["_law_state_here", "_law_sealed", "_law_commits"] [] m__law_plan := ⟨⟨_, _, [], [], o__law_plan, He.glo_ok X G (cD.fact 33 (f := .glo "_law_plan") rfl), F__law_plan.kp, biC__law_plan, .nil, fun _ _ _ => .nil⟩⟩
  have o__law_rows := ok__law_rows (P := P) (w := w) (base := base) F__law_rows B C__law_choice
  have biC__law_rows : Binds K fd__law_rows ["_law_state_here", "_law_shape"] [] := F__law_rows.bindsN (fun _ _ _ _ _ _ us hl => match us, hl with | [_, _], _ => rfl)
  have C__law_rows : CalN P w K mg base (TT K) 2 "_law_rows" ["_law_state_here", "_law_shape"] [] m__law_rows := ⟨⟨_, _, [], [], o__law_rows, He.glo_ok X G (cD.fact 34 (f := .glo "_law_rows") rfl), F__law_rows.kp, biC__law_rows, .nil, fun _ _ _ => .nil⟩⟩
  have o__law_order := ok__law_order (P := P) (w := w) (base := base) F__law_order B C__law_choice C__law_rows
  have biC__law_order : Binds K fd__law_order ["_law_state_here", "_law_shape"] [] := F__law_order.bindsN (fun _ _ _ _ _ _ us hl => match us, hl with | [_, _], _ => rfl)
  have C__law_order : CalN P w K mg base (TT K) 3 "_law_order" ["_law_state_here", "_law_shape"] [] m__law_order := ⟨⟨_, _, [], [], o__law_order, He.glo_ok X G (cD.fact 35 (f := .glo "_law_order") rfl), F__law_order.kp, biC__law_order, .nil, fun _ _ _ => .nil⟩⟩
  have o__law_in := ok__law_in (P := P) (w := w) (base := base) F__law_in B 
  have biC__law_in : Binds K fd__law_in ["_law_thing", "_law_least", "_law_top"] [] := F__law_in.bindsN (fun _ _ _ _ _ _ us hl => match us, hl with | [_, _, _], _ => rfl)
  have C__law_in : CalN P w K mg base (TT K) 1 "_law_in" ["_law_thing", "_law_least", "_law_top"] [] m__law_in := ⟨⟨_, _, [], [], o__law_in, He.glo_ok X G (cD.fact 36 (f := .glo "_law_in") rfl), F__law_in.kp, biC__law_in, .nil, fun _ _ _ => .nil⟩⟩
  have o__law_is_row := ok__law_is_row (P := P) (w := w) (base := base) F__law_is_row B C__law_in
  have biC__law_is_row : Binds K fd__law_is_row ["_law_shape", "_law_thing"] [] := F__law_is_row.bindsN (fun _ _ _ _ _ _ us hl => match us, hl with | [_, _], _ => rfl)
  have C__law_is_row : CalN P w K mg base (TT K) 2 "_law_is_row" ["_law_shape", "_law_thing"] [] m__law_is_row := ⟨⟨_, _, [], [], o__law_is_row, He.glo_ok X G (cD.fact 37 (f := .glo "_law_is_row") rfl), F__law_is_row.kp, biC__law_is_row, .nil, fun _ _ _ => .nil⟩⟩
  have o__law_is_order := ok__law_is_order (P := P) (w := w) (base := base) F__law_is_order B C__law_in C__law_is_row
  have biC__law_is_order : Binds K fd__law_is_order ["_law_shape", "_law_thing"] [] := F__law_is_order.bindsN (fun _ _ _ _ _ _ us hl => match us, hl with | [_, _], _ => rfl)
  have C__law_is_order : CalN P w K mg base (TT K) 3 "_law_is_order" ["_law_shape", "_law_thing"] [] m__law_is_order := ⟨⟨_, _, [], [], o__law_is_order, He.glo_ok X G (cD.fact 38 (f := .glo "_law_is_order") rfl), F__law_is_order.kp, biC__law_is_order, .nil, fun _ _ _ => .nil⟩⟩
  have o__law_odd := ok__law_odd (P := P) (w := w) (base := base) F__law_odd B C__law_choice
  have biC__law_odd : Binds K fd__law_odd ["_law_state_here"] [] := F__law_odd.bindsN (fun _ _ _ _ _ _ us hl => match us, hl with | [_], _ => rfl)
  have C__law_odd : CalN P w K mg base (TT K) 2 "_law_odd" ["_law_state_here"] [] m__law_odd := ⟨⟨_, _, [], [], o__law_odd, He.glo_ok X G (cD.fact 39 (f := .glo "_law_odd") rfl), F__law_odd.kp, biC__law_odd, .nil, fun _ _ _ => .nil⟩⟩
  have biR__law_bent : Binds K fd__law_bent ["_law_state_here", "_law_thing"] [] := F__law_bent.bindsN (fun _ _ _ _ _ _ us hl => match us, hl with | [_, _], _ => rfl)
  have o__law_bent := ok__law_bent (P := P) (w := w) (base := base) F__law_bent B (He.glo_ok X G (cD.fact 40 (f := .glo "_law_bent") rfl)) biR__law_bent C__law_choice C__law_odd
  have biC__law_bent : Binds K fd__law_bent ["_law_state_here", "_law_thing"] [] := F__law_bent.bindsN (fun _ _ _ _ _ _ us hl => match us, hl with | [_, _], _ => rfl)
  have C__law_bent : CalN P w K mg base (TT K) 8 "_law_bent" ["_law_state_here", "_law_thing"] [] m__law_bent := ⟨⟨_, _, [], [], o__law_bent, He.glo_ok X G (cD.fact 40 (f := .glo "_law_bent") rfl), F__law_bent.kp, biC__law_bent, .nil, fun _ _ _ => .nil⟩⟩
  exact ok_law F_law B C__law_bent C__law_choice C__law_is_order C__law_odd C__law_order C__law_plan C__law_same C__law_state C_is_order
end Fk
/-! ## the evaluator's rows -/
namespace Fk
open PySem PySem.Spec PyProof.Rows L2
@[simp] theorem k_eVar (i : Nat) (r0 : List Sl) (s0 : List AV) : eVar i (Ss.mk r0 s0) = match getSl r0 i with
  | .im d => .ok d (Ss.mk r0 s0)
  | .ow d => match frz d with
    | some d' => .ok d' ⟨setSl r0 i (.im d'), s0⟩
    | none => .bad
  | .no => .bad := id rfl
@[simp] theorem k_eC (d : AV) (r0 : List Sl) (s0 : List AV) : eC d (Ss.mk r0 s0) = .ok d (Ss.mk r0 s0) := id rfl
@[simp] theorem k_e1 (f : AV → Option AV) (a : M AV) (r0 : List Sl) (s0 : List AV) : e1 f a (Ss.mk r0 s0) = (a (Ss.mk r0 s0)).bind fun x s1 => ofO (f x) s1 := id rfl
@[simp] theorem k_e2 (f : AV → AV → Option AV) (a b : M AV) (r0 : List Sl) (s0 : List AV) : e2 f a b (Ss.mk r0 s0) = (a (Ss.mk r0 s0)).bind fun x s1 => (b s1).bind fun y s2 => ofO (f x y) s2 := id rfl
@[simp] theorem k_tOf (m : M AV) (r0 : List Sl) (s0 : List AV) : tOf m (Ss.mk r0 s0) = (m (Ss.mk r0 s0)).bind fun x s1 => match x with
  | .bl b => .ok b s1
  | _ => .bad := id rfl
@[simp] theorem k_aNil  (r0 : List Sl) (s0 : List AV) : aNil (Ss.mk r0 s0) = .ok [] (Ss.mk r0 s0) := id rfl
@[simp] theorem k_aCons (a : M AV) (r : M (List AV)) (r0 : List Sl) (s0 : List AV) : aCons a r (Ss.mk r0 s0) = (a (Ss.mk r0 s0)).bind fun x s1 => (r s1).bind fun xs s2 => .ok (x :: xs) s2 := id rfl
@[simp] theorem k_eTup (a : M (List AV)) (r0 : List Sl) (s0 : List AV) : eTup a (Ss.mk r0 s0) = (a (Ss.mk r0 s0)).bind fun xs s1 => if xs.length ≤ 16777216 then .ok (.tup xs) s1 else .bad := id rfl
@[simp] theorem k_eLst (a : M (List AV)) (r0 : List Sl) (s0 : List AV) : eLst a (Ss.mk r0 s0) = (a (Ss.mk r0 s0)).bind fun xs s1 => if xs.length ≤ 16777216 then .ok (.lst false xs) s1 else .bad := id rfl
@[simp] theorem k_eLstO (a : M (List AV)) (r0 : List Sl) (s0 : List AV) : eLstO a (Ss.mk r0 s0) = (a (Ss.mk r0 s0)).bind fun xs s1 => if xs.length ≤ 16777216 then .ok (.lst true xs) s1 else .bad := id rfl
@[simp] theorem k_tNotM (a : M Bool) (r0 : List Sl) (s0 : List AV) : tNotM a (Ss.mk r0 s0) = (a (Ss.mk r0 s0)).bind fun x s1 => .ok (!x) s1 := id rfl
@[simp] theorem k_tAndM (a b : M Bool) (r0 : List Sl) (s0 : List AV) : tAndM a b (Ss.mk r0 s0) = (a (Ss.mk r0 s0)).bind fun x s1 => bif x then b s1 else .ok false s1 := id rfl
@[simp] theorem k_tOrM (a b : M Bool) (r0 : List Sl) (s0 : List AV) : tOrM a b (Ss.mk r0 s0) = (a (Ss.mk r0 s0)).bind fun x s1 => bif x then .ok true s1 else b s1 := id rfl
@[simp] theorem k_eAnd (a b : M AV) (r0 : List Sl) (s0 : List AV) : eAnd a b (Ss.mk r0 s0) = (a (Ss.mk r0 s0)).bind fun x s1 => (ofO (asB x) s1).bind fun c s2 => bif c then b s2 else .ok (.bl false) s2 := id rfl
@[simp] theorem k_eOr (a b : M AV) (r0 : List Sl) (s0 : List AV) : eOr a b (Ss.mk r0 s0) = (a (Ss.mk r0 s0)).bind fun x s1 => (ofO (asB x) s1).bind fun c s2 => bif c then .ok (.bl true) s2 else b s2 := id rfl
@[simp] theorem k_eIf (t : M Bool) (a b : M AV) (r0 : List Sl) (s0 : List AV) : eIf t a b (Ss.mk r0 s0) = (t (Ss.mk r0 s0)).bind fun c s1 => bif c then a s1 else b s1 := id rfl
@[simp] theorem k_eChn (f g : AV → AV → Option AV) (a b c : M AV) (r0 : List Sl) (s0 : List AV) : eChn f g a b c (Ss.mk r0 s0) = (a (Ss.mk r0 s0)).bind fun x s1 => (b s1).bind fun y s2 => (ofO ((f x y).bind asB) s2).bind fun k s3 => bif k then (c s3).bind fun z s4 => ofO (g y z) s4 else .ok (.bl false) s3 := id rfl
@[simp] theorem k_sNx  (r0 : List Sl) (s0 : List AV) : sNx (Ss.mk r0 s0) = .ok .nx (Ss.mk r0 s0) := id rfl
@[simp] theorem k_sSeq (a b : M Fl) (r0 : List Sl) (s0 : List AV) : sSeq a b (Ss.mk r0 s0) = (a (Ss.mk r0 s0)).bind fun f s1 => match f with
  | .nx => b s1
  | f => .ok f s1 := id rfl
@[simp] theorem k_sAsg (i : Nat) (e : M AV) (r0 : List Sl) (s0 : List AV) : sAsg i e (Ss.mk r0 s0) = (e (Ss.mk r0 s0)).bind fun d s1 => .ok .nx ⟨setSl s1.r i (.im d), s1.s⟩ := id rfl
@[simp] theorem k_sAsgO (i : Nat) (e : M AV) (r0 : List Sl) (s0 : List AV) : sAsgO i e (Ss.mk r0 s0) = (e (Ss.mk r0 s0)).bind fun d s1 => .ok .nx ⟨setSl s1.r i (.ow d), s1.s⟩ := id rfl
@[simp] theorem k_sExp (e : M AV) (r0 : List Sl) (s0 : List AV) : sExp e (Ss.mk r0 s0) = (e (Ss.mk r0 s0)).bind fun _ s1 => .ok .nx s1 := id rfl
@[simp] theorem k_sRet (e : M AV) (r0 : List Sl) (s0 : List AV) : sRet e (Ss.mk r0 s0) = (e (Ss.mk r0 s0)).bind fun d s1 => .ok (.rt d) s1 := id rfl
@[simp] theorem k_sIf (t : M Bool) (a b : M Fl) (r0 : List Sl) (s0 : List AV) : sIf t a b (Ss.mk r0 s0) = (t (Ss.mk r0 s0)).bind fun c s1 => bif c then a s1 else b s1 := id rfl
@[simp] theorem k_sBrk  (r0 : List Sl) (s0 : List AV) : sBrk (Ss.mk r0 s0) = .ok .bk (Ss.mk r0 s0) := id rfl
@[simp] theorem k_sCnt  (r0 : List Sl) (s0 : List AV) : sCnt (Ss.mk r0 s0) = .ok .ct (Ss.mk r0 s0) := id rfl
@[simp] theorem k_sAsgOw (i : Nat) (e : M AV) (r0 : List Sl) (s0 : List AV) : sAsgOw i e (Ss.mk r0 s0) = (e (Ss.mk r0 s0)).bind fun d s1 => if i < s1.r.length then .ok .nx ⟨setSl s1.r i (.ow d), s1.s⟩ else .bad := id rfl
@[simp] theorem k_eCall (n : Nat) (f : Fn) (ds : List AV) (a : M (List AV)) (r0 : List Sl) (s0 : List AV) : eCall n f ds a (Ss.mk r0 s0) = (a (Ss.mk r0 s0)).bind fun xs s1 => if xs.length + ds.length = n then back s1.r (f (xs ++ ds) s1.s) else .bad := id rfl
@[simp] theorem k_sRaise (c : Str) (r0 : List Sl) (s0 : List AV) : sRaise c (Ss.mk r0 s0) = .err c (Ss.mk r0 s0) := id rfl
@[simp] theorem k_iOf (m : M AV) (r0 : List Sl) (s0 : List AV) : iOf m (Ss.mk r0 s0) = (m (Ss.mk r0 s0)).bind fun x s1 => ofO (itemsOf x) s1 := id rfl
@[simp] theorem k_iArg (f : List AV → Option (List AV)) (m : M (List AV)) (r0 : List Sl) (s0 : List AV) : iArg f m (Ss.mk r0 s0) = (m (Ss.mk r0 s0)).bind fun xs s1 => ofO (f xs) s1 := id rfl
@[simp] theorem k_sFor (mi : M (List AV)) (t : Tg) (body : M Fl) (r0 : List Sl) (s0 : List AV) : sFor mi t body (Ss.mk r0 s0) = (mi (Ss.mk r0 s0)).bind fun ds s1 => forM t body ds s1 := id rfl
@[simp] theorem k_tTrue  (r0 : List Sl) (s0 : List AV) : tTrue (Ss.mk r0 s0) = .ok true (Ss.mk r0 s0) := id rfl
@[simp] theorem k_lcM (mi : M (List AV)) (t : Tg) (tt : M Bool) (te : M AV) (vs : List Nat) (r0 : List Sl) (s0 : List AV) : lcM mi t tt te vs (Ss.mk r0 s0) = (mi (Ss.mk r0 s0)).bind fun ds s1 => compM t tt te vs ds [] (s1.wipe vs) := id rfl
@[simp] theorem k_eLc (o : Bool) (m : M (List AV)) (r0 : List Sl) (s0 : List AV) : eLc o m (Ss.mk r0 s0) = (m (Ss.mk r0 s0)).bind fun xs s1 => .ok (.lst o xs) s1 := id rfl
@[simp] theorem k_eB (f : List AV → List AV → Option AV) (a : M (List AV)) (r0 : List Sl) (s0 : List AV) : eB f a (Ss.mk r0 s0) = (a (Ss.mk r0 s0)).bind fun xs s1 => ofO (f s1.s xs) s1 := id rfl
@[simp] theorem k_eBP (f : List AV → List AV → Option AV) (a : Ss → Option (List AV)) (r0 : List Sl) (s0 : List AV) : eBP f a (Ss.mk r0 s0) = match a (Ss.mk r0 s0) with
  | some xs => ofO (f s0 xs) (Ss.mk r0 s0)
  | none => .bad := id rfl
@[simp] theorem k_pNil  (r0 : List Sl) (s0 : List AV) : pNil (Ss.mk r0 s0) = some [] := id rfl
@[simp] theorem k_pCons (a : Ss → Option AV) (r : Ss → Option (List AV)) (r0 : List Sl) (s0 : List AV) : pCons a r (Ss.mk r0 s0) = (a (Ss.mk r0 s0)).bind fun x => (r (Ss.mk r0 s0)).map (x :: ·) := id rfl
@[simp] theorem k_pVar (i : Nat) (r0 : List Sl) (s0 : List AV) : pVar i (Ss.mk r0 s0) = match getSl r0 i with
  | .im d => some d
  | .ow d => some d
  | .no => none := id rfl
@[simp] theorem k_pC (d : AV) (r0 : List Sl) (s0 : List AV) : pC d (Ss.mk r0 s0) = some d := id rfl
@[simp] theorem k_p2 (f : AV → AV → Option AV) (a b : Ss → Option AV) (r0 : List Sl) (s0 : List AV) : p2 f a b (Ss.mk r0 s0) = (a (Ss.mk r0 s0)).bind fun x => (b (Ss.mk r0 s0)).bind fun y => f x y := id rfl
@[simp] theorem k_eP (m : Ss → Option AV) (r0 : List Sl) (s0 : List AV) : eP m (Ss.mk r0 s0) = match m (Ss.mk r0 s0) with
  | some d => bif imm d then .ok d (Ss.mk r0 s0) else .bad
  | none => .bad := id rfl
@[simp] theorem k_e2P (f : AV → AV → Option AV) (a b : Ss → Option AV) (r0 : List Sl) (s0 : List AV) : e2P f a b (Ss.mk r0 s0) = match p2 f a b (Ss.mk r0 s0) with
  | some d => .ok d (Ss.mk r0 s0)
  | none => .bad := id rfl
@[simp] theorem k_eIsi (n : String) (m : M AV) (r0 : List Sl) (s0 : List AV) : eIsi n m (Ss.mk r0 s0) = (m (Ss.mk r0 s0)).bind fun x s1 => bif okT x then .ok (.bl (isT n x)) s1 else .bad := id rfl
@[simp] theorem k_eIx (a b : M AV) (r0 : List Sl) (s0 : List AV) : eIx a b (Ss.mk r0 s0) = (a (Ss.mk r0 s0)).bind fun x s1 => (b s1).bind fun y s2 => match ixA s2.s x y with
  | some d => bif imm d then .ok d s2 else .bad
  | none => .bad := id rfl
@[simp] theorem k_pIx (a b : Ss → Option AV) (r0 : List Sl) (s0 : List AV) : pIx a b (Ss.mk r0 s0) = (a (Ss.mk r0 s0)).bind fun x => (b (Ss.mk r0 s0)).bind fun y => ixA s0 x y := id rfl
@[simp] theorem k_eSl (a : M AV) (lo hi : Option (M AV)) (r0 : List Sl) (s0 : List AV) : eSl a lo hi (Ss.mk r0 s0) = (a (Ss.mk r0 s0)).bind fun x s1 => (oPart lo s1).bind fun l s2 => (oPart hi s2).bind fun u s3 => ofO (slA x l u) s3 := id rfl
@[simp] theorem k_eApp (i : Nat) (m : M AV) (r0 : List Sl) (s0 : List AV) : eApp i m (Ss.mk r0 s0) = match ownL (getSl r0 i) with
  | none => .bad
  | some _ => (m (Ss.mk r0 s0)).bind fun d s1 => match ownL (getSl s1.r i) with
    | none => .bad
    | some xs => if xs.length < 16777216 then .ok .non (putL i (xs ++ [d]) s1) else .bad := id rfl
@[simp] theorem k_ePop (i : Nat) (m : M AV) (r0 : List Sl) (s0 : List AV) : ePop i m (Ss.mk r0 s0) = match ownL (getSl r0 i) with
  | none => .bad
  | some _ => (m (Ss.mk r0 s0)).bind fun d s1 => match ownL (getSl s1.r i) with
    | none => .bad
    | some xs => match popA xs d with
      | some (y, ys) => .ok y (putL i ys s1)
      | none => .bad := id rfl
@[simp] theorem k_sSetB (i : Nat) (mk mv : M AV) (r0 : List Sl) (s0 : List AV) : sSetB i mk mv (Ss.mk r0 s0) = (mv (Ss.mk r0 s0)).bind fun d s1 => bif isOw (getSl s1.r i) then (mk s1).bind fun y s2 => storeB i y d s2 else .bad := id rfl
@[simp] theorem k_pFld (C f : Str) (m : Ss → Option AV) (r0 : List Sl) (s0 : List AV) : pFld C f m (Ss.mk r0 s0) = (m (Ss.mk r0 s0)).bind fun x => fldA s0 C f x := id rfl
@[simp] theorem k_sFld (C f : Str) (mo : Ss → Option AV) (mv : M AV) (r0 : List Sl) (s0 : List AV) : sFld C f mo mv (Ss.mk r0 s0) = (mv (Ss.mk r0 s0)).bind fun d s1 => match (mo s1).bind fun x => putFld C f x d s1 with
  | some s2 => .ok .nx s2
  | none => .bad := id rfl
@[simp] theorem k_mAlt {α : Type} (a b : M α) (r0 : List Sl) (s0 : List AV) : mAlt a b (Ss.mk r0 s0) = match a (Ss.mk r0 s0) with
  | .bad => b (Ss.mk r0 s0)
  | r => r := id rfl
@[simp] theorem k_sSetP (w : Bool) (fo : Option (Str × Str)) (mo mk : Ss → Option AV) (mv : M AV) (r0 : List Sl) (s0 : List AV) : sSetP w fo mo mk mv (Ss.mk r0 s0) = (mv (Ss.mk r0 s0)).bind fun d s1 => match (mo s1).bind locOf with
  | some l => (match mk s1 with
    | some y => (match (getPl s1.s l fo).bind fun z => setZ w z y d with
      | some z' => .ok .nx ⟨s1.r, setPl s1.s l fo z'⟩
      | none => .bad)
    | none => .bad)
  | none => .bad := id rfl
@[simp] theorem k_sAug (i : Nat) (m : M AV) (r0 : List Sl) (s0 : List AV) : sAug i m (Ss.mk r0 s0) = match getSl r0 i with
  | .im (.int a) => (m (Ss.mk r0 s0)).bind fun d s1 => match d with
    | .int b => .ok .nx ⟨setSl s1.r i (.im (.int (a + b))), s1.s⟩
    | _ => .bad
  | _ => .bad := id rfl
@[simp] theorem k_sFAug (C f : Str) (mo mv : M AV) (r0 : List Sl) (s0 : List AV) : sFAug C f mo mv (Ss.mk r0 s0) = (mo (Ss.mk r0 s0)).bind fun x s1 => match fldA s1.s C f x with
  | some (.int a) => (mv s1).bind fun d s2 => match d with
    | .int b => (match putFld C f x (.int (a + b)) s2 with
      | some s3 => .ok .nx s3
      | none => .bad)
    | _ => .bad
  | _ => .bad := id rfl
@[simp] theorem k_sAugP (fo : Option (Str × Str)) (mo mk me : Ss → Option AV) (r0 : List Sl) (s0 : List AV) : sAugP fo mo mk me (Ss.mk r0 s0) = match (mo (Ss.mk r0 s0)).bind locOf with
  | some l => (match mk (Ss.mk r0 s0), me (Ss.mk r0 s0) with
    | some y, some d => (match (getPl s0 l fo).bind fun z => augZ z y d with
      | some z' => .ok .nx ⟨r0, setPl s0 l fo z'⟩
      | none => .bad)
    | _, _ => .bad)
  | none => .bad := id rfl
@[simp] theorem k_sAugB (i : Nat) (mk me : Ss → Option AV) (r0 : List Sl) (s0 : List AV) : sAugB i mk me (Ss.mk r0 s0) = match ownL (getSl r0 i) with
  | some xs => (match mk (Ss.mk r0 s0), me (Ss.mk r0 s0) with
    | some y, some d => (match augZ (.lst true xs) y d with
      | some (.lst _ ys) => .ok .nx (putL i ys (Ss.mk r0 s0))
      | _ => .bad)
    | _, _ => .bad)
  | none => .bad := id rfl
@[simp] theorem k_eProm (m : M AV) (r0 : List Sl) (s0 : List AV) : eProm m (Ss.mk r0 s0) = (m (Ss.mk r0 s0)).bind fun d s1 => bif ownA d then .ok (.loc s1.s.length) ⟨s1.r, s1.s ++ [d]⟩ else .bad := id rfl
@[simp] theorem k_eMeth (C nm : Str) (n : Nat) (f : Fn) (ds : List AV) (mo : M AV) (ma : M (List AV)) (r0 : List Sl) (s0 : List AV) : eMeth C nm n f ds mo ma (Ss.mk r0 s0) = (mo (Ss.mk r0 s0)).bind fun x s1 => bif clsOk s1.s C nm x then (ma s1).bind fun xs s2 => if 1 + (xs.length + ds.length) = n then back s2.r (f (x :: (xs ++ ds)) s2.s) else .bad else .bad := id rfl
@[simp] theorem k_eMake (C : Str) (n : Nat) (f : Fn) (ds : List AV) (ma : M (List AV)) (r0 : List Sl) (s0 : List AV) : eMake C n f ds ma (Ss.mk r0 s0) = (ma (Ss.mk r0 s0)).bind fun xs s1 => if 1 + (xs.length + ds.length) = n then mkBack s1.r s1.s.length (f (.loc s1.s.length :: (xs ++ ds)) (s1.s ++ [.ins C [] []])) else .bad := id rfl
@[simp] theorem k_eLn (m : M (List AV)) (r0 : List Sl) (s0 : List AV) : eLn m (Ss.mk r0 s0) = (m (Ss.mk r0 s0)).bind fun xs s1 => .ok (.nst xs) s1 := id rfl
@[simp] theorem k_xI (m : M AV) (r0 : List Sl) (s0 : List AV) : xI m (Ss.mk r0 s0) = (m (Ss.mk r0 s0)).bind fun d s1 => .ok (.im d) s1 := id rfl
@[simp] theorem k_xO (m : M AV) (r0 : List Sl) (s0 : List AV) : xO m (Ss.mk r0 s0) = (m (Ss.mk r0 s0)).bind fun d s1 => .ok (.ow d) s1 := id rfl
@[simp] theorem k_sPar (i j : Nat) (ma mb : M Sl) (r0 : List Sl) (s0 : List AV) : sPar i j ma mb (Ss.mk r0 s0) = (ma (Ss.mk r0 s0)).bind fun x s1 => bif isNo x then .bad else (mb s1).bind fun y s2 => bif isNo y then .bad else if i < s2.r.length ∧ j < s2.r.length then .ok .nx ⟨setSl (setSl s2.r j y) i x, s2.s⟩ else .bad := id rfl
@[simp] theorem k_sPar3 (i j l : Nat) (ma mb mc : M Sl) (r0 : List Sl) (s0 : List AV) : sPar3 i j l ma mb mc (Ss.mk r0 s0) = (ma (Ss.mk r0 s0)).bind fun x s1 => bif isNo x then .bad else (mb s1).bind fun y s2 => bif isNo y then .bad else (mc s2).bind fun z s3 => bif isNo z then .bad else if i < s3.r.length ∧ j < s3.r.length ∧ l < s3.r.length then .ok .nx ⟨setSl (setSl (setSl s3.r l z) j y) i x, s3.s⟩ else .bad := id rfl
@[simp] theorem k_sAsgG (t : Tg) (m : M AV) (r0 : List Sl) (s0 : List AV) : sAsgG t m (Ss.mk r0 s0) = (m (Ss.mk r0 s0)).bind fun d s1 => match t d s1 with
  | some s2 => .ok .nx s2
  | none => .bad := id rfl
@[simp] theorem k_eDnew  (r0 : List Sl) (s0 : List AV) : eDnew (Ss.mk r0 s0) = .ok (.dct true [] []) (Ss.mk r0 s0) := id rfl
@[simp] theorem k_pGet (a b c : Ss → Option AV) (r0 : List Sl) (s0 : List AV) : pGet a b c (Ss.mk r0 s0) = (a (Ss.mk r0 s0)).bind fun x => (b (Ss.mk r0 s0)).bind fun k => (c (Ss.mk r0 s0)).bind fun d => getD' s0 x k d := id rfl
@[simp] theorem k_eIsC (C : Str) (Ds : List Str) (m : M AV) (r0 : List Sl) (s0 : List AV) : eIsC C Ds m (Ss.mk r0 s0) = (m (Ss.mk r0 s0)).bind fun x s1 => bif okT x then .ok (.bl false) s1 else match clsA s1.s x with
  | some D => if D = C then .ok (.bl true) s1 else if D ∈ Ds then .ok (.bl false) s1 else .bad
  | none => .bad := id rfl
@[simp] theorem k_eFrz (m : M AV) (r0 : List Sl) (s0 : List AV) : eFrz m (Ss.mk r0 s0) = (m (Ss.mk r0 s0)).bind fun d s1 => ofO (frz d) s1 := id rfl
@[simp] theorem k_pAlt (a b : Ss → Option AV) (r0 : List Sl) (s0 : List AV) : pAlt a b (Ss.mk r0 s0) = match a (Ss.mk r0 s0) with
  | some d => some d
  | none => b (Ss.mk r0 s0) := id rfl
@[simp] theorem k_sTry (U : List Str) (mb : M Fl) (hs : List (List Str × M Fl)) (r0 : List Sl) (s0 : List AV) : sTry U mb hs (Ss.mk r0 s0) = match mb (Ss.mk r0 s0) with
  | .err c s1 => if c ∈ U then (match pickH c hs with
    | some h => capX (h s1)
    | none => .err c s1) else .bad
  | r => r := id rfl
@[simp] theorem k_eLend (fo : Option (Str × Str)) (mo mk : Ss → Option AV) (r0 : List Sl) (s0 : List AV) : eLend fo mo mk (Ss.mk r0 s0) = match (mo (Ss.mk r0 s0)).bind locOf with
  | some l => (match mk (Ss.mk r0 s0) with
    | some (.int k) => (match getPl s0 l fo with
      | some (.nst rows) => (match ixN rows.length k with
        | some j => (match rows[j]? with
          | some d => bif ownA d then .ok (.loc s0.length) ⟨r0, setPl s0 l fo (.nst (rows.set j (.loc s0.length))) ++ [d]⟩ else .bad
          | none => .bad)
        | none => .bad)
      | _ => .bad)
    | _ => .bad)
  | none => .bad := id rfl
@[simp] theorem k_sUnl (fo : Option (Str × Str)) (io ik ir : Nat) (mb : M Fl) (r0 : List Sl) (s0 : List AV) : sUnl fo io ik ir mb (Ss.mk r0 s0) = match mb (Ss.mk r0 s0) with
  | .ok f s => .ok f (unlS fo io ik ir s)
  | .err c s => .err c (unlS fo io ik ir s)
  | .bad => .bad := id rfl
@[simp] theorem k_eSetd (i : Nat) (mk mv : M AV) (r0 : List Sl) (s0 : List AV) : eSetd i mk mv (Ss.mk r0 s0) = match ownD (getSl r0 i) with
  | none => .bad
  | some _ => (mk (Ss.mk r0 s0)).bind fun y s1 => (mv s1).bind fun d s2 => match ownD (getSl s2.r i), keyA y with
    | some (ks, xs), some k => if ks.length < 16777216 then (match getK ks xs k with
      | some x => .ok x s2
      | none => .ok d (putD i (ks ++ [k]) (xs ++ [d]) s2)) else .bad
    | _, _ => .bad := id rfl
@[simp] theorem k_eBM (f : List AV → List AV → Option AV) (mo me : M AV) (r0 : List Sl) (s0 : List AV) : eBM f mo me (Ss.mk r0 s0) = (mo (Ss.mk r0 s0)).bind fun x s1 => bif isL x then (me s1).bind fun y s2 => ofO (f s2.s [x, y]) s2 else .bad := id rfl
@[simp] theorem k_sPut2 (i j : Nat) (ki kj : Ss → Option AV) (ma mb : M AV) (r0 : List Sl) (s0 : List AV) : sPut2 i j ki kj ma mb (Ss.mk r0 s0) = (ma (Ss.mk r0 s0)).bind fun x s1 => (mb s1).bind fun y s2 => match gIx i ki x s2 with
  | some s3 => (match gIx j kj y s3 with
    | some s4 => .ok .nx s4
    | none => .bad)
  | none => .bad := id rfl
@[simp] theorem k_eIsX (i : Nat) (b : Bool) (r0 : List Sl) (s0 : List AV) : eIsX i b (Ss.mk r0 s0) = match getSl r0 i with
  | .im (.loc 0) => .ok (.bl b) (Ss.mk r0 s0)
  | _ => .bad := id rfl
@[simp] theorem k_sTryAs (U cs : List Str) (n : Nat) (keep : List Bool) (mb : M Fl) (mh : Str → M Fl) (r0 : List Sl) (s0 : List AV) : sTryAs U cs n keep mb mh (Ss.mk r0 s0) = match mb (Ss.mk r0 s0) with
  | .err c s1 => if c ∈ U then (if c ∈ cs then (match mh c ⟨hxS keep n s1.r, [.ded]⟩ with
    | .ok (.rt d) _ => bif plainA d then .ok (.rt d) s1 else .bad
    | _ => .bad) else .err c s1) else .bad
  | r => r := id rfl
@[simp] theorem k_eThk (g : Thk) (r0 : List Sl) (s0 : List AV) : eThk g (Ss.mk r0 s0) = back r0 (g s0) := id rfl
@[simp] theorem k_eSaid (mf : Thk → Fn) (me : M AV) (r0 : List Sl) (s0 : List AV) : eSaid mf me (Ss.mk r0 s0) = back r0 (mf (runL me r0) [.ded] s0) := id rfl
@[simp] theorem k_eCallK (np n m : Nat) (f : Fn) (ss : List Src) (ds : List AV) (ma mk : M (List AV)) (r0 : List Sl) (s0 : List AV) : eCallK np n m f ss ds ma mk (Ss.mk r0 s0) = (ma (Ss.mk r0 s0)).bind fun xs s1 => (mk s1).bind fun zs s2 => if xs.length = n ∧ zs.length = m ∧ (srcs xs zs ds ss).length = np then back s2.r (f (srcs xs zs ds ss) s2.s) else .bad := id rfl
@[simp] theorem k_eMethK (C nm : Str) (np n m : Nat) (f : Fn) (ss : List Src) (ds : List AV) (mo : M AV) (ma mk : M (List AV)) (r0 : List Sl) (s0 : List AV) : eMethK C nm np n m f ss ds mo ma mk (Ss.mk r0 s0) = (mo (Ss.mk r0 s0)).bind fun x s1 => bif clsOk s1.s C nm x then (ma s1).bind fun xs s2 => (mk s2).bind fun zs s3 => if xs.length = n ∧ zs.length = m ∧ (srcs (x :: xs) zs ds ss).length = np then back s3.r (f (srcs (x :: xs) zs ds ss) s3.s) else .bad else .bad := id rfl
@[simp] theorem k_eMakeK (C : Str) (np n m : Nat) (f : Fn) (ss : List Src) (ds : List AV) (ma mk : M (List AV)) (r0 : List Sl) (s0 : List AV) : eMakeK C np n m f ss ds ma mk (Ss.mk r0 s0) = (ma (Ss.mk r0 s0)).bind fun xs s1 => (mk s1).bind fun zs s2 => if xs.length = n ∧ zs.length = m ∧ (srcs (.loc s2.s.length :: xs) zs ds ss).length = np then mkBack s2.r s2.s.length (f (srcs (.loc s2.s.length :: xs) zs ds ss) (s2.s ++ [.ins C [] []])) else .bad := id rfl
@[simp] theorem k_eSc (mi : M (List AV)) (t : Tg) (tt : M Bool) (te : M AV) (vs : List Nat) (r0 : List Sl) (s0 : List AV) : eSc mi t tt te vs (Ss.mk r0 s0) = (mi (Ss.mk r0 s0)).bind fun ds s1 => (compS t tt te vs ds [] (s1.wipe vs)).bind fun ks s2 => .ok (.set ks) s2 := id rfl
@[simp] theorem k_eLenS (m : M AV) (r0 : List Sl) (s0 : List AV) : eLenS m (Ss.mk r0 s0) = (m (Ss.mk r0 s0)).bind fun d s1 => match d with
  | .set ks => if ks.length < 1000 then .ok (.int ks.length) s1 else .bad
  | _ => .bad := id rfl
@[simp] theorem k_eCpN (C f : Str) (mo : Ss → Option AV) (r0 : List Sl) (s0 : List AV) : eCpN C f mo (Ss.mk r0 s0) = match pFld C f mo (Ss.mk r0 s0) with
  | some (.nst xs) => bif xs.all rowOk && decide (xs.length < 16777216) then .ok (.nst xs) (Ss.mk r0 s0) else .bad
  | _ => .bad := id rfl
@[simp] theorem k_sAt2 (C f g : Str) (mo mq : Ss → Option AV) (ma mb : M AV) (r0 : List Sl) (s0 : List AV) : sAt2 C f g mo mq ma mb (Ss.mk r0 s0) = (ma (Ss.mk r0 s0)).bind fun x s1 => (mb s1).bind fun y s2 => match (mo s2).bind fun z => putFld C f z x s2 with
  | some s3 => (match (mq s3).bind fun z => putFld C g z y s3 with
    | some s4 => .ok .nx s4
    | none => .bad)
  | none => .bad := id rfl
@[simp] theorem k_sAt3 (C f g k : Str) (mo mq mr : Ss → Option AV) (ma mb mc : M AV) (r0 : List Sl) (s0 : List AV) : sAt3 C f g k mo mq mr ma mb mc (Ss.mk r0 s0) = (ma (Ss.mk r0 s0)).bind fun x s1 => (mb s1).bind fun y s2 => (mc s2).bind fun w s3 => match (mo s3).bind fun z => putFld C f z x s3 with
  | some s4 => (match (mq s4).bind fun z => putFld C g z y s4 with
    | some s5 => (match (mr s5).bind fun z => putFld C k z w s5 with
      | some s6 => .ok .nx s6
      | none => .bad)
    | none => .bad)
  | none => .bad := id rfl
@[simp] theorem k_eIxD (mo me : M AV) (r0 : List Sl) (s0 : List AV) : eIxD mo me (Ss.mk r0 s0) = (mo (Ss.mk r0 s0)).bind fun x s1 => match x with
  | .tud xs => (me s1).bind fun y s2 => if okA (.tup xs) && okA y then ofO (((dats xs).findIdx? fun w => PyData.eqv w (dat y)).map fun j => AV.int (j : Nat)) s2 else .bad
  | _ => .bad := id rfl
@[simp] theorem k_eOrS (a b : M AV) (r0 : List Sl) (s0 : List AV) : eOrS a b (Ss.mk r0 s0) = (a (Ss.mk r0 s0)).bind fun x s1 => (ofO (strB x) s1).bind fun c s2 => bif c then .ok x s2 else b s2 := id rfl
end Fk
/-! ## what a run is wanted to give -/
namespace Fk
open PySem PySem.Spec PyProof.Rows L2
/-- a structure, so that nothing unfolds it: else the elaborator runs the whole run -/
structure WpR {α β : Type} (x : Res α β) (Q : α → β → Prop) (E : Str → β → Prop) : Prop where
  out : match x with
    | .ok a s => Q a s
    | .err c s => E c s
    | .bad => False
abbrev noE {β : Type} : Str → β → Prop := fun _ _ => False
section
variable {α β γ : Type}
@[simp] theorem WpR_ok (a : α) (s : β) (Q : α → β → Prop) (E : Str → β → Prop) : WpR (.ok a s) Q E = Q a s := propext ⟨fun h => h.out, fun h => ⟨h⟩⟩
@[simp] theorem WpR_err (c : Str) (s : β) (Q : α → β → Prop) (E : Str → β → Prop) : WpR (.err c s : Res α β) Q E = E c s := propext ⟨fun h => h.out, fun h => ⟨h⟩⟩
@[simp] theorem WpR_bad (Q : α → β → Prop) (E : Str → β → Prop) : WpR (.bad : Res α β) Q E = False := propext ⟨fun h => h.out, fun h => h.elim⟩
@[simp] theorem bind_assoc {δ : Type} (x : Res α γ) (k : α → γ → Res β γ) (j : β → γ → Res δ γ) : (x.bind k).bind j = x.bind fun a s => (k a s).bind j := by cases x <;> rfl
theorem wpB {x : Res α γ} {k : α → γ → Res β γ} {Q : β → γ → Prop} {E : Str → γ → Prop} (h : WpR x (fun a s => WpR (k a s) Q E) E) : WpR (x.bind k) Q E := by
  cases x with
  | ok a s => exact h.out
  | err c s => exact ⟨h.out⟩
  | bad => exact h.out.elim
theorem wp_mono {x : Res α β} {Q Q' : α → β → Prop} {E E' : Str → β → Prop} (h : WpR x Q E) (hq : ∀ a s, Q a s → Q' a s) (he : ∀ c s, E c s → E' c s) : WpR x Q' E' := by
  cases x with
  | ok a s => exact ⟨hq a s h.out⟩
  | err c s => exact ⟨he c s h.out⟩
  | bad => exact h.out.elim
theorem wp_of {x : Res α β} {a : α} {s : β} {Q : α → β → Prop} {E : Str → β → Prop} (h : x = .ok a s) (q : Q a s) : WpR x Q E := by rw [h]; exact ⟨q⟩
theorem wp_ex {x : Res α β} {Q : α → β → Prop} (h : WpR x Q noE) : ∃ a s, x = .ok a s ∧ Q a s := by
  cases x with
  | ok a s => exact ⟨a, s, rfl, h.out⟩
  | err c s => exact h.out.elim
  | bad => exact h.out.elim
end
/-! rows of small words, by what is handed in -/
@[simp] theorem imm_non : imm .non = true := rfl
@[simp] theorem imm_bl (b : Bool) : imm (.bl b) = true := rfl
@[simp] theorem imm_int (i : Int) : imm (.int i) = true := rfl
@[simp] theorem imm_str (x : Str) : imm (.str x) = true := rfl
@[simp] theorem imm_tup (xs : List AV) : imm (.tup xs) = true := rfl
@[simp] theorem imm_lst (o : Bool) (xs : List AV) : imm (.lst o xs) = !o := rfl
@[simp] theorem imm_dct (o : Bool) (ks : List Key) (xs : List AV) : imm (.dct o ks xs) = !o := rfl
@[simp] theorem imm_loc (l : Nat) : imm (.loc l) = true := rfl
@[simp] theorem imm_scr (xs : List AV) : imm (.scr xs) = true := rfl
@[simp] theorem itm_lst (o : Bool) (xs : List AV) : itemsOf (.lst o xs) = some xs := rfl
@[simp] theorem itm_tup (xs : List AV) : itemsOf (.tup xs) = some xs := rfl
@[simp] theorem itm_scr (xs : List AV) : itemsOf (.scr xs) = some xs := rfl
@[simp] theorem isNo_im (d : AV) : isNo (.im d) = false := rfl
@[simp] theorem isNo_ow (d : AV) : isNo (.ow d) = false := rfl
@[simp] theorem frz_lst (o : Bool) (xs : List AV) : Fk.frz (.lst o xs) = some (.lst false xs) := rfl
@[simp] theorem frz_dct (o : Bool) (ks : List Key) (xs : List AV) : Fk.frz (.dct o ks xs) = some (.dct false ks xs) := rfl
@[simp] theorem loc_loc (l : Nat) : locOf (.loc l) = some l := rfl
@[simp] theorem wipe_nil (r : List Sl) : wipeSl r [] = r := rfl
@[simp] theorem wipe_cons (r : List Sl) (v : Nat) (vs : List Nat) : wipeSl r (v :: vs) = setSl (wipeSl r vs) v .no := rfl
@[simp] theorem ss_wipe (r : List Sl) (s : List AV) (vs : List Nat) : (Ss.mk r s).wipe vs = ⟨wipeSl r vs, s⟩ := rfl
/-- a call within a run -/
theorem wpC {r : List Sl} {x : Res AV (List AV)} {β : Type} {k : AV → Ss → Res β Ss} {Q : β → Ss → Prop} {E : Str → Ss → Prop} (h : WpR x (fun a S => WpR (k a ⟨r, S⟩) Q E) (fun c S => E c ⟨r, S⟩)) : WpR ((back r x).bind k) Q E := by
  cases x with
  | ok a s => exact h.out
  | err c s => exact ⟨h.out⟩
  | bad => exact h.out.elim
@[simp] theorem mkBack_ok (r : List Sl) (l : Nat) (S : List AV) : mkBack r l (.ok .non S) = .ok (.loc l) ⟨r, S⟩ := rfl
@[simp] theorem mkBack_err (r : List Sl) (l : Nat) (c : Str) (S : List AV) : mkBack r l (.err c S) = .err c ⟨r, S⟩ := rfl
/-- the end of a def -/
def retR : Res Fl Ss → Res AV (List AV)
  | .ok (.rt d) st => .ok d st.s
  | .ok .nx st => .ok .non st.s
  | .err c st => .err c st.s
  | _ => .bad
@[simp] theorem retR_rt (d : AV) (st : Ss) : retR (.ok (.rt d) st) = .ok d st.s := rfl
@[simp] theorem retR_nx (st : Ss) : retR (.ok .nx st) = .ok .non st.s := rfl
@[simp] theorem retR_err (c : Str) (st : Ss) : retR (.err c st) = .err c st.s := rfl
theorem fnM_ret (n : Nat) (body : M Fl) (xs S : List AV) : fnM n body xs S = retR (body ⟨xs.map Sl.im ++ List.replicate n .no, S⟩) := rfl
theorem wpF {n : Nat} {body : M Fl} {xs S : List AV} {Q : AV → List AV → Prop} {E : Str → List AV → Prop} (h : WpR (body ⟨xs.map Sl.im ++ List.replicate n .no, S⟩) (fun f st => match f with
    | .rt d => Q d st.s
    | .nx => Q .non st.s
    | _ => False) (fun c st => E c st.s)) : WpR (fnM n body xs S) Q E := by
  rw [fnM_ret]
  cases e : body ⟨xs.map Sl.im ++ List.replicate n .no, S⟩ with
  | ok f st =>
    rw [e] at h
    cases f with
    | rt d => exact ⟨h.out⟩
    | nx => exact ⟨h.out⟩
    | bk => exact h.out.elim
    | ct => exact h.out.elim
  | err c st => rw [e] at h; exact ⟨h.out⟩
  | bad => rw [e] at h; exact h.out.elim
/-- what comes behind a statement -/
def afS (b : M Fl) (Q : Fl → Ss → Prop) (E : Str → Ss → Prop) : Fl → Ss → Prop
  | .nx, s => WpR (b s) Q E
  | .rt d, s => Q (.rt d) s
  | .bk, s => Q .bk s
  | .ct, s => Q .ct s
@[simp] theorem afS_nx (b : M Fl) (Q : Fl → Ss → Prop) (E : Str → Ss → Prop) (s : Ss) : afS b Q E .nx s = WpR (b s) Q E := rfl
@[simp] theorem afS_rt (b : M Fl) (Q : Fl → Ss → Prop) (E : Str → Ss → Prop) (d : AV) (s : Ss) : afS b Q E (.rt d) s = Q (.rt d) s := rfl
@[simp] theorem afS_bk (b : M Fl) (Q : Fl → Ss → Prop) (E : Str → Ss → Prop) (s : Ss) : afS b Q E .bk s = Q .bk s := rfl
@[simp] theorem afS_ct (b : M Fl) (Q : Fl → Ss → Prop) (E : Str → Ss → Prop) (s : Ss) : afS b Q E .ct s = Q .ct s := rfl
theorem wpS {a b : M Fl} {st : Ss} {Q : Fl → Ss → Prop} {E : Str → Ss → Prop} (h : WpR (a st) (afS b Q E) E) : WpR (sSeq a b st) Q E := by
  show WpR ((a st).bind _) Q E
  refine wpB (wp_mono h (fun f s q => ?_) fun _ _ q => q)
  cases f with
  | nx => exact q
  | rt d => exact ⟨q⟩
  | bk => exact ⟨q⟩
  | ct => exact ⟨q⟩
/-- one of two ways -/
def altR {α β : Type} (x y : Res α β) : Res α β := match x with
  | .bad => y
  | r => r
@[simp] theorem altR_ok {α β : Type} (a : α) (s : β) (y : Res α β) : altR (.ok a s) y = .ok a s := rfl
@[simp] theorem altR_err {α β : Type} (c : Str) (s : β) (y : Res α β) : altR (.err c s) y = .err c s := rfl
@[simp] theorem altR_bad {α β : Type} (y : Res α β) : altR .bad y = y := rfl
/-- a comprehension whose items turn nothing -/
theorem wpL {t : Tg} {tt : M Bool} {te : M AV} {vs : List Nat} {st : Ss} {Q : List AV → Ss → Prop} {E : Str → Ss → Prop} {ds : List AV} (p : AV → Bool) (g : AV → AV)
    (h : ∀ d ∈ ds, ∃ s0, t d st = some s0 ∧ WpR (tt s0) (fun b s1 => b = p d ∧ (b = false → s1.wipe vs = st) ∧ (b = true → WpR (te s1) (fun x s2 => x = g d ∧ s2.wipe vs = st) noE)) noE)
    (hl : ds.length ≤ 16777216) (hQ : Q ((ds.filter p).map g) st) : WpR (compM t tt te vs ds [] st) Q E := by
  have key : ∀ (ds acc : List AV), (∀ d ∈ ds, ∃ s0, t d st = some s0 ∧ WpR (tt s0) (fun b s1 => b = p d ∧ (b = false → s1.wipe vs = st) ∧ (b = true → WpR (te s1) (fun x s2 => x = g d ∧ s2.wipe vs = st) noE)) noE) →
      acc.length + ds.length ≤ 16777216 → compM t tt te vs ds acc st = .ok (acc ++ (ds.filter p).map g) st := by
    intro ds
    induction ds with
    | nil => intro acc _ _; simp [compM]
    | cons d ds ih =>
      intro acc h hl
      have hl2 : acc.length + (ds.length + 1) ≤ 16777216 := hl
      obtain ⟨s0, e1, w⟩ := h d (by simp)
      obtain ⟨b, s1, e2, rfl, h3, h4⟩ := wp_ex w
      unfold compM
      rw [e1]
      simp only [e2]
      cases c : p d with
      | false =>
        simp only
        rw [h3 c, ih acc (fun d hd => h d (by simp [hd])) (by omega), List.filter_cons, c]
        rfl
      | true =>
        obtain ⟨x, s2, e5, rfl, e6⟩ := wp_ex (h4 c)
        simp only [e5]
        rw [if_pos (by omega), e6, ih (acc ++ [g d]) (fun d hd => h d (by simp [hd])) (by simp; omega), List.filter_cons, c]
        simp
  rw [key ds [] h (by simpa using hl)]
  exact ⟨hQ⟩
/-- a loop by what stays -/
theorem wpO {t : Tg} {body : M Fl} {st : Ss} {Q : Fl → Ss → Prop} {E : Str → Ss → Prop} {ds : List AV} (I : Nat → Ss → Prop) (h0 : I 0 st)
    (hb : ∀ (j : Nat) d st, ds[j]? = some d → I j st → ∃ s0, t d st = some s0 ∧ WpR (body s0) (fun f s => match f with
      | .nx => I (j + 1) s
      | .ct => I (j + 1) s
      | .bk => Q .nx s
      | .rt d => Q (.rt d) s) E)
    (hQ : ∀ st, I ds.length st → Q .nx st) : WpR (forM t body ds st) Q E := by
  have key : ∀ (n : Nat) (st : Ss) (k : Nat), k + n = ds.length → I k st → WpR (forM t body (ds.drop k) st) Q E := by
    intro n
    induction n with
    | zero =>
      intro st k hk hI
      have e : k = ds.length := by omega
      subst e
      rw [List.drop_length]
      exact ⟨hQ _ hI⟩
    | succ n ih =>
      intro st k hk hI
      have hk2 : k < ds.length := by omega
      rw [List.drop_eq_getElem_cons hk2]
      obtain ⟨s0, e1, w⟩ := hb k _ st (List.getElem?_eq_getElem hk2) hI
      unfold forM
      rw [e1]
      simp only
      cases e : body s0 with
      | bad => rw [e] at w; exact w.out.elim
      | err c s => rw [e] at w; exact ⟨w.out⟩
      | ok f s =>
        rw [e] at w
        cases f with
        | nx => exact ih s (k + 1) (by omega) w.out
        | ct => exact ih s (k + 1) (by omega) w.out
        | bk => exact ⟨w.out⟩
        | rt d => exact ⟨w.out⟩
  exact key ds.length st 0 (by omega) h0
end Fk
/-! ## values whose text is short -/
namespace Fk
open PySem PySem.Spec PyProof.Rows L2
structure Sh (k n : Nat) (x : AV) : Prop where
  pl : pl x = true
  sw : Sw k n (dat x)
structure Shs (k n : Nat) (xs : List AV) : Prop where
  pl : pls xs = true
  sw : SwAll k n (dats xs)
theorem sh_int {k : Nat} {i : Int} (h : i.natAbs < 2 ^ 128) : Sh k 129 (.int i) := ⟨by simp [Fk.pl], by simp only [dat]; exact sw_int h⟩
theorem sh_str {k : Nat} {x : Str} (ok : PyData.strOk x = true) : Sh k (10 * x.length + 2) (.str x) := ⟨by simp [Fk.pl], by simp only [dat]; exact sw_str ok⟩
theorem shs_nil {k : Nat} : Shs k 0 [] := ⟨by simp [pls], by simp only [dats]; exact swa_nil⟩
theorem shs_cons {k n m : Nat} {x : AV} {xs : List AV} (h : Sh k n x) (r : Shs k m xs) : Shs k (n + 2 + m) (x :: xs) := ⟨by simp [pls, h.pl, r.pl], by simp only [dats]; exact swa_cons h.sw r.sw⟩
theorem sh_lst {k n : Nat} {o : Bool} {xs : List AV} (h : Shs k n xs) : Sh (k + 1) (n + 3) (.lst o xs) := ⟨by simp [Fk.pl, h.pl], by simp only [dat]; exact sw_lst h.sw⟩
theorem Sw.mono {k k' n n' : Nat} {d : PyData} (h : Sw k n d) (hk : k ≤ k') (hn : n ≤ n') : Sw k' n' d := ⟨h.lay, Nat.le_trans h.dep hk, h.shw, Nat.le_trans h.len hn⟩
theorem Sh.mono {k k' n n' : Nat} {x : AV} (h : Sh k n x) (hk : k ≤ k') (hn : n ≤ n') : Sh k' n' x := ⟨h.pl, h.sw.mono hk hn⟩
theorem shs_all {k n : Nat} : ∀ {xs : List AV}, (∀ x ∈ xs, Sh k n x) → Shs k ((n + 2) * xs.length) xs
  | [], _ => shs_nil
  | x :: xs, h => by
    have e := shs_cons (h x (by simp)) (shs_all (xs := xs) fun y hy => h y (by simp [hy]))
    have : n + 2 + (n + 2) * xs.length = (n + 2) * (x :: xs).length := by
      rw [List.length_cons, Nat.mul_succ, Nat.add_comm]
    rw [← this]
    exact e
theorem Sh.okA {k n : Nat} {x : AV} (h : Sh k n x) (hk : k ≤ 60) : okA x = true := by
  unfold Fk.okA
  rw [h.pl, h.sw.shaped hk]
  rfl
end Fk
namespace Fk
/-- a map that goes with sums without carrying -/
def Lin (f : Nat → Nat) : Prop := ∀ a b, f (a ^^^ b) = f a ^^^ f b
theorem Lin.zero {f : Nat → Nat} (h : Lin f) : f 0 = 0 := by
  have := h 0 0
  rw [Nat.xor_self, Nat.xor_self] at this
  exact this
theorem Lin.id : Lin fun a => a := fun _ _ => rfl
theorem Lin.and (m : Nat) {f : Nat → Nat} (hf : Lin f) : Lin fun a => f a &&& m := fun a b => by
  show f (a ^^^ b) &&& m = _
  rw [hf, Nat.and_xor_distrib_right]
theorem Lin.mod (k : Nat) {f : Nat → Nat} (hf : Lin f) : Lin fun a => f a % 2 ^ k := fun a b => by
  show f (a ^^^ b) % 2 ^ k = _
  rw [hf, Nat.xor_mod_two_pow]
/-- runs_of: (first, many) -/
def runsGo : Nat → Nat → Nat → List (Nat × Nat)
  | 0, _, _ => []
  | n + 1, left, check => if 0 < left then (check + 1, min (check - 1) left) :: runsGo n (left - min (check - 1) left) (2 * check) else []
def runs (w : Nat) : List (Nat × Nat) := runsGo 8 w 2
def putX : Nat → Nat → Nat → Nat
  | 0, _, _ => 0
  | n + 1, c, x => ((x >>> c) % 2 ^ 1) <<< (2 ^ c) ^^^ putX n (c + 1) x
section
variable {w n : Nat} (h1 : 1 ≤ w) (h2 : w ≤ 57) (hn : n < 2 ^ w)
include h1 h2 hn
end
/-- opened_by -/
inductive Op | good (n : Nat) | mended (n b : Nat) | spoilt
  deriving DecidableEq
section
variable {w n : Nat} (h1 : 1 ≤ w) (h2 : w ≤ 57) (hn : n < 2 ^ w)
include h1 h2 hn
end
end Fk
namespace Fk
/-! ## the law's own words of seals -/
/-- the numbers of the bits that are 1, put together -/
def wr (n k : Nat) : Nat := if h : n = 0 then 0 else (if n % 2 = 1 then k else 0) ^^^ wr (n / 2) (k + 1)
termination_by n
decreasing_by omega
section
variable {w n : Nat} (h1 : 1 ≤ w) (h2 : w ≤ 57) (hn : n < 2 ^ w)
include h1 h2 hn
end
end Fk
/-! ## a number read bit by bit; all words of small widths -/
namespace Fk
end Fk
/-! ## fields of pages, as numbers -/
namespace Fk
structure F5 where
  k : Nat
  p : Nat
  n : Nat
  g : Nat
  d : Nat
  deriving DecidableEq
def okF (f : F5) : Prop := f.k < 4 ∧ f.p ≤ 15 ∧ f.n ≤ 16383 ∧ f.g ≤ 16383 ∧ f.d ≤ 63 ∧ (f.k = 3 → f.p = 0 ∧ f.d = 0) ∧ (f.k ≠ 3 → (f.g = 0 ∨ f.k = 2) ∧ (f.d = 0 ∨ f.k ≠ 1))
instance (f : F5) : Decidable (okF f) := by unfold okF; exact inferInstance
end Fk
/-! ## plain facts of the evaluator's functions -/
namespace Fk
open PySem PySem.Spec PyProof.Rows L2
@[simp] theorem setSl0 (a b : Sl) (r : List Sl) : setSl (a :: r) 0 b = b :: r := rfl
@[simp] theorem setSlS (a b : Sl) (r : List Sl) (n : Nat) : setSl (a :: r) (n + 1) b = a :: setSl r n b := rfl
theorem ixN_nn {n : Nat} {k : Int} (h : 0 ≤ k) : ixN n k = if k < n then some k.toNat else none := by
  unfold ixN
  rw [if_pos h]
theorem atI_nn {α : Type} {xs : List α} {k : Int} (h : 0 ≤ k) : atI xs k = xs[k.toNat]? := by
  unfold atI
  rw [ixN_nn h]
  by_cases c : k < xs.length
  · rw [if_pos c]; rfl
  · rw [if_neg c, List.getElem?_eq_none (by omega)]; rfl
theorem atI_nat {α : Type} {xs : List α} {k : Nat} : atI xs (k : Int) = xs[k]? := by rw [atI_nn (by omega)]; simp
theorem setS_self (S : List AV) (l : Nat) (d : AV) : (S.set l d)[l]? = (S[l]?).map fun _ => d := by
  by_cases h : l < S.length
  · rw [List.getElem?_set_self h, List.getElem?_eq_getElem h]; rfl
  · rw [List.getElem?_eq_none (by rw [List.length_set]; omega), List.getElem?_eq_none (by omega)]; rfl
def iA (n : Nat) : AV := .int n
def nA : AV → Nat
  | .int n => n.toNat
  | _ => 0
@[simp] theorem nA_iA (n : Nat) : nA (iA n) = n := by simp [nA, iA]
theorem rng_nat {n : Nat} (h : n ≤ 1000) : rng1 [.int n] = some ((List.range n).map iA) := by
  have h1 : (-(2 ^ 62) ≤ (n : Int) ∧ (n : Int) < 2 ^ 62) := by omega
  have h2 : rng1 [.int n] = if -(2 ^ 62) ≤ (n : Int) ∧ (n : Int) < 2 ^ 62 then some (rngL 0 n) else none := rfl
  rw [h2, if_pos h1]
  unfold rngL
  simp [iA]
theorem f_min2 (S : List AV) (i j : Int) : fMin2 S [.int i, .int j] = some (.int (min i j)) := by
  have h : fMin2 S [.int i, .int j] = some (.int (if j < i then j else i)) := rfl
  rw [h]
  congr 2
  split <;> omega
theorem f_max2 (S : List AV) (i j : Int) : fMax2 S [.int i, .int j] = some (.int (max i j)) := by
  have h : fMax2 S [.int i, .int j] = some (.int (if j > i then j else i)) := rfl
  rw [h]
  congr 2
  split <;> omega
theorem asBs_bls : ∀ bs : List Bool, asBs (bs.map AV.bl) = some bs
  | [] => rfl
  | b :: bs => by simp [asBs, asBs_bls bs]
theorem f_all (S : List AV) (o : Bool) (bs : List Bool) : fAll S [.lst o (bs.map AV.bl)] = some (.bl (bs.all id)) := by
  unfold fAll lsOf
  simp only [Option.bind_some, asBs_bls, Option.map_some]
theorem a_add (a b : Nat) : oAdd (.int a) (.int b) = some (.int ((a + b : Nat) : Int)) := by
  show some (AV.int ((a : Int) + b)) = _
  simp
theorem a_mul {a b : Nat} (h : a < 2 ^ 64) : oMul (.int a) (.int b) = some (.int ((a * b : Nat) : Int)) := by
  have h2 : oMul (.int a) (.int b) = if cMul a b then some (.int ((a : Int) * b)) else none := rfl
  have c : cMul a b = true := by
    unfold cMul
    simp
    omega
  rw [h2, if_pos c]
  simp
theorem a_sub {a b : Nat} (h : b ≤ a) : oSub (.int a) (.int b) = some (.int ((a - b : Nat) : Int)) := by
  have h2 : oSub (.int a) (.int b) = some (.int ((a : Int) - b)) := rfl
  rw [h2]
  congr 2
  omega
end Fk
namespace Fk
open PySem PySem.Spec PyProof.Rows L2
end Fk
/-! ## seals -/
namespace Fk
open PySem PySem.Spec PyProof.Rows L2
section
variable {S : List AV}
theorem x_is_within {a lo hi : Int} : m_is_within [.int a, .int lo, .int hi] S = .ok (.bl (decide (lo ≤ a) && decide (a ≤ hi))) S := by
  by_cases h : lo ≤ a <;> simp [h, m_is_within, m_is_whole, fnM, okT, isT, asB, oLe, oNot]
end
end Fk
/-! ## pages -/
namespace Fk
open PySem PySem.Spec PyProof.Rows L2
section
variable {S : List AV}
theorem i_tup {x : List AV} : isT "tuple" (.tup x) = true := by rfl
end
end Fk
/-! ## numbers of fields, words -/
namespace Fk
open PySem PySem.Spec PyProof.Rows L2
section
variable {S : List AV}
end
end Fk
namespace Fk
open PySem PySem.Spec PyProof.Rows L2
section
variable {S : List AV}
end
end Fk
/-! ## flash -/
namespace Fk
open PySem PySem.Spec PyProof.Rows L2
/-- what a page holds -/
inductive Cl where
  | bk | tn | wd (n : Nat)
  deriving DecidableEq
def Cl.av : Cl → AV
  | .bk => .non
  | .tn => .str "torn"
  | .wd n => .int n
inductive Flt where
  | fine | cut | bad | bit (i : Nat)
  deriving DecidableEq
def Flt.av : Flt → AV
  | .fine => .tup [.str "fine"]
  | .cut => .tup [.str "cut"]
  | .bad => .tup [.str "bad"]
  | .bit i => .tup [.str "bit", .int i]
structure Fsh where
  cells : List (List Cl)
  worn : List Nat
  failed : List Bool
  faults : List (Nat × Flt)
  count : Nat
  power : Bool
def fshK : List Str := ["cells", "worn", "failed", "faults", "count", "power"]
def rowA (r : List Cl) : AV := .lst true (r.map Cl.av)
def Fsh.fd (F : Fsh) : AV := .dct false (F.faults.map fun p => .inl (p.1 : Int)) (F.faults.map fun p => p.2.av)
def Fsh.av (F : Fsh) : AV := .ins "Flash" fshK [.nst (F.cells.map rowA), .lst true (F.worn.map iA), .lst true (F.failed.map AV.bl), F.fd, .int F.count, .bl F.power]
/-- the fault of a step -/
def Fsh.ft (F : Fsh) : Flt := ((F.faults.find? fun p => decide (p.1 = F.count)).map (·.2)).getD .fine
section
variable {S : List AV} {l : Nat} {F : Fsh}
variable {C : AV}
end
end Fk
/-! ## flash: write -/
namespace Fk
open PySem PySem.Spec PyProof.Rows L2
section
variable {S : List AV} {l : Nat} {F : Fsh}
/-- what is turned: the object at l alone, and what is new -/
structure Up (S : List AV) (l : Nat) (x : AV) (S' : List AV) : Prop where
  at_ : S'[l]? = some x
  len : S.length ≤ S'.length
  keep : ∀ i, i ≠ l → i < S.length → S'[i]? = S[i]?
theorem Up.set {x : AV} (h : l < S.length) : Up S l x (S.set l x) := ⟨by simp [h], by simp, fun i hi _ => by rw [List.getElem?_set_ne (fun z => hi z.symm)]⟩
theorem Up.app {x : AV} {S' T : List AV} (u : Up S l x S') (hl : l < S.length) : Up S l x (S' ++ T) :=
  ⟨by rw [List.getElem?_append_left (Nat.lt_of_lt_of_le hl u.len)]; exact u.at_, by simp; have := u.len; omega, fun i hi h => by rw [List.getElem?_append_left (Nat.lt_of_lt_of_le h u.len)]; exact u.keep i hi h⟩
theorem Up.tr {x y : AV} {S1 S2 : List AV} (u : Up S l x S1) (v : Up S1 l y S2) : Up S l y S2 :=
  ⟨v.at_, Nat.le_trans u.len v.len, fun i hi h => by rw [v.keep i hi (Nat.lt_of_lt_of_le h u.len), u.keep i hi h]⟩
theorem Up.refl {x : AV} (h : S[l]? = some x) : Up S l x S := ⟨h, Nat.le_refl _, fun _ _ _ => rfl⟩
theorem Up.oth {x y : AV} {S' : List AV} {i : Nat} (u : Up S l x S') (h : S[i]? = some y) (hi : i ≠ l) : S'[i]? = some y := by
  rw [u.keep i hi (List.getElem?_eq_some_iff.mp h).1, h]
theorem lt_at {x : AV} (h : S[l]? = some x) : l < S.length := (List.getElem?_eq_some_iff.mp h).1
section
variable {x y z : AV} (hl : l < S.length)
include hl
end
/-- a write -/
def Fsh.wrR (F : Fsh) (b p w : Nat) (r : List Cl) : Res Bool Fsh := match F.ft with
  | .cut => .err "Off" { F with count := F.count + 1, cells := F.cells.set b (r.set p .tn), power := false }
  | .bad => .ok false { F with count := F.count + 1, failed := F.failed.set b true }
  | .bit i => .ok true { F with count := F.count + 1, cells := F.cells.set b (r.set p (.wd (w ^^^ 2 ^ i))) }
  | .fine => .ok true { F with count := F.count + 1, cells := F.cells.set b (r.set p (.wd w)) }
def Fsh.wr (F : Fsh) (b p w : Nat) : Res Bool Fsh := match F.cells[b]?, F.failed[b]? with
  | some r, some fb => if F.power = false then .err "Off" F else
    if r.countP (fun c => decide (c = .bk)) + p ≠ r.length ∨ r[p]? ≠ some .bk then .err "Written" F else
    if fb then .err "Bad" F else F.wrR b p w r
  | _, _ => .bad

end
end Fk
/-! ## flash: wipe at once; weathers; making -/
namespace Fk
open PySem PySem.Spec PyProof.Rows L2
theorem wp_eq {α β : Type} {x : Res α β} {v : α} {s : β} (h : WpR x (fun a t => a = v ∧ t = s) noE) : x = .ok v s := by
  obtain ⟨a, t, e, rfl, rfl⟩ := wp_ex h
  exact e
section
variable {S : List AV} {l : Nat} {F : Fsh}
def Fsh.wi (F : Fsh) (b : Nat) : Res Bool Fsh := match F.cells[b]?, F.failed[b]?, F.worn[b]? with
  | some r, some fb, some n => if F.power = false then .err "Off" F else if fb then .err "Bad" F else match F.ft with
    | .cut => .err "Off" { F with count := F.count + 1, cells := F.cells.set b (List.replicate r.length .tn), power := false }
    | .bad => .ok false { F with count := F.count + 1, failed := F.failed.set b true }
    | _ => .ok true { F with count := F.count + 1, cells := F.cells.set b (List.replicate r.length .bk), worn := F.worn.set b (n + 1) }
  | _, _, _ => .bad
end
end Fk
/-! ## flash: making -/
namespace Fk
open PySem PySem.Spec PyProof.Rows L2
section
variable {S : List AV} {l : Nat} {F : Fsh}
end
end Fk
/-! ## draws, frames -/
namespace Fk
open PySem PySem.Spec PyProof.Rows L2
/-- what is kept: all but the objects of L -/
structure Fr (L : List Nat) (S S' : List AV) : Prop where
  len : S.length ≤ S'.length
  keep : ∀ i, i ∉ L → i < S.length → S'[i]? = S[i]?
theorem Fr.refl (L : List Nat) (S : List AV) : Fr L S S := ⟨Nat.le_refl _, fun _ _ _ => rfl⟩
theorem Fr.tr {L : List Nat} {S S1 S2 : List AV} (a : Fr L S S1) (b : Fr L S1 S2) : Fr L S S2 := ⟨Nat.le_trans a.len b.len, fun i hi h => by rw [b.keep i hi (Nat.lt_of_lt_of_le h a.len), a.keep i hi h]⟩
theorem Fr.mono {L L' : List Nat} {S S1 : List AV} (a : Fr L S S1) (h : ∀ i ∈ L, i ∈ L') : Fr L' S S1 := ⟨a.len, fun i hi => a.keep i fun z => hi (h i z)⟩
theorem Fr.oth {L : List Nat} {S S' : List AV} {i : Nat} {y : AV} (u : Fr L S S') (h : S[i]? = some y) (hi : i ∉ L) : S'[i]? = some y := by rw [u.keep i hi (lt_at h), h]
theorem Up.fr {S S' : List AV} {l : Nat} {x : AV} (u : Up S l x S') : Fr [l] S S' := ⟨u.len, fun i hi => u.keep i (by simpa using hi)⟩
theorem Fr.app (L : List Nat) (S T : List AV) : Fr L S (S ++ T) := ⟨by simp, fun i _ h => by rw [List.getElem?_append_left h]⟩
theorem x_choice {a b c n : Int} {l : Nat} {S : List AV} (hS : S[l]? = some (.lst true [.int a, .int b, .int c])) (hb : 0 ≤ b) (hb2 : b < 2 ^ 40) (hn : 0 < n) (hn2 : n < 2 ^ 63) : ∃ r a' b' c', 0 ≤ r ∧ r < n ∧ 0 ≤ b' ∧ b' < 2 ^ 40 ∧ m__law_choice [.loc l, .int n] S = .ok (.int r) (S.set l (.lst true [.int a', .int b', .int c'])) := by
  have hn3 : n < 18446744073709551616 := by omega
  unfold m__law_choice
  by_cases h : 0 < a
  · refine ⟨a % n, a / n, b, c, Int.emod_nonneg _ (by omega), Int.emod_lt_of_pos _ hn, hb, hb2, ?_⟩
    simp [h, hS, hn, hn3, fnM, ixA, deref, itA, seqA, atI_nn, ixN_nn, oGt, imm, oMod, oFdv, locOf, getPl, setPl, setZ, setIx, asI]
  · have h1 : ∀ z : Int, 0 ≤ z % 2147483647 ∧ z % 2147483647 < 2147483647 := fun z => ⟨Int.emod_nonneg _ (by omega), Int.emod_lt_of_pos _ (by omega)⟩
    have h2 : ∀ z : Int, 0 ≤ z % 2147483629 ∧ z % 2147483629 < 2147483629 := fun z => ⟨Int.emod_nonneg _ (by omega), Int.emod_lt_of_pos _ (by omega)⟩
    have cm : ∀ x y : Int, 0 ≤ x → x < 2147483647 → cMul x y = true := fun x y p q => by
      unfold cMul
      simp
      omega
    have cm2 : ∀ x y : Int, 0 ≤ y → y < 2147483647 → cMul x y = true := fun x y p q => by
      unfold cMul
      simp
      omega
    obtain ⟨b1, eb1⟩ : ∃ z, z = (b * 48271 + 29 + (c + 1)) % 2147483647 := ⟨_, rfl⟩
    obtain ⟨z1, ez1⟩ : ∃ z, z = (b1 * b1 + 39373 * b1 + 7) % 2147483629 := ⟨_, rfl⟩
    have p1 := h1 (b * 48271 + 29 + (c + 1))
    have p2 := h2 (b1 * b1 + 39373 * b1 + 7)
    rw [← eb1] at p1
    rw [← ez1] at p2
    refine ⟨(z1 * z1 + 50021 * z1) % 2147483587 / 8 % n, a, b1, c + 1, Int.emod_nonneg _ (by omega), Int.emod_lt_of_pos _ hn, p1.1, by omega, ?_⟩
    have c1 := cm2 b 48271 (by omega) (by omega)
    have c2 := cm b1 b1 p1.1 p1.2
    have c3 := cm 39373 b1 (by omega) (by omega)
    have c4 := cm z1 z1 p2.1 (by omega)
    have c5 := cm 50021 z1 (by omega) (by omega)
    simp [h, hS, hn, hn3, fnM, ixA, deref, itA, seqA, atI_nn, ixN_nn, oGt, imm, oMod, oFdv, locOf, getPl, setPl, setZ, setIx, asI, oAdd, oMul, setS_self, c1, c2, c3, c4, c5, ← eb1, ← ez1]
/-- the draws' row at l -/
def Dr (S : List AV) (l : Nat) : Prop := ∃ a b c : Int, S[l]? = some (.lst true [.int a, .int b, .int c]) ∧ 0 ≤ b ∧ b < 2 ^ 40
theorem Dr.fr {L : List Nat} {S S' : List AV} {l : Nat} (h : Dr S l) (f : Fr L S S') (hl : l ∉ L) : Dr S' l := by
  obtain ⟨a, b, c, e, r⟩ := h
  exact ⟨a, b, c, f.oth e hl, r⟩
theorem w_choice {S : List AV} {l : Nat} {n : Int} {Q : AV → List AV → Prop} {E : Str → List AV → Prop} (h : Dr S l) (hn : 0 < n) (hn2 : n < 2 ^ 40) (k : ∀ (r : Nat) (S' : List AV), (r : Int) < n → Dr S' l → Fr [l] S S' → Q (.int r) S') : WpR (m__law_choice [.loc l, .int n] S) Q E := by
  obtain ⟨a, b, c, e, h0, h1⟩ := h
  obtain ⟨r, a', b', c', p1, p2, p3, p4, p5⟩ := x_choice e h0 h1 hn (by omega)
  obtain ⟨r, rfl⟩ := Int.eq_ofNat_of_zero_le p1
  have u : Up S l (.lst true [.int a', .int b', .int c']) _ := Up.set (lt_at e)
  exact wp_of p5 (k r _ p2 ⟨a', b', c', u.at_, p3, p4⟩ u.fr)
theorem x_cell {ns : List Int} {k : Nat} {S : List AV} : ∃ c : Int, m__law_cell_at [.scr (ns.map AV.int), .int k] S = .ok (.int c) S := by
  by_cases h : k < ns.length
  · refine ⟨ns[k], ?_⟩
    have h2 : (k : Int) < ns.length := by omega
    have e : (ns.map AV.int)[k]? = some (.int ns[k]) := by simp [h]
    have g3 : ixA S (.scr (ns.map AV.int)) (.int k) = some (.int ns[k]) := by simp [ixA, deref, itA, seqA, atI_nn, h]
    simp (implicitDefEqProofs := false) [m__law_cell_at, fnM, fLen, deref, lenA, oLt, h2, g3, imm]
    try omega
  · refine ⟨0, ?_⟩
    have h2 : ¬ (k : Int) < ns.length := by omega
    simp (implicitDefEqProofs := false) [m__law_cell_at, fnM, fLen, deref, lenA, oLt, h2]
    try omega
theorem x_state {ns : List Int} {k : Nat} {S : List AV} : ∃ z : AV, m__law_state [.scr (ns.map AV.int), .int k] S = .ok (.loc S.length) (S ++ [z]) ∧ Dr (S ++ [z]) S.length := by
  obtain ⟨c, e⟩ := x_cell (ns := ns) (k := k) (S := S)
  have hm : 0 ≤ c % 2147483629 ∧ c % 2147483629 < 2147483629 := ⟨Int.emod_nonneg _ (by omega), Int.emod_lt_of_pos _ (by omega)⟩
  refine ⟨.lst true [.int (max 0 (c - 10 ^ 18)), .int (c % 2147483629 + 1), .int 0], ?_, _, _, _, by simp; exact ⟨rfl, rfl, rfl⟩, by omega, by omega⟩
  simp (implicitDefEqProofs := false) [m__law_state, fnM, e, oPow, cPow, oSub, fMax2, oMod, oAdd, ownA]
  split <;> omega
theorem w_state {ns : List Int} {k : Nat} {S : List AV} {Q : AV → List AV → Prop} {E : Str → List AV → Prop} (h : ∀ S' : List AV, Dr S' S.length → Fr [] S S' → Q (.loc S.length) S') : WpR (m__law_state [.scr (ns.map AV.int), .int k] S) Q E := by
  obtain ⟨z, e, d⟩ := x_state (ns := ns) (k := k) (S := S)
  exact wp_of e (h _ d (Fr.app _ _ _))
end Fk
/-! ## dicts by numbers, plainly -/
namespace Fk
open PySem PySem.Spec PyProof.Rows L2
@[simp] theorem g_N (i : Nat) (d : AV) (r : List Sl) (s : List AV) : gN i d ⟨r, s⟩ = some ⟨setSl r i (.im d), s⟩ := rfl
@[simp] theorem g_nil (st : Ss) : gNil' [] st = some st := rfl
@[simp] theorem g_cons (t : Tg) (u : List AV → Ss → Option Ss) (d : AV) (ds : List AV) (st : Ss) : gCons' t u (d :: ds) st = (t d st).bind fun s1 => u ds s1 := rfl
@[simp] theorem g_T (n : Nat) (u : List AV → Ss → Option Ss) (xs : List AV) (st : Ss) (h : xs.length = n) : gT n u (.tup xs) st = u xs st := by
  unfold gT
  simp [h]
@[simp] theorem nis_non : oNis .non .non = some (.bl false) := rfl
@[simp] theorem is_non : oIs .non .non = some (.bl true) := rfl
section
variable {α : Type} (e : α → AV)
end
theorem rng_mem {n : Nat} {j : Nat} {d : AV} (h : ((List.range n).map iA)[j]? = some d) : d = .int j ∧ j < n := by
  rw [List.getElem?_map] at h
  cases e : (List.range n)[j]? with
  | none => rw [e] at h; cases h
  | some m =>
    rw [e] at h
    have := List.getElem?_eq_some_iff.mp e
    obtain ⟨hl, hm⟩ := this
    simp at hl hm
    subst hm
    cases h
    exact ⟨rfl, hl⟩
end Fk
/-! ## plans, fields, weathers drawn -/
namespace Fk
open PySem PySem.Spec PyProof.Rows L2
structure Pln where
  b : Nat
  p : Nat
  q : Nat
  s : Bool
  c : Bool
def Pln.av (P : Pln) : AV := .tup [.int P.b, .int P.p, .int P.q, .bl P.s, .bl P.c]
structure okP (P : Pln) : Prop where
  b3 : 3 ≤ P.b
  b8 : P.b ≤ 8
  p2 : 2 ≤ P.p
  p8 : P.p ≤ 8
  q1 : 1 ≤ P.q
  q16 : P.q ≤ 16
  qs : P.q + 5 ≤ (P.b - 2) * P.p
theorem ix_l (S : List AV) (o : Bool) (xs : List AV) (r : Nat) : ixA S (.lst o xs) (.int r) = xs[r]? := by simp [ixA, deref, itA, seqA, atI_nat]
theorem ix_t (S : List AV) (xs : List AV) (r : Nat) : ixA S (.tup xs) (.int r) = xs[r]? := by simp [ixA, deref, itA, seqA, atI_nat]
section
variable {S : List AV} {l : Nat} {Q : AV → List AV → Prop} {E : Str → List AV → Prop}
end
end Fk
-- base: k20
/-! ## data with empty dicts within, how much they weigh -/
namespace Fk
open PySem PySem.Spec PyProof.Rows L2
/-- plain signs -/
def ascB (z : Str) : Bool := z.cps.all (· < 128)
theorem asc_ok {z : Str} (h : ascB z = true) : PyData.strOk z = true := by
  unfold ascB at h
  unfold PyData.strOk
  rw [Array.all_eq_true'] at h ⊢
  intro x hx
  have := h x hx
  simp at this ⊢
  omega
theorem up_asc : ∀ c, c < 128 → (Unicode.upperOf c).all (fun x => decide (x < 128)) = true := by decide +kernel
theorem asc_upper {z : Str} (h : ascB z = true) : ascB (Txt.upper z) = true := by
  unfold ascB at h ⊢
  rw [Array.all_eq_true'] at h ⊢
  intro x hx
  have e : (Txt.upper z).cps = (z.cps.mapIdx fun _ c => (Unicode.upperOf c).toArray).flatten := rfl
  rw [e, Array.mem_flatten] at hx
  obtain ⟨l, hl, hx⟩ := hx
  rw [Array.mem_mapIdx] at hl
  obtain ⟨i, hi, rfl⟩ := hl
  have h1 := h _ (Array.getElem_mem hi)
  simp only [decide_eq_true_eq] at h1
  have := up_asc _ h1
  rw [List.all_eq_true] at this
  exact this x (by simpa using hx)
mutual
def wX : AV → Nat
  | .tup xs => wXs xs + 3
  | .lst _ xs => wXs xs + 3
  | .str z => 10 * z.length + 2
  | _ => 129
def wXs : List AV → Nat
  | [] => 0
  | x :: xs => wX x + 2 + wXs xs
end
mutual
def dX : AV → Nat
  | .tup xs => dXs xs + 1
  | .lst _ xs => dXs xs + 1
  | .dct _ _ _ => 1
  | _ => 0
def dXs : List AV → Nat
  | [] => 0
  | x :: xs => max (dX x) (dXs xs)
end
mutual
/-- plain data, empty dicts, nothing owned -/
def gX (b : Nat) : AV → Bool
  | .non => true
  | .bl _ => true
  | .int i => decide (i.natAbs < b)
  | .str z => ascB z
  | .tup xs => gXs b xs
  | .lst o xs => !o && gXs b xs
  | .dct o ks xs => !o && (ks.isEmpty && xs.isEmpty)
  | _ => false
def gXs (b : Nat) : List AV → Bool
  | [] => true
  | x :: xs => gX b x && gXs b xs
end
structure SwX (k n : Nat) (d : PyData) : Prop where
  dep : d.depth ≤ k
  shw : d.showable = true
  len : d.shown.length ≤ n
structure SwXs (k n : Nat) (ds : List PyData) : Prop where
  dep : PyData.depthAll ds ≤ k
  shw : PyData.showableAll ds = true
  len : ((PyData.shownAll ds).map (·.length)).sum + 2 * (PyData.shownAll ds).length ≤ n
theorem Sw.x {k n : Nat} {d : PyData} (h : Sw k n d) : SwX k n d := ⟨h.dep, h.shw, h.len⟩
theorem swx_nil {k : Nat} : SwXs k 0 [] := ⟨Nat.zero_le _, rfl, by simp [PyData.shownAll]⟩
theorem swx_cons {k n m : Nat} {d : PyData} {ds : List PyData} (h : SwX k n d) (r : SwXs k m ds) : SwXs k (n + 2 + m) (d :: ds) := by
  refine ⟨?_, by simp [PyData.showableAll, h.shw, r.shw], ?_⟩
  · have := h.dep
    have := r.dep
    simp only [PyData.depthAll]
    omega
  · have := h.len
    have := r.len
    simp only [PyData.shownAll, List.map_cons, List.sum_cons, List.length_cons]
    omega
theorem swx_tup {k n : Nat} {ds : List PyData} (h : SwXs k n ds) : SwX (k + 1) (n + 3) (.tuple ds) := by
  refine ⟨by have := h.dep; simp only [PyData.depth]; omega, by simpa [PyData.showable] using h.shw, ?_⟩
  have := tupleText_len_le (PyData.shownAll ds)
  have := h.len
  simp only [PyData.shown]
  omega
theorem swx_lst {k n : Nat} {ds : List PyData} (h : SwXs k n ds) : SwX (k + 1) (n + 3) (.list ds) := by
  refine ⟨by have := h.dep; simp only [PyData.depth]; omega, by simpa [PyData.showable] using h.shw, ?_⟩
  have := listText_len_le (PyData.shownAll ds)
  have := h.len
  simp only [PyData.shown]
  omega
theorem swx_dct {k : Nat} : SwX (k + 1) 2 (.dict []) := ⟨by simp [PyData.depth, PyData.depthKv], rfl, by decide +kernel⟩
theorem SwX.mono {k k' n n' : Nat} {d : PyData} (h : SwX k n d) (hk : k ≤ k') (hn : n ≤ n') : SwX k' n' d := ⟨Nat.le_trans h.dep hk, h.shw, Nat.le_trans h.len hn⟩
structure ShX (k n : Nat) (x : AV) : Prop where
  pl : plX x = true
  sw : SwX k n (datX x)
structure ShXs (k n : Nat) (xs : List AV) : Prop where
  pl : plsX xs = true
  sw : SwXs k n (datsX xs)
theorem ShX.mono {k k' n n' : Nat} {x : AV} (h : ShX k n x) (hk : k ≤ k') (hn : n ≤ n') : ShX k' n' x := ⟨h.pl, h.sw.mono hk hn⟩
theorem fRepX_ok {k n : Nat} {x : AV} {S : List AV} (h : ShX k n x) (hk : k ≤ 60) (hn : n ≤ 16000000) : fRepX S [x] = some (.str (datX x).shown) := by
  unfold fRepX
  have h1 : (datX x).depth ≤ 60 := Nat.le_trans h.sw.dep hk
  have h3 : (datX x).shown.length ≤ 16777216 := Nat.le_trans h.sw.len (Nat.le_trans hn (by decide))
  simp [h.pl, h.sw.shw, h1, h3]
mutual
theorem shX_g {b : Nat} (hb : b ≤ 2 ^ 128) : ∀ (x : AV) (k : Nat), gX b x = true → dX x ≤ k → ShX k (wX x) x
  | .non, k, _, _ => ⟨by simp [plX], by simp only [datX]; exact sw_none.x.mono (Nat.le_refl _) (by simp [wX])⟩
  | .bl z, k, _, _ => ⟨by simp [plX], by simp only [datX]; exact (sw_bool z).x.mono (Nat.le_refl _) (by simp [wX])⟩
  | .int i, k, h, _ => by
    have h1 : i.natAbs < b := by simpa [gX] using h
    have : i.natAbs < 2 ^ 128 := by omega
    exact ⟨by simp [plX], by simp only [datX]; exact (sw_int this).x.mono (Nat.le_refl _) (by simp [wX])⟩
  | .str z, k, h, _ => by
    have : PyData.strOk z = true := asc_ok (by simpa [gX] using h)
    exact ⟨by simp [plX], by simp only [datX]; exact (sw_str this).x.mono (Nat.le_refl _) (by simp [wX])⟩
  | .tup xs, k, h, hd => by
    have h1 : gXs b xs = true := by simpa [gX] using h
    have h2 : dXs xs + 1 ≤ k := by simpa [dX] using hd
    obtain ⟨j, rfl⟩ : ∃ j, k = j + 1 := ⟨k - 1, by omega⟩
    have := shXs_g hb xs j h1 (by omega)
    exact ⟨by simpa [plX] using this.pl, by simp only [datX]; exact (swx_tup this.sw).mono (Nat.le_refl _) (by simp [wX])⟩
  | .lst o xs, k, h, hd => by
    have h1 : o = false ∧ gXs b xs = true := by simpa [gX] using h
    have h2 : dXs xs + 1 ≤ k := by simpa [dX] using hd
    obtain ⟨j, rfl⟩ : ∃ j, k = j + 1 := ⟨k - 1, by omega⟩
    have := shXs_g hb xs j h1.2 (by omega)
    exact ⟨by simpa [plX] using this.pl, by simp only [datX]; exact (swx_lst this.sw).mono (Nat.le_refl _) (by simp [wX])⟩
  | .dct o ks xs, k, h, hd => by
    have h1 : o = false ∧ ks = [] ∧ xs = [] := by simpa [gX] using h
    have h2 : 1 ≤ k := by simpa [dX] using hd
    obtain ⟨rfl, rfl, rfl⟩ := h1
    obtain ⟨j, rfl⟩ : ∃ j, k = j + 1 := ⟨k - 1, by omega⟩
    exact ⟨rfl, by simp only [datX]; exact swx_dct.mono (Nat.le_refl _) (by simp [wX])⟩
  | .scr _, _, h, _ => by simp [gX] at h
  | .nst _, _, h, _ => by simp [gX] at h
  | .ndc _ _, _, h, _ => by simp [gX] at h
  | .ins _ _ _, _, h, _ => by simp [gX] at h
  | .loc _, _, h, _ => by simp [gX] at h
  | .ded, _, h, _ => by simp [gX] at h
  | .set _, _, h, _ => by simp [gX] at h
  | .tud _, _, h, _ => by simp [gX] at h
theorem shXs_g {b : Nat} (hb : b ≤ 2 ^ 128) : ∀ (xs : List AV) (k : Nat), gXs b xs = true → dXs xs ≤ k → ShXs k (wXs xs) xs
  | [], k, _, _ => ⟨rfl, by simp only [datsX]; exact swx_nil⟩
  | x :: xs, k, h, hd => by
    have h1 : gX b x = true ∧ gXs b xs = true := by simpa [gXs] using h
    have h2 : max (dX x) (dXs xs) ≤ k := by simpa [dXs] using hd
    have a := shX_g hb x k h1.1 (by omega)
    have c := shXs_g hb xs k h1.2 (by omega)
    exact ⟨by simp [plsX, a.pl, c.pl], by simp only [datsX, wXs]; exact swx_cons a.sw c.sw⟩
end
/-- a thing -/
structure TX (b k n : Nat) (x : AV) : Prop where
  g : gX b x = true
  d : dX x ≤ k
  w : wX x ≤ n
structure TXs (b k n : Nat) (xs : List AV) : Prop where
  g : gXs b xs = true
  d : dXs xs ≤ k
  w : wXs xs ≤ n
section
variable {x : AV} {xs ys : List AV} {b k n m : Nat}
theorem TX.sh (h : TX b k n x) (hb : b ≤ 2 ^ 128) : ShX k n x := (shX_g hb x k h.g h.d).mono (Nat.le_refl _) h.w
theorem TX.mono {k' n' : Nat} (h : TX b k n x) (hk : k ≤ k') (hn : n ≤ n') : TX b k' n' x := ⟨h.g, Nat.le_trans h.d hk, Nat.le_trans h.w hn⟩
theorem TX.imm (h : TX b k n x) : imm x = true := by
  have := h.g
  cases x <;> simp_all [gX]
theorem TX.okT (h : TX b k n x) : okT x = true := by
  have := h.g
  cases x <;> simp_all [gX, Fk.okT]
theorem TX.tup (h : TX b k n (.tup xs)) : 1 ≤ k ∧ 3 ≤ n ∧ TXs b (k - 1) (n - 3) xs := by
  have h1 : gXs b xs = true := by simpa [gX] using h.g
  have h2 : dXs xs + 1 ≤ k := by simpa [dX] using h.d
  have h3 : wXs xs + 3 ≤ n := by simpa [wX] using h.w
  exact ⟨by omega, by omega, h1, by omega, by omega⟩
theorem TXs.tup (h : TXs b k n xs) : TX b (k + 1) (n + 3) (.tup xs) := ⟨by simpa [gX] using h.g, by have := h.d; simpa [dX] using this, by have := h.w; simpa [wX] using this⟩
theorem TXs.lst (h : TXs b k n xs) : TX b (k + 1) (n + 3) (.lst false xs) := ⟨by simpa [gX] using h.g, by have := h.d; simpa [dX] using this, by have := h.w; simpa [wX] using this⟩
theorem gds_app {b : Nat} : ∀ (xs ys : List AV), gXs b (xs ++ ys) = (gXs b xs && gXs b ys)
  | [], ys => by simp [gXs]
  | x :: xs, ys => by simp [gXs, gds_app xs ys, Bool.and_assoc]
theorem dpts_app : ∀ (xs ys : List AV), dXs (xs ++ ys) = max (dXs xs) (dXs ys)
  | [], ys => by simp [dXs]
  | x :: xs, ys => by simp only [List.cons_append, dXs, dpts_app xs ys]; omega
theorem wts_app : ∀ (xs ys : List AV), wXs (xs ++ ys) = wXs xs + wXs ys
  | [], ys => by simp [wXs]
  | x :: xs, ys => by simp [wXs, wts_app xs ys]; omega
theorem wts_len : ∀ (xs : List AV), 2 * xs.length ≤ wXs xs
  | [] => by simp
  | x :: xs => by have := wts_len xs; simp [wXs]; omega
theorem TXs.app (h : TXs b k n xs) (g : TXs b k m ys) : TXs b k (n + m) (xs ++ ys) := ⟨by rw [gds_app, h.g, g.g]; rfl, by rw [dpts_app]; have := h.d; have := g.d; omega, by rw [wts_app]; have := h.w; have := g.w; omega⟩
theorem TXs.nil : TXs b k 0 [] := ⟨rfl, by simp [dXs], by simp [wXs]⟩
theorem TXs.cons (h : TX b k n x) (g : TXs b k m xs) : TXs b k (n + 2 + m) (x :: xs) := ⟨by simp [gXs, h.g, g.g], by have := h.d; have := g.d; simp [dXs]; omega, by have := h.w; have := g.w; simp [wXs]; omega⟩
theorem TXs.mono {k' n' : Nat} (h : TXs b k n xs) (hk : k ≤ k') (hn : n ≤ n') : TXs b k' n' xs := ⟨h.g, Nat.le_trans h.d hk, Nat.le_trans h.w hn⟩
theorem TXs.take (h : TXs b k n xs) (i : Nat) : TXs b k n (xs.take i) := by
  have h1 := h.g
  have h2 := h.d
  have h3 := h.w
  rw [← List.take_append_drop i xs] at h1 h2 h3
  rw [gds_app] at h1
  rw [dpts_app] at h2
  rw [wts_app] at h3
  exact ⟨(Bool.and_eq_true_iff.mp h1).1, by omega, by omega⟩
theorem TXs.drop (h : TXs b k n xs) (i : Nat) : TXs b k n (xs.drop i) := by
  have h1 := h.g
  have h2 := h.d
  have h3 := h.w
  rw [← List.take_append_drop i xs] at h1 h2 h3
  rw [gds_app] at h1
  rw [dpts_app] at h2
  rw [wts_app] at h3
  exact ⟨(Bool.and_eq_true_iff.mp h1).2, by omega, by omega⟩
theorem TXs.mem : ∀ {xs : List AV}, TXs b k n xs → ∀ x ∈ xs, TX b k n x
  | y :: ys, h, x, hx => by
    have h1 : gX b y = true ∧ gXs b ys = true := by simpa [gXs] using h.g
    have h2 : max (dX y) (dXs ys) ≤ k := by simpa [dXs] using h.d
    have h3 : wX y + 2 + wXs ys ≤ n := by simpa [wXs] using h.w
    rcases List.mem_cons.mp hx with rfl | hx
    · exact ⟨h1.1, by omega, by omega⟩
    · exact TXs.mem (xs := ys) ⟨h1.2, by omega, by omega⟩ x hx
/-- one in the midst, apart from the others -/
theorem TXs.split {i : Nat} (h : TXs b k n xs) (hi : xs[i]? = some x) : ∃ a e c, a + (e + 2 + c) ≤ n ∧ TXs b k a (xs.take i) ∧ TX b k e x ∧ TXs b k c (xs.drop (i + 1)) := by
  obtain ⟨hl, e⟩ := List.getElem?_eq_some_iff.mp hi
  have e1 : xs = xs.take i ++ (x :: xs.drop (i + 1)) := by
    conv => lhs; rw [← List.take_append_drop i xs]
    rw [List.drop_eq_getElem_cons hl, e]
  have h1 := h.g
  have h2 := h.d
  have h3 := h.w
  rw [e1] at h1 h2 h3
  rw [gds_app] at h1
  rw [dpts_app] at h2
  rw [wts_app] at h3
  simp only [gXs, dXs, wXs, Bool.and_eq_true] at h1 h2 h3
  exact ⟨wXs (xs.take i), wX x, wXs (xs.drop (i + 1)), by omega, ⟨h1.1, by omega, Nat.le_refl _⟩, ⟨h1.2.1, by omega, Nat.le_refl _⟩, h1.2.2, by omega, Nat.le_refl _⟩
theorem sl_toX (xs : List AV) (i : Nat) : slA (.tup xs) none (some (i : Int)) = some (.tup (xs.take i)) := by
  show some (AV.tup (cutA xs none (some (i : Int)))) = _
  unfold cutA
  rw [HT.sIx_nat, HT.sIx_none]
  simp only [List.drop_zero, Nat.sub_zero]
  congr 2
  rw [List.take_eq_take_iff]
  omega
theorem sl_fromX (xs : List AV) (i : Nat) : slA (.tup xs) (some (i : Int)) none = some (.tup (xs.drop i)) := by
  show some (AV.tup (cutA xs (some (i : Int)) none)) = _
  unfold cutA
  rw [HT.sIx_nat, HT.sIx_none]
  congr 2
  by_cases h : i ≤ xs.length
  · rw [Nat.min_eq_left h, List.take_of_length_le (by simp)]
  · rw [Nat.min_eq_right (by omega), List.drop_eq_nil_of_le (by omega), List.drop_eq_nil_of_le (by omega), List.take_nil]
end
mutual
theorem gX_up {b b' : Nat} (h : b ≤ b') : ∀ x, gX b x = true → gX b' x = true
  | .non, z => rfl
  | .bl _, z => rfl
  | .int i, z => by
    have : i.natAbs < b := by simpa [gX] using z
    simp only [gX, decide_eq_true_eq]
    omega
  | .str _, z => by simpa [gX] using z
  | .tup xs, z => by
    simp only [gX] at z ⊢
    exact gXs_up h xs z
  | .lst o xs, z => by
    simp only [gX, Bool.and_eq_true] at z ⊢
    exact ⟨z.1, gXs_up h xs z.2⟩
  | .dct _ _ _, z => by simpa [gX] using z
  | .scr _, z => by simp [gX] at z
  | .nst _, z => by simp [gX] at z
  | .ndc _ _, z => by simp [gX] at z
  | .ins _ _ _, z => by simp [gX] at z
  | .loc _, z => by simp [gX] at z
  | .ded, z => by simp [gX] at z
  | .set _, z => by simp [gX] at z
  | .tud _, z => by simp [gX] at z
theorem gXs_up {b b' : Nat} (h : b ≤ b') : ∀ xs, gXs b xs = true → gXs b' xs = true
  | [], _ => rfl
  | x :: xs, z => by
    simp only [gXs, Bool.and_eq_true] at z ⊢
    exact ⟨gX_up h x z.1, gXs_up h xs z.2⟩
end
theorem TX.up {b b' k n : Nat} {x : AV} (h : TX b k n x) (hb : b ≤ b') : TX b' k n x := ⟨gX_up hb x h.g, h.d, h.w⟩
theorem TXs.up {b b' k n : Nat} {xs : List AV} (h : TXs b k n xs) (hb : b ≤ b') : TXs b' k n xs := ⟨gXs_up hb xs h.g, h.d, h.w⟩
end Fk
-- base: k20
/-! ## orders known of anything: numbers, rows -/
namespace Fk
open PySem PySem.Spec PyProof.Rows L2
/-- a whole number within bounds -/
def wJ (x : AV) (m : Int) : Bool := match x with
  | .int i => decide (0 ≤ i) && decide (i ≤ m)
  | _ => false
def isJ (x : AV) : Bool := match x with
  | .int _ => true
  | _ => false
def rwA (x : Nat × Nat) : AV := .tup [.int x.1, .int x.2]
theorem ln_tupX (xs : List AV) : ∀ S, fLen S [.tup xs] = some (.int xs.length) := fun S => by simp [fLen, deref, lenA]
theorem ln_lstX (o : Bool) (xs : List AV) : ∀ S, fLen S [.lst o xs] = some (.int xs.length) := fun S => by simp [fLen, deref, lenA]
theorem eqsX (a b : Str) : oEq (.str a) (.str b) = some (.bl (decide (a = b))) := by simp [oEq, eqA]
theorem nesX (a b : Str) : oNe (.str a) (.str b) = some (.bl (!decide (a = b))) := by simp [oNe, eqA]
theorem eqnX (a b : Nat) : oEq (.int a) (.int b) = some (.bl (decide (a = b))) := by
  have : ((a : Int) = b) ↔ a = b := by omega
  simp [oEq, eqA, this]
theorem nenX (a b : Nat) : oNe (.int a) (.int b) = some (.bl (!decide (a = b))) := by
  have : ((a : Int) = b) ↔ a = b := by omega
  simp [oNe, eqA, this]
theorem lenX (a b : Nat) : oLe (.int a) (.int b) = some (.bl (decide (a ≤ b))) := by
  have : ((a : Int) ≤ b) ↔ a ≤ b := by omega
  simp [oLe, this]
theorem ltnX (a b : Nat) : oLt (.int a) (.int b) = some (.bl (decide (a < b))) := by
  have : ((a : Int) < b) ↔ a < b := by omega
  simp [oLt, this]
def rowB (q : Nat) (x : AV) : Bool := match x with
  | .tup [a, b] => wJ a ((q : Int) - 1) && wJ b 63
  | _ => false
section
variable {S : List AV} {x : AV} {xs : List AV} {k n b : Nat} {P : Pln}
theorem x_is_wholeX (h : okT x = true) : m_is_whole [x] S = .ok (.bl (isJ x)) S := by
  unfold m_is_whole
  rw [fnM_ret]
  cases x with
  | non | bl | int | str | tup | lst | dct => simp (implicitDefEqProofs := false) [okT, isT, isJ, asB, oNot]
  | _ => cases h
theorem x_withinX (h : okT x = true) (m : Int) : m_is_within [x, .int 0, .int m] S = .ok (.bl (wJ x m)) S := by
  cases x with
  | int i =>
    rw [x_is_within]
    rfl
  | non | bl | str | tup | lst | dct =>
    have w := x_is_wholeX (S := S) h
    unfold m_is_within
    rw [fnM_ret]
    simp (implicitDefEqProofs := false) [w, isJ, wJ, asB]
  | _ => cases h
theorem x_law_inX (h : okT x = true) (m : Int) : m__law_in [x, .int 0, .int m] S = .ok (.bl (wJ x m)) S := by
  unfold m__law_in
  rw [fnM_ret]
  cases x with
  | int i =>
    by_cases c : (0 : Int) ≤ i
    · have e : oLe (.int 0) (.int i) = some (.bl true) := by simp [oLe, c]
      have e2 : oLe (.int i) (.int m) = some (.bl (decide (i ≤ m))) := rfl
      simp (implicitDefEqProofs := false) [okT, isT, asB, oNot, e, e2, wJ, c]
    · have e : oLe (.int 0) (.int i) = some (.bl false) := by simp [oLe, c]
      simp (implicitDefEqProofs := false) [okT, isT, asB, oNot, e, wJ, c]
  | non | bl | str | tup | lst | dct => simp (implicitDefEqProofs := false) [okT, isT, asB, oNot, wJ]
  | _ => cases h
theorem rowB_len (h : xs.length ≠ 2) (q : Nat) : rowB q (.tup xs) = false := by
  unfold rowB
  split
  · rename_i e
    cases e
    simp at h
  · rfl
theorem rowB_not (h : isT "tuple" x = false) (q : Nat) : rowB q x = false := by
  unfold rowB
  split
  · simp [isT] at h
  · rfl
theorem x_is_rowX (h : TX b k n x) : m_is_row [P.av, x] S = .ok (.bl (rowB P.q x)) S ∧ m__law_is_row [P.av, x] S = .ok (.bl (rowB P.q x)) S := by
  have i2 : ∀ S', ixA S' P.av (.int 2) = some (.int P.q) := fun S' => ix_t S' _ 2
  have sb : oSub (.int P.q) (.int 1) = some (.int ((P.q : Int) - 1)) := rfl
  have ok := h.okT
  by_cases ht : isT "tuple" x = true
  · obtain ⟨xs, rfl⟩ : ∃ xs, x = .tup xs := by
      cases x <;> first | exact ⟨_, rfl⟩ | (simp [isT] at ht)
    have ln := ln_tupX xs
    have n2 : oNe (.int xs.length) (.int 2) = some (.bl (!decide (xs.length = 2))) := nenX xs.length 2
    obtain ⟨_, _, T⟩ := h.tup
    by_cases hl : xs.length = 2
    · obtain ⟨a, b, rfl⟩ : ∃ a b, xs = [a, b] := by
        match xs, hl with
        | [a, b], _ => exact ⟨a, b, rfl⟩
      have n2' : oNe (.int 2) (.int 2) = some (.bl false) := by kernel_rfl
      have oa := (T.mem a (by simp)).okT
      have ob := (T.mem b (by simp)).okT
      have ima := (T.mem a (by simp)).imm
      have imb := (T.mem b (by simp)).imm
      have wa := x_withinX (S := S) oa ((P.q : Int) - 1)
      have wb := x_withinX (S := S) ob 63
      have la := x_law_inX (S := S) oa ((P.q : Int) - 1)
      have lb := x_law_inX (S := S) ob 63
      have t0 : ∀ S', ixA S' (.tup [a, b]) (.int 0) = some a := fun S' => ix_t S' _ 0
      have t1 : ∀ S', ixA S' (.tup [a, b]) (.int 1) = some b := fun S' => ix_t S' _ 1
      have e : rowB P.q (.tup [a, b]) = (wJ a ((P.q : Int) - 1) && wJ b 63) := rfl
      rw [e]
      generalize (P.q : Int) - 1 = z at *
      generalize P.av = A at i2
      cases hw : wJ a z
      · rw [hw] at wa la
        constructor
        · unfold m_is_row
          rw [fnM_ret]
          simp (implicitDefEqProofs := false) [ok, ht, ln, n2', t0, t1, ima, imb, i2, sb, wa, asB]
        · unfold m__law_is_row
          rw [fnM_ret]
          simp (implicitDefEqProofs := false) [ok, ht, ln, n2', t0, t1, ima, imb, i2, sb, la, asB]
      · rw [hw] at wa la
        constructor
        · unfold m_is_row
          rw [fnM_ret]
          simp (implicitDefEqProofs := false) [ok, ht, ln, n2', t0, t1, ima, imb, i2, sb, wa, wb, asB]
        · unfold m__law_is_row
          rw [fnM_ret]
          simp (implicitDefEqProofs := false) [ok, ht, ln, n2', t0, t1, ima, imb, i2, sb, la, lb, asB]
    · rw [rowB_len hl, decide_eq_false hl] at *
      generalize P.av = A at *
      constructor
      · unfold m_is_row
        rw [fnM_ret]
        simp (implicitDefEqProofs := false) [ok, ht, ln, n2, asB]
      · unfold m__law_is_row
        rw [fnM_ret]
        simp (implicitDefEqProofs := false) [ok, ht, ln, n2, asB]
  · have ht' : isT "tuple" x = false := by simpa using ht
    rw [rowB_not ht']
    generalize P.av = A at *
    constructor
    · unfold m_is_row
      rw [fnM_ret]
      simp (implicitDefEqProofs := false) [ok, ht', asB]
    · unfold m__law_is_row
      rw [fnM_ret]
      simp (implicitDefEqProofs := false) [ok, ht', asB]
end
end Fk
-- base: k20
/-! ## orders known of anything: rows of a group -/
namespace Fk
open PySem PySem.Spec PyProof.Rows L2
theorem dats_ints (gs : List Nat) : dats (gs.map iA) = gs.map fun (g : Nat) => PyData.int (g : Int) := by
  induction gs with
  | nil => rfl
  | cons g gs ih => simp [dats, dat, iA, ih]
theorem sh_ints {gs : List Nat} (h : ∀ g ∈ gs, g < 2 ^ 128) : Shs 0 (131 * gs.length) (gs.map iA) := by
  have := shs_all (k := 0) (n := 129) (xs := gs.map iA) (fun x hx => by
    obtain ⟨g, hg, rfl⟩ := List.mem_map.mp hx
    exact sh_int (by have := h g hg; simpa using this))
  simpa using this
theorem ok_ints {gs : List Nat} (h : ∀ g ∈ gs, g < 2 ^ 128) (o : Bool) : okA (.lst o (gs.map iA)) = true := (sh_lst (sh_ints h)).okA (by omega)
theorem oIn_ints {gs : List Nat} (h : ∀ g ∈ gs, g < 2 ^ 128) (o : Bool) {k : Nat} (hk : k < 2 ^ 128) : oIn (.int k) (.lst o (gs.map iA)) = some (.bl (decide (k ∈ gs))) := by
  have h1 := ok_ints h o
  have h2 : okA (.int k) = true := (sh_int (k := 0) (by simpa using hk)).okA (by omega)
  have h3 : (dats (gs.map iA)).any (fun z => PyData.eqv z (dat (.int k))) = decide (k ∈ gs) := by
    rw [dats_ints, List.any_map]
    have : ∀ g : Nat, PyData.eqv (.int (g : Int)) (dat (.int (k : Int))) = decide (g = k) := fun g => by
      by_cases c : g = k
      · subst c; simp [dat, PyData.eqv]
      · have : ¬ (g : Int) = k := by omega
        simp [dat, PyData.eqv, this]
        rw [decide_eq_false c]
        exact beq_false_of_ne this
    have e : (fun z => PyData.eqv z (dat (.int (k : Int)))) ∘ (fun (g : Nat) => PyData.int (g : Int)) = fun g => decide (g = k) := funext fun g => this g
    rw [e]
    by_cases c : k ∈ gs
    · simp [c]
    · simp [c]
      exact fun x hx z => c (z ▸ hx)
  unfold oIn inA
  simp only [dicA, h1, h2, Bool.and_self, if_pos, h3, Option.map_some]
def dlK : List Int → List Int → List Int
  | ks, [] => ks
  | ks, x :: xs => dlK (addK ks x) xs
theorem addK_len (ks : List Int) (x : Int) : (addK ks x).length ≤ ks.length + 1 := by
  unfold addK
  split <;> simp
theorem dlK_le : ∀ (xs ks : List Int), (dlK ks xs).length ≤ ks.length + xs.length
  | [], ks => Nat.le_refl _
  | x :: xs, ks => by
    have h1 := dlK_le xs (addK ks x)
    have h2 := addK_len ks x
    simp only [dlK, List.length_cons]
    omega
theorem dlK_eq : ∀ (xs ks : List Int), (dlK ks xs).length = ks.length + xs.length ↔ xs.Nodup ∧ ∀ x ∈ xs, x ∉ ks
  | [], ks => by simp [dlK]
  | x :: xs, ks => by
    have h1 := dlK_le xs (addK ks x)
    have ih := dlK_eq xs (addK ks x)
    simp only [dlK, List.length_cons, List.nodup_cons, List.mem_cons]
    by_cases c : x ∈ ks
    · have e : addK ks x = ks := by unfold addK; rw [if_pos c]
      rw [e] at h1 ⊢
      constructor
      · intro z; omega
      · intro z; exact absurd c (z.2 x (.inl rfl))
    · have e : addK ks x = ks ++ [x] := by unfold addK; rw [if_neg c]
      rw [e] at ih ⊢
      have el : (ks ++ [x]).length + xs.length = ks.length + (xs.length + 1) := by simp; omega
      rw [el] at ih
      rw [ih]
      constructor
      · rintro ⟨a, b⟩
        refine ⟨⟨fun z => b x z (by simp), a⟩, ?_⟩
        rintro y (rfl | hy)
        · exact c
        · exact fun z => b y hy (by simp [z])
      · rintro ⟨⟨a, b⟩, d⟩
        refine ⟨b, fun y hy z => ?_⟩
        rcases List.mem_append.mp z with z | z
        · exact d y (.inr hy) z
        · obtain rfl : y = x := by simpa using z
          exact a hy
def plB (x : AV) : Nat := match x with
  | .tup (.int i :: _) => i.toNat
  | _ => 0
def rowsB (q : Nat) (x : AV) : Bool := match x with
  | .tup rs => (decide (1 ≤ rs.length) && decide (rs.length ≤ 4)) && (rs.all (rowB q) && decide ((rs.map plB).Nodup))
  | _ => false
theorem rowB_ex {q : Nat} {x : AV} (h : rowB q x = true) : ∃ p : Nat × Nat, x = rwA p ∧ p.1 < q ∧ p.2 ≤ 63 := by
  unfold rowB at h
  split at h
  · rename_i a b
    obtain ⟨h1, h2⟩ := Bool.and_eq_true_iff.mp h
    unfold wJ at h1 h2
    split at h1
    · rename_i i
      split at h2
      · rename_i j
        simp only [Bool.and_eq_true, decide_eq_true_eq] at h1 h2
        refine ⟨(i.toNat, j.toNat), ?_, by simp only; omega, by simp only; omega⟩
        unfold rwA
        simp only
        rw [Int.toNat_of_nonneg h1.1, Int.toNat_of_nonneg h2.1]
      · cases h2
    · cases h1
  · cases h
theorem rowsB_ex {q : Nat} : ∀ {rs : List AV}, rs.all (rowB q) = true → ∃ ps : List (Nat × Nat), rs = ps.map rwA ∧ (∀ p ∈ ps, p.1 < q ∧ p.2 ≤ 63) ∧ rs.map plB = ps.map (·.1)
  | [], _ => ⟨[], rfl, by simp, rfl⟩
  | r :: rs, h => by
    simp only [List.all_cons, Bool.and_eq_true] at h
    obtain ⟨p, rfl, h1, h2⟩ := rowB_ex h.1
    obtain ⟨ps, rfl, h3, h4⟩ := rowsB_ex h.2
    refine ⟨p :: ps, rfl, fun x hx => ?_, ?_⟩
    · rcases List.mem_cons.mp hx with rfl | hx
      · exact ⟨h1, h2⟩
      · exact h3 x hx
    · simp only [List.map_cons, h4]
      rfl
section
variable {S : List AV} {x : AV} {xs : List AV} {k n b : Nat} {P : Pln}
theorem compS_X : ∀ (ps : List (Nat × Nat)) (ks : List Int), ks.length + ps.length ≤ 900 → ∀ (A B s2 : Sl), compS (gT 2 (gCons' (gN 3) (gCons' (gN 4) gNil'))) tTrue (eVar 3) [3, 4] (ps.map rwA) ks ⟨[A, B, s2, .no, .no], S⟩ = .ok (dlK ks (ps.map fun x => (x.1 : Int))) ⟨[A, B, s2, .no, .no], S⟩
  | [], ks, _, A, B, s2 => by simp [compS, dlK]
  | x :: xs, ks, hl, A, B, s2 => by
    have hl2 : ks.length < 1000 := by simp at hl; omega
    have hl3 := addK_len ks x.1
    have ih := compS_X xs (addK ks x.1) (by simp at hl; omega) A B s2
    rw [List.map_cons]
    unfold compS
    have e1 : gT 2 (gCons' (gN 3) (gCons' (gN 4) gNil')) (rwA x) ⟨[A, B, s2, .no, .no], S⟩ = some ⟨[A, B, s2, .im (.int x.1), .im (.int x.2)], S⟩ := rfl
    have e2 : (tTrue : M Bool) ⟨[A, B, s2, .im (.int x.1), .im (.int x.2)], S⟩ = .ok true ⟨[A, B, s2, .im (.int x.1), .im (.int x.2)], S⟩ := rfl
    have e3 : eVar 3 ⟨[A, B, s2, .im (.int x.1), .im (.int x.2)], S⟩ = .ok (.int x.1) ⟨[A, B, s2, .im (.int x.1), .im (.int x.2)], S⟩ := rfl
    have e4 : (⟨[A, B, s2, .im (.int x.1), .im (.int x.2)], S⟩ : Ss).wipe [3, 4] = ⟨[A, B, s2, .no, .no], S⟩ := rfl
    simp only [e1, e2, e3, e4, if_pos hl2, ih, dlK, List.map_cons]
theorem nodup_int {ps : List (Nat × Nat)} : (ps.map fun x => (x.1 : Int)).Nodup ↔ (ps.map (·.1)).Nodup := by
  have e : (ps.map fun x => (x.1 : Int)) = (ps.map (·.1)).map fun (n : Nat) => (n : Int) := by rw [List.map_map]; rfl
  rw [e]
  constructor
  · intro h
    exact (List.pairwise_map.mp h).imp fun hab z => hab (by omega)
  · intro h
    exact List.Pairwise.map _ (fun a b hab => by intro z; exact hab (by omega)) h
theorem rowsB_not (h : isT "tuple" x = false) (q : Nat) : rowsB q x = false := by
  unfold rowsB
  split
  · simp [isT] at h
  · rfl
theorem x_are_rowsX (h : TX b k n x) (hn : n ≤ 1000000) : m_are_rows [P.av, x] S = .ok (.bl (rowsB P.q x)) S := by
  have ok := h.okT
  by_cases ht : isT "tuple" x = true
  · obtain ⟨rs, rfl⟩ : ∃ xs, x = .tup xs := by
      cases x <;> first | exact ⟨_, rfl⟩ | (simp [isT] at ht)
    obtain ⟨_, hn3, T⟩ := h.tup
    have ln := ln_tupX rs
    have it : itemsOf (.tup rs) = some rs := rfl
    have l1 : oLe (.int 1) (.int rs.length) = some (.bl (decide (1 ≤ rs.length))) := lenX 1 rs.length
    have l4 : oLe (.int rs.length) (.int 4) = some (.bl (decide (rs.length ≤ 4))) := lenX rs.length 4
    have hlen : rs.length ≤ 1000000 := by
      have h1 := wts_len rs
      have h2 := T.w
      omega
    have xr := fun r hr => (x_is_rowX (S := S) (P := P) (T.mem r hr)).1
    have fa : fAll S [.lst false ((rs.filter fun _ => true).map fun r => AV.bl (rowB P.q r))] = some (.bl (rs.all (rowB P.q))) := by
      rw [List.filter_eq_self.mpr (fun _ _ => rfl)]
      have := f_all S false (rs.map (rowB P.q))
      rw [List.map_map] at this
      have e : (rs.map (rowB P.q)).all id = rs.all (rowB P.q) := by rw [List.all_map]; rfl
      rw [e] at this
      exact this
    have ev : rowsB P.q (.tup rs) = ((decide (1 ≤ rs.length) && decide (rs.length ≤ 4)) && (rs.all (rowB P.q) && decide ((rs.map plB).Nodup))) := rfl
    rw [ev]
    refine wp_eq ?_
    unfold m_are_rows
    refine wpF ?_
    generalize P.av = A at xr
    by_cases c1 : 1 ≤ rs.length
    · rw [decide_eq_true c1] at l1 ⊢
      by_cases c4 : rs.length ≤ 4
      · rw [decide_eq_true c4] at l4 ⊢
        refine wpS ?_
        simp (implicitDefEqProofs := false) [-k_sSeq, Ss.wipe, -k_sTry, ok, ht, ln, l1, l4]
        refine wpS ?_
        simp (implicitDefEqProofs := false) [-k_sSeq, Ss.wipe, -k_sTry, it]
        refine wpB (wpL (fun _ => true) (fun r => .bl (rowB P.q r)) (fun r hr => ?_) (by omega) ?_)
        · have imr := (T.mem r hr).imm
          refine ⟨_, rfl, ?_⟩
          simp (implicitDefEqProofs := false) [-k_sSeq, Ss.wipe, -k_sTry, xr r hr, imr]
        generalize (rs.filter fun _ => true).map (fun r => AV.bl (rowB P.q r)) = L at fa ⊢
        cases ca : rs.all (rowB P.q) with
        | false =>
          rw [ca] at fa
          simp (implicitDefEqProofs := false) [-k_sSeq, Ss.wipe, -k_sTry, fa]
        | true =>
          rw [ca] at fa
          obtain ⟨ps, rfl, hp, hq⟩ := rowsB_ex ca
          have cs := compS_X (S := S) ps [] (by simp at c4 ⊢; omega)
          have hd := dlK_eq (ps.map fun x => (x.1 : Int)) []
          have lk := dlK_le (ps.map fun x => (x.1 : Int)) []
          have eq : oEq (.int (dlK [] (ps.map fun x => (x.1 : Int))).length) (.int (ps.map rwA).length) = some (.bl (decide (((ps.map rwA).map plB).Nodup))) := by
            rw [eqnX, hq]
            congr 2
            rw [decide_eq_decide, ← nodup_int]
            simp at hd ⊢
            exact hd
          have lk2 : (dlK [] (ps.map fun x => (x.1 : Int))).length < 1000 := by
            simp at lk c4
            omega
          generalize dlK [] (ps.map fun x => (x.1 : Int)) = D at *
          generalize decide (((ps.map rwA).map plB).Nodup) = B at *
          have lm : (ps.map rwA).length = ps.length := List.length_map ..
          rw [lm] at eq
          simp (implicitDefEqProofs := false) [-k_sSeq, Ss.wipe, -k_sTry, fa, it, cs, ln, lk2, eq]
      · rw [decide_eq_false c4] at l4 ⊢
        refine wpS ?_
        simp (implicitDefEqProofs := false) [-k_sSeq, Ss.wipe, -k_sTry, ok, ht, ln, l1, l4]
    · rw [decide_eq_false c1] at l1 ⊢
      refine wpS ?_
      simp (implicitDefEqProofs := false) [-k_sSeq, Ss.wipe, -k_sTry, ok, ht, ln, l1]
  · have ht' : isT "tuple" x = false := by simpa using ht
    rw [rowsB_not ht']
    unfold m_are_rows
    rw [fnM_ret]
    simp (implicitDefEqProofs := false) [ok, ht', asB]
end
end Fk
-- base: k20
/-! ## orders known of anything -/
namespace Fk
open PySem PySem.Spec PyProof.Rows L2
def ordB (q : Nat) (x : AV) : Bool := match x with
  | .tup (.str w :: r) => if w = "mend" then r.isEmpty else if w = "write" then rowB q (.tup r) else match r with
    | [y] => if w = "group" then rowsB q y else (decide (w = "read") || decide (w = "trim")) && wJ y ((q : Int) - 1)
    | _ => false
  | _ => false
theorem ordB_w (q : Nat) (w : Str) (r : List AV) : ordB q (.tup (.str w :: r)) = if w = "mend" then r.isEmpty else if w = "write" then rowB q (.tup r) else match r with
    | [y] => if w = "group" then rowsB q y else (decide (w = "read") || decide (w = "trim")) && wJ y ((q : Int) - 1)
    | _ => false := rfl
theorem any2X (f : PyData → Bool) (a b : PyData) : [a, b].any f = (f a || f b) := by simp
theorem in_rt (z : Str) (h : PyData.strOk z = true) (y : AV) (hy : y = .tup [.str "read", .str "trim"] ∨ y = .lst false [.str "read", .str "trim"]) : oIn (.str z) y = some (.bl (decide (z = "read") || decide (z = "trim"))) := by
  have o1 : okA (.str z) = true := (sh_str (k := 0) h).okA (by omega)
  have e1 : ∀ w : Str, PyData.eqv (.str w) (.str z) = decide (z = w) := fun w => by
    by_cases h : z = w
    · subst h; simp [PyData.eqv]
    · have h2 : ¬ w = z := fun e => h e.symm
      simp [PyData.eqv, h, h2]
  have e2 : ((dats [.str "read", .str "trim"]).any fun w => PyData.eqv w (dat (.str z))) = (decide (z = "read") || decide (z = "trim")) := by
    rw [← e1, ← e1]
    exact any2X _ _ _
  rcases hy with rfl | rfl
  · have o2 : okA (.tup [.str "read", .str "trim"]) = true := by decide +kernel
    have e : inA (.str z) (.tup [.str "read", .str "trim"]) = if okA (.str z) && okA (.tup [.str "read", .str "trim"]) then some ((dats [.str "read", .str "trim"]).any fun w => PyData.eqv w (dat (.str z))) else none := rfl
    unfold oIn
    rw [e, o1, o2, e2]
    rfl
  · have o2 : okA (.lst false [.str "read", .str "trim"]) = true := by decide +kernel
    have e : inA (.str z) (.lst false [.str "read", .str "trim"]) = if okA (.str z) && okA (.lst false [.str "read", .str "trim"]) then some ((dats [.str "read", .str "trim"]).any fun w => PyData.eqv w (dat (.str z))) else none := rfl
    unfold oIn
    rw [e, o1, o2, e2]
    rfl
section
variable {S : List AV} {x : AV} {xs : List AV} {k n b : Nat} {P : Pln}
theorem ordB_not (h : isT "tuple" x = false) (q : Nat) : ordB q x = false := by
  unfold ordB
  split
  · simp [isT] at h
  · rfl
theorem ordB_1 {a : AV} {r : List AV} (h : isT "str" a = false) (q : Nat) : ordB q (.tup (a :: r)) = false := by
  unfold ordB
  split
  · rename_i e
    cases e
    simp [isT] at h
  · rfl
theorem x_is_order_ofX (h : TX b k n x) (hn : n ≤ 1000000) : m_is_order_of [P.av, x] S = .ok (.bl (ordB P.q x)) S := by
  have ok := h.okT
  have i2 : ∀ S', ixA S' P.av (.int 2) = some (.int P.q) := fun S' => ix_t S' _ 2
  have sb : oSub (.int P.q) (.int 1) = some (.int ((P.q : Int) - 1)) := rfl
  by_cases ht : isT "tuple" x = true
  · obtain ⟨rs, rfl⟩ : ∃ xs, x = .tup xs := by
      cases x <;> first | exact ⟨_, rfl⟩ | (simp [isT] at ht)
    obtain ⟨_, hn3, T⟩ := h.tup
    cases rs with
    | nil =>
      have e : ordB P.q (.tup []) = false := rfl
      have q0 : oEqS (.tup []) (.tup []) = some (.bl true) := rfl
      rw [e]
      unfold m_is_order_of
      rw [fnM_ret]
      generalize P.av = A at *
      simp (implicitDefEqProofs := false) [ok, ht, q0, asB]
    | cons a r =>
      have q0 : oEqS (.tup (a :: r)) (.tup []) = some (.bl false) := rfl
      have t0 : ∀ S', ixA S' (.tup (a :: r)) (.int 0) = some a := fun S' => ix_t S' _ 0
      have Ta := T.mem a (by simp)
      have ima := Ta.imm
      have oka := Ta.okT
      by_cases hs : isT "str" a = true
      · obtain ⟨w, rfl⟩ : ∃ w, a = .str w := by
          cases a <;> first | exact ⟨_, rfl⟩ | (simp [isT] at hs)
        have sw : PyData.strOk w = true := asc_ok (by simpa [gX] using Ta.g)
        have gs : ∀ rr s, gSt 2 3 (.tup (.str w :: r)) ⟨rr, s⟩ = some ⟨setSl (setSl rr 2 (.im (.str w))) 3 (.im (.lst false r)), s⟩ := fun _ _ => rfl
        have qm : oEqS (.lst false r) (.lst false []) = some (.bl r.isEmpty) := rfl
        have em := eqsX w "mend"
        have ew := eqsX w "write"
        have eg := eqsX w "group"
        have Tr : TXs b (k - 1) (n - 3) r := by
          have := T.drop 1
          simpa using this
        have xr := (x_is_rowX (S := S) (P := P) (Tr.tup)).1
        have sl : slA (.tup (.str w :: r)) (some 1) none = some (.tup r) := by
          have := sl_fromX (.str w :: r) 1
          simpa using this
        have ln := ln_lstX false r
        have n1 : oNe (.int r.length) (.int 1) = some (.bl (!decide (r.length = 1))) := nenX r.length 1
        have irt := in_rt w sw _ (.inl rfl)
        refine wp_eq ?_
        unfold m_is_order_of
        refine wpF ?_
        generalize hA : P.av = A at i2 xr ⊢
        refine wpS ?_
        simp (implicitDefEqProofs := false) [-k_sSeq, Ss.wipe, -k_sTry, ok, ht, q0, t0, ima, oka, hs]
        refine wpS ?_
        simp (implicitDefEqProofs := false) [-k_sSeq, Ss.wipe, -k_sTry, gs]
        by_cases c1 : w = "mend"
        · have e : ordB P.q (.tup (.str w :: r)) = r.isEmpty := by rw [ordB_w, if_pos c1]
          rw [e]
          rw [decide_eq_true c1] at em
          refine wpS ?_
          simp (implicitDefEqProofs := false) [-k_sSeq, Ss.wipe, -k_sTry, em, qm]
        · rw [decide_eq_false c1] at em
          refine wpS ?_
          simp (implicitDefEqProofs := false) [-k_sSeq, Ss.wipe, -k_sTry, em]
          by_cases c2 : w = "write"
          · have e : ordB P.q (.tup (.str w :: r)) = rowB P.q (.tup r) := by rw [ordB_w, if_neg c1, if_pos c2]
            rw [e]
            rw [decide_eq_true c2] at ew
            refine wpS ?_
            simp (implicitDefEqProofs := false) [-k_sSeq, Ss.wipe, -k_sTry, ew, oPart, asI, sl, xr]
          · rw [decide_eq_false c2] at ew
            refine wpS ?_
            simp (implicitDefEqProofs := false) [-k_sSeq, Ss.wipe, -k_sTry, ew]
            match r with
            | [] =>
              have e : ordB P.q (.tup [.str w]) = false := by rw [ordB_w, if_neg c1, if_neg c2]
              rw [e]
              have n1' : oNe (.int 0) (.int 1) = some (.bl true) := by kernel_rfl
              refine wpS ?_
              simp (implicitDefEqProofs := false) [-k_sSeq, Ss.wipe, -k_sTry, ln, n1']
            | y :: z :: r =>
              have e : ordB P.q (.tup (.str w :: y :: z :: r)) = false := by rw [ordB_w, if_neg c1, if_neg c2]
              rw [e]
              have n1' : oNe (.int (y :: z :: r).length) (.int 1) = some (.bl true) := by
                rw [n1]
                simp
              generalize hR : (y :: z :: r) = R at *
              refine wpS ?_
              simp (implicitDefEqProofs := false) [-k_sSeq, Ss.wipe, -k_sTry, ln, n1']
            | [y] =>
              have n1' : oNe (.int 1) (.int 1) = some (.bl false) := by kernel_rfl
              have Ty := T.mem y (by simp)
              have imy := Ty.imm
              have oky := Ty.okT
              have y0 : ∀ S', ixA S' (.lst false [y]) (.int 0) = some y := fun S' => ix_l S' _ _ 0
              have xrr := x_are_rowsX (S := S) (P := P) Ty (by omega)
              have xw := x_withinX (S := S) oky ((P.q : Int) - 1)
              rw [hA] at xrr
              refine wpS ?_
              simp (implicitDefEqProofs := false) [-k_sSeq, Ss.wipe, -k_sTry, ln, n1']
              by_cases c3 : w = "group"
              · have e : ordB P.q (.tup [.str w, y]) = rowsB P.q y := by rw [ordB_w, if_neg c1, if_neg c2]; simp only; rw [if_pos c3]
                rw [e]
                rw [decide_eq_true c3] at eg
                refine wpS ?_
                simp (implicitDefEqProofs := false) [-k_sSeq, Ss.wipe, -k_sTry, eg, y0, imy, xrr]
              · have e : ordB P.q (.tup [.str w, y]) = ((decide (w = "read") || decide (w = "trim")) && wJ y ((P.q : Int) - 1)) := by rw [ordB_w, if_neg c1, if_neg c2]; simp only; rw [if_neg c3]
                rw [e]
                rw [decide_eq_false c3] at eg
                generalize (P.q : Int) - 1 = z at *
                cases hc : (decide (w = "read") || decide (w = "trim")) with
                | true =>
                  rw [hc] at irt
                  refine wpS ?_
                  simp (implicitDefEqProofs := false) [-k_sSeq, Ss.wipe, -k_sTry, eg, irt, y0, imy, i2, sb, xw]
                | false =>
                  rw [hc] at irt
                  refine wpS ?_
                  simp (implicitDefEqProofs := false) [-k_sSeq, Ss.wipe, -k_sTry, eg, irt]
      · have hs' : isT "str" a = false := by simpa using hs
        rw [ordB_1 hs']
        unfold m_is_order_of
        rw [fnM_ret]
        generalize P.av = A at *
        simp (implicitDefEqProofs := false) [ok, ht, q0, t0, ima, oka, hs', asB]
  · have ht' : isT "tuple" x = false := by simpa using ht
    rw [ordB_not ht']
    unfold m_is_order_of
    rw [fnM_ret]
    generalize P.av = A at *
    simp (implicitDefEqProofs := false) [ok, ht', asB]
end
end Fk
-- base: k20
/-! ## orders known of anything: the law's way -/
namespace Fk
open PySem PySem.Spec PyProof.Rows L2
theorem enu_getX : ∀ (xs : List AV) (n j : Nat) (d : AV), (enuL n xs)[j]? = some d → ∃ x, xs[j]? = some x ∧ d = .tup [.int (n + j : Nat), x]
  | [], n, j, d, h => by simp [enuL] at h
  | x :: xs, n, 0, d, h => by
    simp only [enuL, List.getElem?_cons_zero, Option.some.injEq] at h
    exact ⟨x, rfl, h.symm⟩
  | x :: xs, n, j + 1, d, h => by
    simp only [enuL, List.getElem?_cons_succ] at h
    obtain ⟨y, h1, h2⟩ := enu_getX xs (n + 1) j d h
    exact ⟨y, by simpa using h1, by rw [h2, show n + 1 + j = n + (j + 1) by omega]⟩
theorem enu_lenX : ∀ (xs : List AV) (n : Nat), (enuL n xs).length = xs.length
  | [], _ => rfl
  | x :: xs, n => by simp [enuL, enu_lenX xs (n + 1)]
theorem nodup_take : ∀ (xs : List Nat), xs.Nodup ↔ ∀ i x, xs[i]? = some x → x ∉ xs.take i := fun xs => by
  unfold List.Nodup
  rw [List.pairwise_iff_getElem]
  constructor
  · intro h i x hx z
    obtain ⟨hi, ei⟩ := List.getElem?_eq_some_iff.mp hx
    obtain ⟨j, hj, e⟩ := List.mem_take_iff_getElem.mp z
    exact h j i (by omega) hi (by omega) (by rw [e, ei])
  · intro h i j hi hj hij e
    refine h j xs[j] (List.getElem?_eq_getElem hj) ?_
    rw [← e]
    exact List.mem_take_iff_getElem.mpr ⟨i, by omega, rfl⟩
def ordR (q : Nat) (w : Str) (r : List AV) : Bool := match r with
  | [y] => if w = "group" then rowsB q y else (decide (w = "read") || decide (w = "trim")) && wJ y ((q : Int) - 1)
  | _ => false
theorem ordB_w2 (q : Nat) (w : Str) (r : List AV) : ordB q (.tup (.str w :: r)) = if w = "mend" then r.isEmpty else if w = "write" then rowB q (.tup r) else ordR q w r := rfl
theorem ordR_n {q : Nat} {w : Str} {r : List AV} (h : ¬ r.length = 1) : ordR q w r = false := by
  unfold ordR
  split
  · simp at h
  · rfl
theorem ordR_1 (q : Nat) (w : Str) (y : AV) : ordR q w [y] = if w = "group" then rowsB q y else (decide (w = "read") || decide (w = "trim")) && wJ y ((q : Int) - 1) := rfl
/-- whether a row's place stands ahead -/
def pFX (ns : List Nat) (d : AV) : Bool := match d with
  | .tup [.int i, r] => decide (plB r ∈ ns.take i.toNat)
  | _ => false
def gFX (d : AV) : AV := match d with
  | .tup [i, _] => i
  | _ => .non
theorem emp_X (ps : List (Nat × Nat)) : (((enuL 0 (ps.map rwA)).filter (pFX (ps.map (·.1)))).map gFX).isEmpty = decide (((ps.map rwA).map plB).Nodup) := by
  have e0 : (ps.map rwA).map plB = ps.map (·.1) := by
    rw [List.map_map]
    rfl
  rw [e0, List.isEmpty_map]
  by_cases c : (ps.map (·.1)).Nodup
  · rw [decide_eq_true c, List.isEmpty_iff, List.filter_eq_nil_iff]
    intro d hd
    obtain ⟨j, hj⟩ := List.getElem?_of_mem hd
    obtain ⟨x, hx, rfl⟩ := enu_getX _ _ _ _ hj
    rw [List.getElem?_map] at hx
    obtain ⟨p, hp, rfl⟩ := Option.map_eq_some_iff.mp hx
    have := (nodup_take _).mp c j p.1 (by rw [List.getElem?_map, hp]; rfl)
    simpa [pFX, plB, rwA] using this
  · rw [decide_eq_false c]
    cases e : ((enuL 0 (ps.map rwA)).filter (pFX (ps.map (·.1)))).isEmpty with
    | false => rfl
    | true =>
      exfalso
      apply c
      rw [nodup_take]
      intro i x hx z
      rw [List.isEmpty_iff, List.filter_eq_nil_iff] at e
      rw [List.getElem?_map] at hx
      obtain ⟨p, hp, rfl⟩ := Option.map_eq_some_iff.mp hx
      have hi : i < (enuL 0 (ps.map rwA)).length := by
        rw [enu_lenX, List.length_map]
        exact (List.getElem?_eq_some_iff.mp hp).1
      have h1 := List.getElem?_eq_getElem hi
      obtain ⟨y, hy, ey⟩ := enu_getX _ _ _ _ h1
      rw [List.getElem?_map, hp] at hy
      cases hy
      have := e _ (List.getElem_mem hi)
      rw [ey] at this
      apply this
      simp only [Nat.zero_add, pFX, plB, rwA, Int.toNat_natCast]
      exact decide_eq_true z
section
variable {S : List AV} {x : AV} {xs : List AV} {k n b : Nat} {P : Pln}
theorem x_law_is_orderX (h : TX b k n x) (hn : n ≤ 1000000) (q16 : P.q ≤ 16) : m__law_is_order [P.av, x] S = .ok (.bl (ordB P.q x)) S := by
  have ok := h.okT
  have i2 : ∀ S', ixA S' P.av (.int 2) = some (.int P.q) := fun S' => ix_t S' _ 2
  have sb : oSub (.int P.q) (.int 1) = some (.int ((P.q : Int) - 1)) := rfl
  by_cases ht : isT "tuple" x = true
  · obtain ⟨rs, rfl⟩ : ∃ xs, x = .tup xs := by
      cases x <;> first | exact ⟨_, rfl⟩ | (simp [isT] at ht)
    obtain ⟨_, hn3, T⟩ := h.tup
    cases rs with
    | nil =>
      have e : ordB P.q (.tup []) = false := rfl
      have q0 : oEqS (.tup []) (.tup []) = some (.bl true) := rfl
      rw [e]
      unfold m__law_is_order
      rw [fnM_ret]
      generalize P.av = A at *
      simp (implicitDefEqProofs := false) [ok, ht, q0, asB]
    | cons a r =>
      have q0 : oEqS (.tup (a :: r)) (.tup []) = some (.bl false) := rfl
      have t0 : ∀ S', ixA S' (.tup (a :: r)) (.int 0) = some a := fun S' => ix_t S' _ 0
      have Ta := T.mem a (by simp)
      have ima := Ta.imm
      have oka := Ta.okT
      by_cases hs : isT "str" a = true
      · obtain ⟨w, rfl⟩ : ∃ w, a = .str w := by
          cases a <;> first | exact ⟨_, rfl⟩ | (simp [isT] at hs)
        have sw : PyData.strOk w = true := asc_ok (by simpa [gX] using Ta.g)
        have qm : oEqS (.tup (.str w :: r)) (.tup [.str "mend"]) = some (.bl (decide (w = "mend") && r.isEmpty)) := rfl
        have ew := eqsX w "write"
        have ng := nesX w "group"
        have Tr : TXs b (k - 1) (n - 3) r := by
          have := T.drop 1
          simpa using this
        have xr := (x_is_rowX (S := S) (P := P) (Tr.tup)).2
        have sl : slA (.tup (.str w :: r)) (some 1) none = some (.tup r) := by
          have := sl_fromX (.str w :: r) 1
          simpa using this
        have ln := ln_tupX (.str w :: r)
        have el : ((.str w :: r : List AV).length = 2) ↔ r.length = 1 := by simp
        have e2 : oEq (.int (.str w :: r).length) (.int 2) = some (.bl (decide ((.str w :: r : List AV).length = 2))) := eqnX (.str w :: r).length 2
        have n2 : oNe (.int (.str w :: r).length) (.int 2) = some (.bl (!decide ((.str w :: r : List AV).length = 2))) := nenX (.str w :: r).length 2
        have irt := in_rt w sw _ (.inr rfl)
        have e := ordB_w2 P.q w r
        refine wp_eq ?_
        unfold m__law_is_order
        refine wpF ?_
        generalize hA : P.av = A at i2 xr ⊢
        generalize hN : (AV.str w :: r).length = N at ln e2 n2 el
        refine wpS ?_
        simp (implicitDefEqProofs := false) [-k_sSeq, Ss.wipe, -k_sTry, ok, ht, q0, t0, ima, oka, hs]
        by_cases c2 : w = "write"
        · have c1 : ¬ w = "mend" := by rw [c2]; decide +kernel
          rw [if_neg c1, if_pos c2] at e
          rw [e]
          rw [decide_eq_true c2] at ew
          refine wpS ?_
          simp (implicitDefEqProofs := false) [-k_sSeq, Ss.wipe, -k_sTry, t0, ima, ew, oPart, asI, sl, xr]
        · rw [decide_eq_false c2] at ew
          rw [if_neg c2] at e
          refine wpS ?_
          simp (implicitDefEqProofs := false) [-k_sSeq, Ss.wipe, -k_sTry, t0, ima, ew]
          refine wpS ?_
          by_cases c3 : w = "read" ∨ w = "trim"
          · have hc : (decide (w = "read") || decide (w = "trim")) = true := by simpa using c3
            have c1 : ¬ w = "mend" := by rcases c3 with rfl | rfl <;> decide +kernel
            have c4 : ¬ w = "group" := by rcases c3 with rfl | rfl <;> decide +kernel
            rw [hc] at irt
            rw [if_neg c1] at e
            rw [e]
            by_cases cl : r.length = 1
            · obtain ⟨y, rfl⟩ : ∃ y, r = [y] := by
                match r, cl with
                | [y], _ => exact ⟨y, rfl⟩
              have Ty := T.mem y (by simp)
              have imy := Ty.imm
              have oky := Ty.okT
              have t1 : ∀ S', ixA S' (.tup [.str w, y]) (.int 1) = some y := fun S' => ix_t S' _ 1
              have xw := x_law_inX (S := S) oky ((P.q : Int) - 1)
              have c4' : (if w = "group" then rowsB P.q y else (decide (w = "read") || decide (w = "trim")) && wJ y ((P.q : Int) - 1)) = wJ y ((P.q : Int) - 1) := by
                rw [if_neg c4, hc]
                rfl
              rw [ordR_1, c4']
              rw [decide_eq_true (el.mpr rfl)] at e2
              generalize (P.q : Int) - 1 = z at *
              generalize AV.tup [.str w, y] = X at *
              simp (implicitDefEqProofs := false) [-k_sSeq, Ss.wipe, -k_sTry, t0, ima, irt, ln, e2, t1, imy, i2, sb, xw]
            · rw [ordR_n cl]
              rw [decide_eq_false (fun z => cl (el.mp z))] at e2
              generalize AV.tup (.str w :: r) = X at *
              simp (implicitDefEqProofs := false) [-k_sSeq, Ss.wipe, -k_sTry, t0, ima, irt, ln, e2]
          · have hc : (decide (w = "read") || decide (w = "trim")) = false := by
              cases z : (decide (w = "read") || decide (w = "trim")) with
              | false => rfl
              | true => exact absurd (by simpa using z) c3
            rw [hc] at irt
            by_cases cg : w = "group" ∧ r.length = 1
            · obtain ⟨c4, cl⟩ := cg
              obtain ⟨y, rfl⟩ : ∃ y, r = [y] := by
                match r, cl with
                | [y], _ => exact ⟨y, rfl⟩
              have c1 : ¬ w = "mend" := by rw [c4]; decide +kernel
              rw [if_neg c1, ordR_1, if_pos c4] at e
              rw [e]
              rw [decide_eq_true (el.mpr rfl)] at n2
              rw [decide_eq_true c4] at ng
              have Ty := T.mem y (by simp)
              have imy := Ty.imm
              have oky := Ty.okT
              have t1 : ∀ S', ixA S' (.tup [.str w, y]) (.int 1) = some y := fun S' => ix_t S' _ 1
              generalize hX : AV.tup [.str w, y] = X at *
              simp (implicitDefEqProofs := false) [-k_sSeq, Ss.wipe, -k_sTry, t0, ima, irt, -afS_nx]
              rw [afS_nx]
              refine wpS ?_
              simp (implicitDefEqProofs := false) [-k_sSeq, Ss.wipe, -k_sTry, t0, ima, ng, ln, n2]
              refine wpS ?_
              simp (implicitDefEqProofs := false) [-k_sSeq, Ss.wipe, -k_sTry, t1, imy]
              by_cases hy : isT "tuple" y = true
              · obtain ⟨rs, rfl⟩ : ∃ xs, y = .tup xs := by
                  cases y <;> first | exact ⟨_, rfl⟩ | (simp [isT] at hy)
                obtain ⟨_, hm3, Ts⟩ := Ty.tup
                have lr := ln_tupX rs
                have it : itemsOf (.tup rs) = some rs := rfl
                have l1 : oLt (.int 0) (.int rs.length) = some (.bl (decide (1 ≤ rs.length))) := ltnX 0 rs.length
                have l4 : oLt (.int rs.length) (.int 5) = some (.bl (decide (rs.length ≤ 4))) := by
                  have := ltnX rs.length 5
                  have e5 : decide (rs.length < 5) = decide (rs.length ≤ 4) := decide_eq_decide.mpr (by omega)
                  rw [e5] at this
                  exact this
                have hlen : rs.length ≤ 1000000 := by
                  have h1 := wts_len rs
                  have h2 := Ts.w
                  omega
                have xrr := fun r hr => (x_is_rowX (S := S) (P := P) (Ts.mem r hr)).2
                rw [hA] at xrr
                have ev : rowsB P.q (.tup rs) = ((decide (1 ≤ rs.length) && decide (rs.length ≤ 4)) && (rs.all (rowB P.q) && decide ((rs.map plB).Nodup))) := rfl
                rw [ev]
                by_cases k1 : 1 ≤ rs.length
                · rw [decide_eq_true k1] at l1 ⊢
                  by_cases k4 : rs.length ≤ 4
                  · rw [decide_eq_true k4] at l4 ⊢
                    refine wpS ?_
                    simp (implicitDefEqProofs := false) [-k_sSeq, Ss.wipe, -k_sTry, oky, hy, lr, l1, l4]
                    refine wpS ?_
                    simp (implicitDefEqProofs := false) [-k_sSeq, Ss.wipe, -k_sTry, it]
                    refine wpB (wpL (fun r => !rowB P.q r) (fun r => r) (fun r hr => ?_) (by omega) ?_)
                    · have imr := (Ts.mem r hr).imm
                      refine ⟨_, rfl, ?_⟩
                      cases hb : rowB P.q r with
                      | true =>
                        have x1 := xrr r hr
                        rw [hb] at x1
                        simp (implicitDefEqProofs := false) [-k_sSeq, Ss.wipe, -k_sTry, x1, imr]
                      | false =>
                        have x1 := xrr r hr
                        rw [hb] at x1
                        simp (implicitDefEqProofs := false) [-k_sSeq, Ss.wipe, -k_sTry, x1, imr]
                    have fe : ((rs.filter fun r => !rowB P.q r).map fun r => r).isEmpty = rs.all (rowB P.q) := by
                      rw [List.map_id']
                      cases ca : rs.all (rowB P.q) with
                      | true =>
                        rw [List.isEmpty_iff, List.filter_eq_nil_iff]
                        intro r hr
                        have := List.all_eq_true.mp ca r hr
                        simp [this]
                      | false =>
                        cases ce : (rs.filter fun r => !rowB P.q r).isEmpty with
                        | false => rfl
                        | true =>
                          rw [List.isEmpty_iff, List.filter_eq_nil_iff] at ce
                          have : rs.all (rowB P.q) = true := List.all_eq_true.mpr fun r hr => by
                            have := ce r hr
                            simpa using this
                          rw [ca] at this
                          cases this
                    have q1 : oNeS (.lst false ((rs.filter fun r => !rowB P.q r).map fun r => r)) (.lst false []) = some (.bl (!rs.all (rowB P.q))) := by
                      rw [← fe]
                      rfl
                    generalize (rs.filter fun r => !rowB P.q r).map (fun r => r) = L at q1 ⊢
                    cases ca : rs.all (rowB P.q) with
                    | false =>
                      rw [ca] at q1
                      simp (implicitDefEqProofs := false) [-k_sSeq, Ss.wipe, -k_sTry, q1]
                    | true =>
                      rw [ca] at q1
                      simp (implicitDefEqProofs := false) [-k_sSeq, Ss.wipe, -k_sTry, q1]
                      obtain ⟨ps, rfl, hp, hq⟩ := rowsB_ex ca
                      have en : enuA [.tup (ps.map rwA)] = some (enuL 0 (ps.map rwA)) := rfl
                      have lq : (enuL 0 (ps.map rwA)).length = ps.length := by rw [enu_lenX, List.length_map]
                      have lps : ps.length ≤ 4 := by simpa using k4
                      have em := emp_X ps
                      simp (implicitDefEqProofs := false) [-k_sSeq, Ss.wipe, -k_sTry, en]
                      refine wpB (wpL (pFX (ps.map (·.1))) gFX (fun d hd => ?_) (by omega) ?_)
                      · obtain ⟨j, hj⟩ := List.getElem?_of_mem hd
                        obtain ⟨r, hr, rfl⟩ := enu_getX _ _ _ _ hj
                        rw [List.getElem?_map] at hr
                        obtain ⟨p, hpj, rfl⟩ := Option.map_eq_some_iff.mp hr
                        have imr : imm (rwA p) = true := rfl
                        have r0 : ∀ S', ixA S' (rwA p) (.int 0) = some (.int p.1) := fun S' => ix_t S' _ 0
                        have st := sl_toX (ps.map rwA) j
                        have itj : itemsOf (.tup ((ps.map rwA).take j)) = some ((ps.map rwA).take j) := rfl
                        have gl : ∀ g ∈ (ps.map (·.1)).take j, g < 2 ^ 128 := fun g hg => by
                          obtain ⟨p', hp', rfl⟩ := List.mem_map.mp (List.mem_of_mem_take hg)
                          have := (hp p' hp').1
                          omega
                        have oi := oIn_ints gl false (k := p.1) (by have := (hp p (List.mem_of_getElem? hpj)).1; omega)
                        have pf : pFX (ps.map (·.1)) (.tup [.int j, rwA p]) = decide (p.1 ∈ (ps.map (·.1)).take j) := by
                          show decide (p.1 ∈ (ps.map (·.1)).take (Int.toNat (j : Int))) = _
                          exact decide_eq_decide.mpr (by rw [Int.toNat_natCast])
                        have gf : gFX (.tup [.int j, rwA p]) = .int j := rfl
                        have fe : (((ps.map rwA).take j).filter fun _ => true).map (fun d => AV.int (plB d)) = ((ps.map (·.1)).take j).map iA := by
                          rw [List.filter_eq_self.mpr (fun _ _ => rfl), ← List.map_take, ← List.map_take, List.map_map, List.map_map]
                          rfl
                        refine ⟨_, rfl, ?_⟩
                        have j0 : ((0 + j : Nat) : Int) = j := by simp
                        rw [j0, pf, gf]
                        generalize hR : AV.tup (ps.map rwA) = R at *
                        generalize hZ : rwA p = Z at *
                        simp (implicitDefEqProofs := false) [-k_sSeq, Ss.wipe, -k_sTry, r0, imr, oPart, asI, st, itj]
                        refine wpB (wpL (fun _ => true) (fun d => AV.int (plB d)) (fun d hd2 => ?_) (by simp; omega) ?_)
                        · obtain ⟨p', _, rfl⟩ := List.mem_map.mp (List.mem_of_mem_take hd2)
                          have r5 : ∀ S', ixA S' (rwA p') (.int 0) = some (.int p'.1) := fun S' => ix_t S' _ 0
                          have pb : plB (rwA p') = p'.1 := rfl
                          have imr2 : imm (rwA p') = true := rfl
                          refine ⟨_, rfl, ?_⟩
                          rw [pb]
                          generalize rwA p' = Z2 at *
                          simp (implicitDefEqProofs := false) [-k_sSeq, Ss.wipe, -k_sTry, r5, imr2]
                        · rw [fe]
                          generalize ((ps.map (·.1)).take j).map iA = L3 at *
                          generalize decide (p.1 ∈ (ps.map (·.1)).take j) = B at *
                          simp (implicitDefEqProofs := false) [-k_sSeq, Ss.wipe, -k_sTry, oi]
                      · generalize ((enuL 0 (ps.map rwA)).filter (pFX (ps.map (·.1)))).map gFX = L2 at em ⊢
                        have q2 : oEqS (.lst false L2) (.lst false []) = some (.bl L2.isEmpty) := rfl
                        rw [em] at q2
                        simp only [List.map_map] at q2 ⊢
                        generalize decide ((ps.map (plB ∘ rwA)).Nodup) = B at *
                        simp (implicitDefEqProofs := false) [-k_sSeq, Ss.wipe, -k_sTry, q2]
                  · rw [decide_eq_false k4] at l4 ⊢
                    refine wpS ?_
                    simp (implicitDefEqProofs := false) [-k_sSeq, Ss.wipe, -k_sTry, oky, hy, lr, l1, l4]
                · rw [decide_eq_false k1] at l1 ⊢
                  refine wpS ?_
                  simp (implicitDefEqProofs := false) [-k_sSeq, Ss.wipe, -k_sTry, oky, hy, lr, l1]
              · have hy' : isT "tuple" y = false := by simpa using hy
                rw [rowsB_not hy']
                refine wpS ?_
                simp (implicitDefEqProofs := false) [-k_sSeq, Ss.wipe, -k_sTry, oky, hy']
            · have e3 : (if w = "mend" then r.isEmpty else ordR P.q w r) = (decide (w = "mend") && r.isEmpty) := by
                by_cases c1 : w = "mend"
                · rw [if_pos c1, decide_eq_true c1]
                  rfl
                · rw [if_neg c1, decide_eq_false c1]
                  by_cases cl : r.length = 1
                  · obtain ⟨y, rfl⟩ : ∃ y, r = [y] := by
                      match r, cl with
                      | [y], _ => exact ⟨y, rfl⟩
                    rw [ordR_1, if_neg (fun z => cg ⟨z, rfl⟩), hc]
                    rfl
                  · rw [ordR_n cl]
                    rfl
              rw [e3] at e
              rw [e]
              generalize hX : AV.tup (.str w :: r) = X at *
              generalize (decide (w = "mend") && r.isEmpty) = B at *
              simp (implicitDefEqProofs := false) [-k_sSeq, Ss.wipe, -k_sTry, t0, ima, irt, -afS_nx]
              rw [afS_nx]
              by_cases c4 : w = "group"
              · have cl : ¬ r.length = 1 := fun z => cg ⟨c4, z⟩
                rw [decide_eq_true c4] at ng
                rw [decide_eq_false (fun z => cl (el.mp z))] at n2
                refine wpS ?_
                simp (implicitDefEqProofs := false) [-k_sSeq, Ss.wipe, -k_sTry, t0, ima, ng, ln, n2, qm]
              · rw [decide_eq_false c4] at ng
                refine wpS ?_
                simp (implicitDefEqProofs := false) [-k_sSeq, Ss.wipe, -k_sTry, t0, ima, ng, qm]
      · have hs' : isT "str" a = false := by simpa using hs
        rw [ordB_1 hs']
        unfold m__law_is_order
        rw [fnM_ret]
        generalize P.av = A at *
        simp (implicitDefEqProofs := false) [ok, ht, q0, t0, ima, oka, hs', asB]
  · have ht' : isT "tuple" x = false := by simpa using ht
    rw [ordB_not ht']
    unfold m__law_is_order
    rw [fnM_ret]
    generalize P.av = A at *
    simp (implicitDefEqProofs := false) [ok, ht', asB]
end
end Fk
-- base: k24
/-! ## plans, orders drawn -/
namespace Fk
open PySem PySem.Spec PyProof.Rows L2
def rowA2 (x : Nat × Nat) : AV := .tup [.int x.1, .int x.2]
def okRows (P : Pln) (rows : List (Nat × Nat)) : Prop := 1 ≤ rows.length ∧ rows.length ≤ 4 ∧ (∀ x ∈ rows, x.1 < P.q ∧ x.2 ≤ 63) ∧ (rows.map (·.1)).Nodup
inductive Ord where
  | rd (q : Nat) | md | wr (q d : Nat) | tr (q : Nat) | gr (rows : List (Nat × Nat))
def Ord.av : Ord → AV
  | .rd q => .tup [.str "read", .int q]
  | .md => .tup [.str "mend"]
  | .wr q d => .tup [.str "write", .int q, .int d]
  | .tr q => .tup [.str "trim", .int q]
  | .gr rows => .tup [.str "group", .tup (rows.map rowA2)]
def okO (P : Pln) : Ord → Prop
  | .rd q => q < P.q
  | .md => True
  | .wr q d => q < P.q ∧ d ≤ 63
  | .tr q => q < P.q
  | .gr rows => okRows P rows
section
variable {P : Pln} {S : List AV} {l : Nat} {Q : AV → List AV → Prop} {E : Str → List AV → Prop}
theorem pick4p {r : Nat} (h : r < 4) : ∃ m : Nat, ([.int 6, .int 3, .int 2, .int 2] : List AV)[r]? = some (.int m) ∧ 2 ≤ m ∧ m ≤ 6 ∧ 6 ≤ (r + 1) * m ∧ (r + 3) * (m + 2) ≤ 24 ∧ (r + 1) * (m + 2) ≤ 24 := by
  have : r = 0 ∨ r = 1 ∨ r = 2 ∨ r = 3 := by omega
  rcases this with rfl | rfl | rfl | rfl
  · exact ⟨6, rfl, by decide⟩
  · exact ⟨3, rfl, by decide⟩
  · exact ⟨2, rfl, by decide⟩
  · exact ⟨2, rfl, by decide⟩
theorem min_nat (S : List AV) (a b : Nat) : fMin2 S [.int a, .int b] = some (.int ((min a b : Nat) : Int)) := by
  have h : fMin2 S [.int a, .int b] = some (.int (if (b : Int) < a then b else a)) := rfl
  rw [h]
  congr 2
  split <;> omega
theorem w_plan4 {s c : Bool} (hD : Dr S l) (k : ∀ (P : Pln) (S' : List AV), okP P → P.b * P.p ≤ 24 → P.s = s → P.c = c → Dr S' l → Fr [l] S S' → Q P.av S') : WpR (m__law_plan [.loc l, .bl s, .bl c] S) Q E := by
  unfold m__law_plan
  refine wpF ?_
  refine wpS ?_
  simp (implicitDefEqProofs := false) [-k_sSeq, Ss.wipe, -k_sTry]
  refine wpC (w_choice hD (by omega) (by omega) fun r S1 hr D1 f1 => ?_)
  have i1 := ix_l S1 false [.int 6, .int 3, .int 2, .int 2] r
  obtain ⟨m, e, m2, m6, g6, g24, g24'⟩ := pick4p (r := r) (by omega)
  rw [e] at i1
  have e0 : oAdd (.int 3) (.int r) = some (.int ((3 + r : Nat) : Int)) := a_add 3 r
  have e1 : oSub (.int ((3 + r : Nat) : Int)) (.int 3) = some (.int r) := by
    have := a_sub (a := 3 + r) (b := 3) (by omega)
    rw [show 3 + r - 3 = r by omega] at this
    exact this
  have e2 : oSub (.int ((3 + r : Nat) : Int)) (.int 2) = some (.int ((r + 1 : Nat) : Int)) := by
    have := a_sub (a := 3 + r) (b := 2) (by omega)
    rw [show 3 + r - 2 = r + 1 by omega] at this
    exact this
  have hb1 : 3 + r = r + 3 := by omega
  have hr4 : r < 4 := by omega
  generalize hb : 3 + r = b at e0 e1 e2 hb1
  generalize hz : r + 1 = z at e2 g6 g24'
  simp (implicitDefEqProofs := false) [-k_sSeq, Ss.wipe, -k_sTry, e0]
  refine wpS ?_
  simp (implicitDefEqProofs := false) [-k_sSeq, Ss.wipe, -k_sTry, e1, i1]
  refine wpS ?_
  simp (implicitDefEqProofs := false) [-k_sSeq, Ss.wipe, -k_sTry]
  refine wpC (w_choice D1 (by omega) (by omega) fun t S2 ht D2 f2 => ?_)
  have e3 := a_add m t
  have e4 : ∀ S', fMin2 S' [.int 8, .int ((m + t : Nat) : Int)] = some (.int ((min 8 (m + t) : Nat) : Int)) := fun S' => min_nat S' 8 (m + t)
  have ep : min 8 (m + t) = m + t := by omega
  rw [ep] at e4
  have e5 : oMul (.int z) (.int ((m + t : Nat) : Int)) = some (.int ((z * (m + t) : Nat) : Int)) := a_mul (by omega)
  have ht3 : t ≤ 2 := by omega
  have l1 : z * m ≤ z * (m + t) := Nat.mul_le_mul_left _ (by omega)
  have l2 : z * (m + t) ≤ z * (m + 2) := Nat.mul_le_mul_left _ (by omega)
  have l3 : (r + 3) * (m + t) ≤ (r + 3) * (m + 2) := Nat.mul_le_mul_left _ (by omega)
  generalize hp : m + t = p at *
  generalize hw : z * p = w at *
  have e6 : oSub (.int w) (.int 5) = some (.int ((w - 5 : Nat) : Int)) := a_sub (b := 5) (by omega)
  generalize hv : w - 5 = v at e6
  have e7 : ∀ S', fMin2 S' [.int 16, .int v] = some (.int ((min 16 v : Nat) : Int)) := fun S' => min_nat S' 16 v
  generalize hn : min 16 v = n at e7
  simp (implicitDefEqProofs := false) [-k_sSeq, Ss.wipe, -k_sTry, e3, e4]
  refine wpS ?_
  simp (implicitDefEqProofs := false) [-k_sSeq, Ss.wipe, -k_sTry, e2, e5, e6, e7]
  refine wpC (w_choice D2 (by omega) (by omega) fun u S3 hu D3 f3 => ?_)
  have e8 : oAdd (.int 1) (.int u) = some (.int ((1 + u : Nat) : Int)) := a_add 1 u
  generalize hy : 1 + u = y at e8
  simp (implicitDefEqProofs := false) [-k_sSeq, Ss.wipe, -k_sTry, e8]
  refine k ⟨b, p, y, s, c⟩ S3 ⟨by simp only; omega, by simp only; omega, by simp only; omega, by simp only; omega, by simp only; omega, by simp only; omega, ?_⟩ ?_ rfl rfl D3 ((f1.tr f2).tr f3)
  · simp only
    rw [show b - 2 = z by omega, hw]
    omega
  · simp only
    rw [hb1]
    omega
theorem rgl_nat {q : Nat} (h : q ≤ 16) : fRgL (.int q) = some (.lst true ((List.range q).map iA)) := by
  have h2 : fRgL (.int q) = if (0 : Int) ≤ q ∧ (q : Int) ≤ 1000 then some (.lst true (rngL 0 q)) else none := rfl
  rw [h2, if_pos (by omega)]
  unfold rngL
  simp only [Int.sub_zero, Int.toNat_natCast]
  congr 2
  exact List.map_congr_left fun i _ => by simp [iA]
theorem map_erase {α β : Type} (f : α → β) : ∀ (xs : List α) (i : Nat), (xs.map f).eraseIdx i = (xs.eraseIdx i).map f
  | [], _ => rfl
  | x :: xs, 0 => rfl
  | x :: xs, i + 1 => by simp [map_erase f xs i]
theorem pop_nat {xs : List Nat} {i : Nat} (h : i < xs.length) (h2 : xs.length ≤ 16) : ∃ x, xs[i]? = some x ∧ popA (xs.map iA) (.int i) = some (.int x, (xs.eraseIdx i).map iA) := by
  refine ⟨xs[i], List.getElem?_eq_getElem h, ?_⟩
  have c : (0 : Int) ≤ i ∧ (i : Int) < (xs.map iA).length ∧ (xs.map iA).length ≤ 16777216 := by simp; omega
  show (if (0 : Int) ≤ i ∧ (i : Int) < (xs.map iA).length ∧ (xs.map iA).length ≤ 16777216 then ((xs.map iA)[(i : Int).toNat]?).map fun y => (y, (xs.map iA).eraseIdx (i : Int).toNat) else none) = _
  rw [if_pos c]
  simp only [Int.toNat_natCast, List.getElem?_map, List.getElem?_eq_getElem h, Option.map_some, map_erase]
  rfl
theorem nd_erase {xs : List Nat} {i x : Nat} (nd : xs.Nodup) (h : xs[i]? = some x) : x ∉ xs.eraseIdx i := by
  induction xs generalizing i with
  | nil => cases h
  | cons a xs ih =>
    obtain ⟨n1, n2⟩ := List.nodup_cons.mp nd
    cases i with
    | zero =>
      obtain rfl : a = x := by simpa using h
      exact n1
    | succ i =>
      have h2 : xs[i]? = some x := by simpa using h
      intro z
      rcases List.mem_cons.mp (show x ∈ a :: xs.eraseIdx i from z) with e | e
      · exact n1 (e ▸ List.mem_of_getElem? h2)
      · exact ih n2 h2 e
def rwI (P : Pln) (S : List AV) (l k : Nat) (st : Ss) : Prop := ∃ (s4 : Sl) (S' : List AV) (left : List Nat) (rows : List (Nat × Nat)), st = ⟨[.im (.loc l), .im P.av, .ow (.lst true (left.map iA)), .ow (.lst true (rows.map rowA2)), s4], S'⟩ ∧ Dr S' l ∧ Fr [l] S S' ∧ left.Nodup ∧
  (∀ x ∈ left, x < P.q) ∧ (∀ x ∈ rows, x.1 < P.q ∧ x.2 ≤ 63) ∧ (rows.map (·.1)).Nodup ∧ (∀ x ∈ rows, x.1 ∉ left) ∧ rows.length = k ∧ left.length + k = P.q
theorem w_rows (hP : okP P) (hD : Dr S l) (k : ∀ (rows : List (Nat × Nat)) (S' : List AV), okRows P rows → Dr S' l → Fr [l] S S' → Q (.tup (rows.map rowA2)) S') : WpR (m__law_rows [.loc l, P.av] S) Q E := by
  have q1 := hP.q1
  have q16 := hP.q16
  have i2 : ∀ S', ixA S' P.av (.int 2) = some (.int P.q) := fun S' => ix_t S' _ 2
  have rg := rgl_nat q16
  have ll : ((List.range P.q).map iA).length = P.q := by simp
  have h0 : rwI P S l 0 ⟨[.im (.loc l), .im P.av, .ow (.lst true ((List.range P.q).map iA)), .ow (.lst true []), .no], S⟩ → True := fun _ => trivial
  have hI : ∀ S', Dr S' l → Fr [l] S S' → rwI P S l 0 ⟨[.im (.loc l), .im P.av, .ow (.lst true ((List.range P.q).map iA)), .ow (.lst true []), .no], S'⟩ := fun S' D f =>
    ⟨_, S', List.range P.q, [], rfl, D, f, List.nodup_range, fun x hx => by simpa using hx, (fun _ z => by cases z), by simp, (fun _ z => by cases z), rfl, by simp⟩
  unfold m__law_rows
  refine wpF ?_
  have eI : rwI P = rwI P := rfl
  generalize hL : (List.range P.q).map iA = L at rg ll hI
  have lL : ∀ S', fLen S' [.lst true L] = some (.int P.q) := fun S' => by simp [fLen, deref, lenA, ll]
  generalize hA : P.av = A at i2 hI
  refine wpS ?_
  simp (implicitDefEqProofs := false) [-k_sSeq, Ss.wipe, -k_sTry, i2, rg]
  refine wpS ?_
  simp (implicitDefEqProofs := false) [-k_sSeq, Ss.wipe, -k_sTry, lL]
  refine wpC (w_choice hD (by omega) (by omega) fun u S1 hu D1 f1 => ?_)
  have e1 : oAdd (.int 1) (.int u) = some (.int ((1 + u : Nat) : Int)) := a_add 1 u
  have e2 := fun S' => min_nat S' P.q (1 + u)
  have hn1 : 1 ≤ min P.q (1 + u) := by omega
  have hn4 : min P.q (1 + u) ≤ 4 := by omega
  have hnq : min P.q (1 + u) ≤ P.q := by omega
  generalize 1 + u = v at e1 e2 hn1 hn4 hnq
  generalize min P.q v = n at e2 hn1 hn4 hnq
  have rn := rng_nat (n := n) (by omega)
  have rl : ((List.range n).map iA).length = n := by simp
  generalize (List.range n).map iA = N at rn rl
  simp (implicitDefEqProofs := false) [-k_sSeq, Ss.wipe, -k_sTry, e1, e2, rn]
  refine wpO (rwI P S l) (hI S1 D1 f1) (fun j d st hd hJ => ?_) fun st hJ => ?_
  · have hj : j < n := by
      have := (List.getElem?_eq_some_iff.mp hd).1
      omega
    obtain ⟨s4, S2, left, rows, rfl, D2, f2, nl, hl, hr, nr, dis, len, sum⟩ := hJ
    have lpos : 0 < left.length := by omega
    have l16 : left.length ≤ 16 := by omega
    have lf : ∀ S', fLen S' [.lst true (left.map iA)] = some (.int left.length) := fun S' => by simp [fLen, deref, lenA]
    have rlen : rows.length < 16777216 := by omega
    refine ⟨_, rfl, ?_⟩
    simp (implicitDefEqProofs := false) [-k_sSeq, Ss.wipe, -k_sTry, lf, ownL]
    refine wpC (w_choice D2 (by omega) (by omega) fun i S3 hi D3 f3 => ?_)
    obtain ⟨x, hx, pn⟩ := pop_nat (xs := left) (i := i) (by omega) l16
    simp (implicitDefEqProofs := false) [-k_sSeq, Ss.wipe, -k_sTry, ownL, pn, putL]
    refine wpC (w_choice D3 (by omega) (by omega) fun y S4 hy D4 f4 => ?_)
    have mx := List.mem_of_getElem? hx
    have le := List.length_eraseIdx_of_lt (l := left) (i := i) (by omega)
    have fin : rwI P S l (j + 1) ⟨[.im (.loc l), .im P.av, .ow (.lst true ((left.eraseIdx i).map iA)), .ow (.lst true ((rows ++ [(x, y)]).map rowA2)), .im d], S4⟩ := by
      refine ⟨_, S4, left.eraseIdx i, rows ++ [(x, y)], rfl, D4, (f2.tr f3).tr f4, nl.sublist (List.eraseIdx_sublist left i), fun z hz => hl z (List.mem_of_mem_eraseIdx hz), ?_, ?_, ?_, by simp; omega, by omega⟩
      · intro z hz
        rcases List.mem_append.mp hz with hz | hz
        · exact hr z hz
        · obtain rfl : z = (x, y) := by simpa using hz
          exact ⟨hl x mx, by simp only; omega⟩
      · rw [List.map_append, List.nodup_append]
        refine ⟨nr, by simp, fun a ha b hb => ?_⟩
        obtain ⟨z, hz, rfl⟩ := List.mem_map.mp ha
        obtain rfl : b = x := by simpa using hb
        intro e
        exact dis z hz (e ▸ mx)
      · intro z hz hm
        rcases List.mem_append.mp hz with hz | hz
        · exact dis z hz (List.mem_of_mem_eraseIdx hm)
        · obtain rfl : z = (x, y) := by simpa using hz
          exact nd_erase nl hx hm
    have em : rows.map rowA2 ++ [.tup [.int x, .int y]] = (rows ++ [(x, y)]).map rowA2 := by simp [rowA2]
    generalize P.av = A2 at fin ⊢
    simp (implicitDefEqProofs := false) [-k_sSeq, Ss.wipe, -k_sTry, ownL, putL, rlen]
    rw [em]
    exact fin
  · rw [rl] at hJ
    obtain ⟨s4, S2, left, rows, rfl, D2, f2, nl, hl, hr, nr, dis, len, sum⟩ := hJ
    have q := k rows S2 ⟨by omega, by omega, hr, nr⟩ D2 f2
    simp (implicitDefEqProofs := false) [-k_sSeq, Ss.wipe, -k_sTry, fTup]
    exact q
theorem w_order4 (hP : okP P) (hD : Dr S l) (k : ∀ (o : Ord) (S' : List AV), okO P o → Dr S' l → Fr [l] S S' → Q o.av S') : WpR (m__law_order [.loc l, P.av] S) Q E := by
  have q1 := hP.q1
  have q16 := hP.q16
  have i2 : ∀ S', ixA S' P.av (.int 2) = some (.int P.q) := fun S' => ix_t S' _ 2
  have wr := fun {Q : AV → List AV → Prop} {E : Str → List AV → Prop} {S1 : List AV} (D : Dr S1 l) k => w_rows (Q := Q) (E := E) hP D k
  unfold m__law_order
  refine wpF ?_
  generalize hA : P.av = A at i2 wr
  refine wpS ?_
  simp (implicitDefEqProofs := false) [-k_sSeq, Ss.wipe, -k_sTry]
  refine wpC (w_choice hD (by omega) (by omega) fun w S1 hw D1 f1 => ?_)
  simp (implicitDefEqProofs := false) [-k_sSeq, Ss.wipe, -k_sTry, i2]
  refine wpC (w_choice D1 (by omega) (by omega) fun q S2 hq D2 f2 => ?_)
  have hq' : q < P.q := by omega
  by_cases c1 : (w : Int) < 5
  · have t1 : oLt (.int w) (.int 5) = some (.bl true) := by simp [oLt, c1]
    simp (implicitDefEqProofs := false) [-k_sSeq, Ss.wipe, -k_sTry]
    refine wpS ?_
    simp (implicitDefEqProofs := false) [-k_sSeq, Ss.wipe, -k_sTry, t1]
    refine wpC (w_choice D2 (by omega) (by omega) fun d S3 hd D3 f3 => ?_)
    have q := k (.wr q d) S3 ⟨hq', by omega⟩ D3 ((f1.tr f2).tr f3)
    simp (implicitDefEqProofs := false) [-k_sSeq, Ss.wipe, -k_sTry, afS]
    exact q
  have t1 : oLt (.int w) (.int 5) = some (.bl false) := by simp [oLt, c1]
  simp (implicitDefEqProofs := false) [-k_sSeq, Ss.wipe, -k_sTry]
  refine wpS ?_
  simp (implicitDefEqProofs := false) [-k_sSeq, Ss.wipe, -k_sTry, t1]
  by_cases c2 : (w : Int) < 8
  · have t2 : oLt (.int w) (.int 8) = some (.bl true) := by simp [oLt, c2]
    refine wpS ?_
    simp (implicitDefEqProofs := false) [-k_sSeq, Ss.wipe, -k_sTry, t2]
    refine wpC (wr D2 fun rows S3 hr D3 f3 => ?_)
    have q := k (.gr rows) S3 hr D3 ((f1.tr f2).tr f3)
    simp (implicitDefEqProofs := false) [-k_sSeq, Ss.wipe, -k_sTry, afS]
    exact q
  have t2 : oLt (.int w) (.int 8) = some (.bl false) := by simp [oLt, c2]
  refine wpS ?_
  simp (implicitDefEqProofs := false) [-k_sSeq, Ss.wipe, -k_sTry, t2]
  by_cases c3 : (w : Int) < 10
  · have t3 : oLt (.int w) (.int 10) = some (.bl true) := by simp [oLt, c3]
    refine wpS ?_
    simp (implicitDefEqProofs := false) [-k_sSeq, Ss.wipe, -k_sTry, t3]
    exact k (.rd q) S2 hq' D2 (f1.tr f2)
  have t3 : oLt (.int w) (.int 10) = some (.bl false) := by simp [oLt, c3]
  refine wpS ?_
  simp (implicitDefEqProofs := false) [-k_sSeq, Ss.wipe, -k_sTry, t3]
  by_cases c4 : w = 10
  · subst c4
    have t4 : oEq (.int 10) (.int 10) = some (.bl true) := by kernel_rfl
    simp (implicitDefEqProofs := false) [-k_sSeq, Ss.wipe, -k_sTry, t4]
    exact k (.tr q) S2 hq' D2 (f1.tr f2)
  · have t4 : oEq (.int w) (.int 10) = some (.bl false) := by simp [oEq, eqA]; omega
    simp (implicitDefEqProofs := false) [-k_sSeq, Ss.wipe, -k_sTry, t4]
    exact k .md S2 trivial D2 (f1.tr f2)
end
end Fk
-- base: k20
/-! ## something otherwise, drawn -/
namespace Fk
open PySem PySem.Spec PyProof.Rows L2
def tXB (b k n : Nat) (x : AV) : Bool := gX b x && (decide (dX x ≤ k) && decide (wX x ≤ n))
theorem tXB_ok {b k n : Nat} {x : AV} (h : tXB b k n x = true) : TX b k n x := by
  simp only [tXB, Bool.and_eq_true, decide_eq_true_eq] at h
  exact ⟨h.1, h.2.1, h.2.2⟩
theorem tXB_all {b k n : Nat} {xs : List AV} (h : xs.all (tXB b k n) = true) : ∀ x ∈ xs, TX b k n x := fun x hx => tXB_ok (List.all_eq_true.mp h x hx)
def oddL : List AV := [.non, .bl true, .bl false, .int 0, .int 1, .int (-1), .int (10 ^ 29), .str "", .str "read", .str "mend", .tup [], .lst false [], .dct false [] [], .tup [.str "mend"], .tup [.int 0, .int 1], .lst false [.int 0], .tup [.str "fence"]]
theorem oddL_len : oddL.length = 17 := rfl
theorem oddL_td : ∀ d ∈ oddL, TX (2 ^ 100) 1 400 d := tXB_all (by decide +kernel)
theorem add_tupX (xs ys : List AV) (h : xs.length + ys.length ≤ 16777216) : oAdd (.tup xs) (.tup ys) = some (.tup (xs ++ ys)) := by
  have e : oAdd (.tup xs) (.tup ys) = if xs.length + ys.length ≤ 16777216 then some (.tup (xs ++ ys)) else none := rfl
  rw [e, if_pos h]
theorem sl_m1 (xs : List AV) : slA (.tup xs) (some (-1)) none = some (.tup (xs.drop (xs.length - 1))) := by
  show some (AV.tup (cutA xs (some (-1)) none)) = _
  unfold cutA
  congr 2
  have e : HT.sIx xs.length 0 (some (-1)) = xs.length - 1 := by
    show (if (-1 : Int) < 0 then ((-1 : Int) + (xs.length : Int)).toNat else min (-1 : Int).toNat xs.length) = _
    rw [if_pos (by omega)]
    omega
  rw [e, HT.sIx_none, List.take_of_length_le (by simp)]
theorem sl_t1 (xs : List AV) : slA (.tup xs) none (some (-1)) = some (.tup (xs.take (xs.length - 1))) := by
  show some (AV.tup (cutA xs none (some (-1)))) = _
  unfold cutA
  congr 2
  have e : HT.sIx xs.length xs.length (some (-1)) = xs.length - 1 := by
    show (if (-1 : Int) < 0 then ((-1 : Int) + (xs.length : Int)).toNat else min (-1 : Int).toNat xs.length) = _
    rw [if_pos (by omega)]
    omega
  rw [e, HT.sIx_none, List.drop_zero, Nat.sub_zero]
theorem asc_cut {z : Str} (h : ascB z = true) (lo hi : Option Int) : ascB (cutS z lo hi) = true := by
  unfold ascB at h ⊢
  rw [Array.all_eq_true'] at h ⊢
  intro x hx
  have hx2 : x ∈ ((z.cps.toList.drop (HT.sIx z.length 0 lo)).take (HT.sIx z.length z.length hi - HT.sIx z.length 0 lo)) := by simpa [cutS] using hx
  exact h x (by simpa using List.mem_of_mem_drop (List.mem_of_mem_take hx2))
theorem len_cut (z : Str) (lo hi : Option Int) : (cutS z lo hi).length ≤ z.length := by
  show ((z.cps.toList.drop (HT.sIx z.length 0 lo)).take (HT.sIx z.length z.length hi - HT.sIx z.length 0 lo)).toArray.size ≤ z.cps.size
  simp
  omega
theorem asc_app {a b : Str} (h1 : ascB a = true) (h2 : ascB b = true) : ascB (a ++ b) = true := by
  unfold ascB at *
  rw [PySem.Str.cps_append]
  rw [Array.all_eq_true'] at *
  intro x hx
  rcases Array.mem_append.mp hx with hx | hx
  · exact h1 x hx
  · exact h2 x hx
theorem tX_str {z : Str} {b k n : Nat} (h : ascB z = true) (hl : 10 * z.length + 2 ≤ n) : TX b k n (.str z) := ⟨by simpa [gX] using h, by simp [dX], by simpa [wX] using hl⟩
theorem tX_strI {z : Str} {b k n : Nat} (h : TX b k n (.str z)) : ascB z = true ∧ 10 * z.length + 2 ≤ n := ⟨by simpa [gX] using h.g, by simpa [wX] using h.w⟩
theorem TXs.rev {b k n : Nat} : ∀ {xs : List AV}, TXs b k n xs → TXs b k n xs.reverse := fun {xs} h => by
  have key : ∀ xs : List AV, gXs b xs.reverse = gXs b xs ∧ dXs xs.reverse = dXs xs ∧ wXs xs.reverse = wXs xs := fun xs => by
    induction xs with
    | nil => exact ⟨rfl, rfl, rfl⟩
    | cons x xs ih =>
      obtain ⟨i1, i2, i3⟩ := ih
      rw [List.reverse_cons, gds_app, dpts_app, wts_app, i1, i2, i3]
      refine ⟨by simp [gXs, Bool.and_comm], by simp only [dXs]; omega, by simp only [wXs]; omega⟩
  obtain ⟨i1, i2, i3⟩ := key xs
  exact ⟨by rw [i1]; exact h.g, by rw [i2]; exact h.d, by rw [i3]; exact h.w⟩
section
variable {S : List AV} {l : Nat} {Q : AV → List AV → Prop} {E : Str → List AV → Prop}
theorem w_oddL (hD : Dr S l) (k : ∀ d S', d ∈ oddL → Dr S' l → Fr [l] S S' → Q d S') : WpR (m__law_odd [.loc l] S) Q E := by
  unfold m__law_odd
  refine wpF ?_
  refine wpS (wp_of (a := .nx) (s := ⟨[.im (.loc l), .im (.lst false oddL)], S⟩) (by kernel_rfl) ?_)
  rw [afS_nx]
  simp (implicitDefEqProofs := false) [-k_sSeq, Ss.wipe, -k_sTry]
  refine wpC (w_choice hD (by omega) (by omega) fun r S1 hr D1 f1 => ?_)
  have i1 := ix_l S1 false oddL r
  obtain ⟨d, e⟩ : ∃ d, oddL[r]? = some d := ⟨_, List.getElem?_eq_getElem (by rw [oddL_len]; omega)⟩
  rw [e] at i1
  have hd : d ∈ oddL := List.mem_of_getElem? e
  have im : imm d = true := (oddL_td d hd).imm
  have kk := k d S1 hd D1 f1
  generalize oddL = L at *
  simp (implicitDefEqProofs := false) [-k_sSeq, Ss.wipe, -k_sTry, i1, im]
  exact kk
def bnQ (l : Nat) (x : AV) (S : List AV) (Q : AV → List AV → Prop) (f : Fl) (st : Ss) : Prop := match f with
  | .rt d => Q d st.s
  | .nx => ∃ S', st = ⟨[.im (.loc l), .im x, .no, .no], S'⟩ ∧ Dr S' l ∧ Fr [l] S S'
  | _ => False
theorem w_bentX : ∀ (m : Nat) {S : List AV} {Q : AV → List AV → Prop} {E : Str → List AV → Prop} {b k n : Nat} {x : AV}, TX b k n x → 2 ^ 100 ≤ b → k < m → k ≤ 40 → n ≤ 1000000 → Dr S l → (∀ d S', TX (b + 64) (k + 1) (3 * n + 700) d → Dr S' l → Fr [l] S S' → Q d S') → WpR (mR__law_bent m [.loc l, x] S) Q E
  | 0, S, Q, E, b, k, n, x, _, _, h, _, _, _, _ => by omega
  | m + 1, S, Q, E, b, k, n, x, T, hb, hk, hk2, hn, hD, kk => by
    rw [mR__law_bent.eq_2]
    refine wpF ?_
    refine wpS ?_
    have ok := T.okT
    have im := T.imm
    refine wp_mono (Q := bnQ l x S Q) (E := fun c st => E c st.s) ?_ (fun f st hI => ?_) (fun _ _ h => h)
    · by_cases ht : isT "tuple" x = true
      · obtain ⟨xs, rfl⟩ : ∃ xs, x = .tup xs := by
          cases x <;> first | exact ⟨_, rfl⟩ | (simp [isT] at ht)
        have en : oNeS (.tup xs) (.tup []) = some (.bl (!xs.isEmpty)) := rfl
        cases hx : xs.isEmpty with
        | true =>
          rw [hx] at en
          simp (implicitDefEqProofs := false) [-k_sSeq, Ss.wipe, -k_sTry, ok, ht, en]
          exact ⟨S, rfl, hD, Fr.refl _ _⟩
        | false =>
          rw [hx] at en
          simp (implicitDefEqProofs := false) [-k_sSeq, Ss.wipe, -k_sTry, ok, ht, en]
          refine wpC (w_choice hD (by omega) (by omega) fun r S1 hr D1 f1 => ?_)
          have gt : oGt (.int r) (.int 0) = some (.bl (decide (0 < r))) := by
            have : ((0 : Int) < r) ↔ 0 < r := by omega
            simp [oGt, this]
          by_cases c : 0 < r
          · rw [decide_eq_true c] at gt
            obtain ⟨k1, n3, Ts⟩ := T.tup
            have lpos : 0 < xs.length := by
              cases xs with
              | nil => cases hx
              | cons x xs => simp
            have ll : 2 * xs.length ≤ n := by
              have h1 := wts_len xs
              have h2 := Ts.w
              omega
            have ln := ln_tupX xs
            simp (implicitDefEqProofs := false) [-k_sSeq, Ss.wipe, -k_sTry, gt]
            refine wpS ?_
            simp (implicitDefEqProofs := false) [-k_sSeq, Ss.wipe, -k_sTry, ln]
            refine wpC (w_choice D1 (by omega) (by omega) fun at_ S2 ha D2 f2 => ?_)
            have ha : at_ < xs.length := by omega
            obtain ⟨y, hy⟩ : ∃ y, xs[at_]? = some y := ⟨_, List.getElem?_eq_getElem ha⟩
            obtain ⟨a, e, c, habc, Ta, Tb, Tc⟩ := Ts.split hy
            have st := sl_toX xs at_
            have sf : slA (.tup xs) (some ((at_ : Int) + 1)) none = some (.tup (xs.drop (at_ + 1))) := sl_fromX xs (at_ + 1)
            have ad1 : oAdd (.int at_) (.int 1) = some (.int ((at_ : Int) + 1)) := rfl
            have ix : ∀ S', ixA S' (.tup xs) (.int at_) = some y := fun S' => by rw [ix_t]; exact hy
            have imy := Tb.imm
            have ih := w_bentX m (S := S2) (Q := fun d S' => TX (b + 64) (k - 1 + 1) (3 * e + 700) d ∧ Dr S' l ∧ Fr [l] S2 S') (E := noE) Tb hb (by omega) (by omega) (by omega) D2 (fun d S' h1 h2 h3 => ⟨h1, h2, h3⟩)
            obtain ⟨d, S3, e3, Td3, D3, f3⟩ := wp_ex ih
            have imd := Td3.imm
            have g1 := add_tupX (xs.take at_) [d] (by simp; omega)
            have g2 := add_tupX (xs.take at_ ++ [d]) (xs.drop (at_ + 1)) (by simp; omega)
            have R : TX (b + 64) (k + 1) (3 * n + 700) (.tup (xs.take at_ ++ [d] ++ xs.drop (at_ + 1))) := ((((Ta.up (by omega)).mono (k' := k) (by omega) (Nat.le_refl _)).app ((TXs.cons (Td3.mono (k' := k) (by omega) (Nat.le_refl _)) TXs.nil))).app ((Tc.up (by omega)).mono (k' := k) (by omega) (Nat.le_refl _))).tup.mono (by omega) (by omega)
            have K2 := kk _ S3 R D3 ((f1.tr f2).tr f3)
            simp (implicitDefEqProofs := false) [-k_sSeq, Ss.wipe, -k_sTry, oPart, asI, st, ix, e3, imd, g1, ad1, sf, g2, imy]
            rw [List.append_assoc] at K2
            exact K2
          · rw [decide_eq_false c] at gt
            simp (implicitDefEqProofs := false) [-k_sSeq, Ss.wipe, -k_sTry, gt]
            exact ⟨S1, rfl, D1, f1⟩
      · have ht' : isT "tuple" x = false := by simpa using ht
        simp (implicitDefEqProofs := false) [-k_sSeq, Ss.wipe, -k_sTry, ok, ht']
        exact ⟨S, rfl, hD, Fr.refl _ _⟩
    · cases f with
      | bk => exact hI.elim
      | ct => exact hI.elim
      | rt d => exact hI
      | nx =>
        obtain ⟨S1, rfl, D1, f1⟩ := hI
        rw [afS_nx]
        refine wpS ?_
        simp (implicitDefEqProofs := false) [-k_sSeq, Ss.wipe, -k_sTry]
        refine wpC (w_choice D1 (by omega) (by omega) fun way S2 hw D2 f2 => ?_)
        have lt6 : oLt (.int way) (.int 6) = some (.bl (decide (way < 6))) := ltnX way 6
        have lt4 : oLt (.int way) (.int 4) = some (.bl (decide (way < 4))) := ltnX way 4
        have K2 := fun d S3 h D3 f3 => kk d S3 h D3 ((f1.tr f2).tr f3)
        simp (implicitDefEqProofs := false) [-k_sSeq, Ss.wipe, -k_sTry]
        by_cases ht : isT "tuple" x = true
        · obtain ⟨xs, rfl⟩ : ∃ xs, x = .tup xs := by
            cases x <;> first | exact ⟨_, rfl⟩ | (simp [isT] at ht)
          have t1 : isT "int" (.tup xs) = false := rfl
          have t2 : isT "str" (.tup xs) = false := rfl
          by_cases c : way < 6
          · rw [decide_eq_true c] at lt6
            obtain ⟨k1, n3, Ts⟩ := T.tup
            have ll : 2 * xs.length ≤ n := by
              have h1 := wts_len xs
              have h2 := Ts.w
              omega
            have s1 := sl_m1 xs
            have s2 := sl_t1 xs
            have s3 : slA (.tup xs) (some 1) none = some (.tup (xs.drop 1)) := sl_fromX xs 1
            have s4 : revA (.tup xs) = some (.tup xs.reverse) := rfl
            have s5 : ∀ S', fL true fList S' [.tup xs] = some (.lst true xs) := fun _ => rfl
            have g1 := add_tupX xs (xs.drop (xs.length - 1)) (by simp; omega)
            have g2 := add_tupX xs [.int 0] (by simp; omega)
            have ng : oNeg (.int 1) = some (.int (-1)) := rfl
            have i1 := fun S' => ix_l S' false [.tup (xs ++ xs.drop (xs.length - 1)), .tup (xs.take (xs.length - 1)), .tup (xs.drop 1), .tup xs.reverse, .lst false xs, .tup (xs ++ [.int 0])] way
            have U := Ts.up (b' := b + 64) (by omega)
            obtain ⟨d, hd, R⟩ : ∃ d, ([.tup (xs ++ xs.drop (xs.length - 1)), .tup (xs.take (xs.length - 1)), .tup (xs.drop 1), .tup xs.reverse, .lst false xs, .tup (xs ++ [.int 0])] : List AV)[way]? = some d ∧ TX (b + 64) (k + 1) (3 * n + 700) d := by
              have hz : TX (b + 64) (k - 1) 129 (.int 0) := ⟨by simp [gX], by simp [dX], by simp [wX]⟩
              have hw5 : way = 0 ∨ way = 1 ∨ way = 2 ∨ way = 3 ∨ way = 4 ∨ way = 5 := by omega
              rcases hw5 with rfl | rfl | rfl | rfl | rfl | rfl
              · exact ⟨_, rfl, (U.app (U.drop _)).tup.mono (by omega) (by omega)⟩
              · exact ⟨_, rfl, (U.take _).tup.mono (by omega) (by omega)⟩
              · exact ⟨_, rfl, (U.drop _).tup.mono (by omega) (by omega)⟩
              · exact ⟨_, rfl, U.rev.tup.mono (by omega) (by omega)⟩
              · exact ⟨_, rfl, U.lst.mono (by omega) (by omega)⟩
              · exact ⟨_, rfl, (U.app (TXs.cons hz TXs.nil)).tup.mono (by omega) (by omega)⟩
            rw [hd] at i1
            have imd := R.imm
            have K3 := K2 _ S2 R D2 (Fr.refl _ _)
            generalize xs.drop 1 = ys at *
            refine wpS ?_
            simp (implicitDefEqProofs := false) [-k_sSeq, Ss.wipe, -k_sTry, ok, ht, lt6, oPart, asI, s1, s2, s3, s4, s5, g1, g2, ng, i1, imd]
            exact K3
          · rw [decide_eq_false c] at lt6
            refine wpS ?_
            simp (implicitDefEqProofs := false) [-k_sSeq, Ss.wipe, -k_sTry, ok, ht, lt6]
            refine wpS ?_
            simp (implicitDefEqProofs := false) [-k_sSeq, Ss.wipe, -k_sTry, ok, t1]
            refine wpS ?_
            simp (implicitDefEqProofs := false) [-k_sSeq, Ss.wipe, -k_sTry, ok, t2]
            refine wpC (w_oddL D2 fun d S3 hd D3 f3 => ?_)
            have K3 := K2 d S3 ((((oddL_td d hd).up (by omega)).mono (by omega) (by omega))) D3 f3
            simp (implicitDefEqProofs := false) [-k_sSeq, Ss.wipe, -k_sTry]
            exact K3
        · have ht' : isT "tuple" x = false := by simpa using ht
          refine wpS ?_
          simp (implicitDefEqProofs := false) [-k_sSeq, Ss.wipe, -k_sTry, ok, ht']
          by_cases hi : isT "int" x = true
          · by_cases hb2 : isT "bool" x = true
            · obtain ⟨z, rfl⟩ : ∃ z, x = .bl z := by
                cases x <;> first | exact ⟨_, rfl⟩ | (simp [isT] at hb2)
              have t2 : isT "str" (.bl z) = false := rfl
              refine wpS ?_
              simp (implicitDefEqProofs := false) [-k_sSeq, Ss.wipe, -k_sTry, ok, hi, hb2]
              refine wpS ?_
              simp (implicitDefEqProofs := false) [-k_sSeq, Ss.wipe, -k_sTry, ok, t2]
              refine wpC (w_oddL D2 fun d S3 hd D3 f3 => ?_)
              have K3 := K2 d S3 ((((oddL_td d hd).up (by omega)).mono (by omega) (by omega))) D3 f3
              simp (implicitDefEqProofs := false) [-k_sSeq, Ss.wipe, -k_sTry]
              exact K3
            · obtain ⟨i, rfl⟩ : ∃ i, x = .int i := by
                cases x <;> first | exact ⟨_, rfl⟩ | (simp [isT] at hi hb2)
              have t1 : isT "bool" (.int i) = false := rfl
              have t2 : isT "str" (.int i) = false := rfl
              by_cases c : way < 6
              · rw [decide_eq_true c] at lt6
                have ng1 : oNeg (.int 1) = some (.int (-1)) := rfl
                have ng9 : oNeg (.int 9) = some (.int (-9)) := rfl
                have i1 := fun S' => ix_l S' false [.int 1, .int (-1), .int 2, .int (-9), .int 63, .int 16] way
                obtain ⟨j, hj, hjl⟩ : ∃ j : Int, ([.int 1, .int (-1), .int 2, .int (-9), .int 63, .int 16] : List AV)[way]? = some (.int j) ∧ j.natAbs ≤ 63 := by
                  have hw5 : way = 0 ∨ way = 1 ∨ way = 2 ∨ way = 3 ∨ way = 4 ∨ way = 5 := by omega
                  rcases hw5 with rfl | rfl | rfl | rfl | rfl | rfl
                  · exact ⟨1, rfl, by decide⟩
                  · exact ⟨-1, rfl, by decide⟩
                  · exact ⟨2, rfl, by decide⟩
                  · exact ⟨-9, rfl, by decide⟩
                  · exact ⟨63, rfl, by decide⟩
                  · exact ⟨16, rfl, by decide⟩
                rw [hj] at i1
                have g := T.g
                have hib : i.natAbs < b := by simpa [gX] using g
                have R : TX (b + 64) (k + 1) (3 * n + 700) (.int (i + j)) := ⟨by simp only [gX, decide_eq_true_eq]; omega, by simp [dX], by simp only [wX]; omega⟩
                have ad : oAdd (.int i) (.int j) = some (.int (i + j)) := rfl
                have K3 := K2 _ S2 R D2 (Fr.refl _ _)
                generalize i + j = z at *
                refine wpS ?_
                simp (implicitDefEqProofs := false) [-k_sSeq, Ss.wipe, -k_sTry, ok, hi, t1, lt6, ng1, ng9, i1, ad]
                exact K3
              · rw [decide_eq_false c] at lt6
                refine wpS ?_
                simp (implicitDefEqProofs := false) [-k_sSeq, Ss.wipe, -k_sTry, ok, hi, t1, lt6]
                refine wpS ?_
                simp (implicitDefEqProofs := false) [-k_sSeq, Ss.wipe, -k_sTry, ok, t2]
                refine wpC (w_oddL D2 fun d S3 hd D3 f3 => ?_)
                have K3 := K2 d S3 ((((oddL_td d hd).up (by omega)).mono (by omega) (by omega))) D3 f3
                simp (implicitDefEqProofs := false) [-k_sSeq, Ss.wipe, -k_sTry]
                exact K3
          · have hi' : isT "int" x = false := by simpa using hi
            refine wpS ?_
            simp (implicitDefEqProofs := false) [-k_sSeq, Ss.wipe, -k_sTry, ok, hi']
            by_cases hs : isT "str" x = true
            · obtain ⟨z, rfl⟩ : ∃ z, x = .str z := by
                cases x <;> first | exact ⟨_, rfl⟩ | (simp [isT] at hs)
              obtain ⟨az, lz⟩ := tX_strI T
              by_cases c : way < 4
              · rw [decide_eq_true c] at lt4
                have s1 : oAdd (.str z) (.str "s") = some (.str (z ++ "s")) := by
                  have e : oAdd (.str z) (.str "s") = if z.length + ("s" : Str).length ≤ 16777216 then some (.str (z ++ "s")) else none := rfl
                  have l1 : ("s" : Str).length = 1 := by decide +kernel
                  rw [e, if_pos (by omega)]
                have s2 : slA (.str z) (some 1) none = some (.str (cutS z (some 1) none)) := by
                  have e : slA (.str z) (some 1) none = if z.length ≤ 16777216 then some (.str (cutS z (some 1) none)) else none := rfl
                  rw [e, if_pos (by omega)]
                have s3 : upA (.str z) = some (.str (Txt.upper z)) := by
                  have e : upA (.str z) = if z.length ≤ 5592405 then some (.str (Txt.upper z)) else none := rfl
                  rw [e, if_pos (by omega)]
                have i1 := fun S' => ix_l S' false [.str (z ++ "s"), .str (cutS z (some 1) none), .str (Txt.upper z), .str "trim"] way
                obtain ⟨d, hd, R⟩ : ∃ d, ([.str (z ++ "s"), .str (cutS z (some 1) none), .str (Txt.upper z), .str "trim"] : List AV)[way]? = some d ∧ TX (b + 64) (k + 1) (3 * n + 700) d := by
                  have hw5 : way = 0 ∨ way = 1 ∨ way = 2 ∨ way = 3 := by omega
                  rcases hw5 with rfl | rfl | rfl | rfl
                  · refine ⟨_, rfl, tX_str (asc_app az (by decide +kernel)) ?_⟩
                    have l1 : ("s" : Str).length = 1 := by decide +kernel
                    have : (z ++ "s").length = z.length + ("s" : Str).length := by
                      show (z ++ "s").cps.size = z.cps.size + ("s" : Str).cps.size
                      rw [PySem.Str.cps_append, Array.size_append]
                    omega
                  · refine ⟨_, rfl, tX_str (asc_cut az _ _) ?_⟩
                    have := len_cut z (some 1) none
                    omega
                  · refine ⟨_, rfl, tX_str (asc_upper az) ?_⟩
                    have := len_upper z
                    omega
                  · refine ⟨_, rfl, tX_str (by decide +kernel) ?_⟩
                    have : ("trim" : Str).length = 4 := by decide +kernel
                    omega
                rw [hd] at i1
                have imd := R.imm
                have K3 := K2 _ S2 R D2 (Fr.refl _ _)
                generalize z ++ "s" = z1 at *
                generalize Txt.upper z = z2 at *
                generalize cutS z (some 1) none = z3 at *
                refine wpS ?_
                simp (implicitDefEqProofs := false) [-k_sSeq, Ss.wipe, -k_sTry, ok, hs, lt4, oPart, asI, s1, s2, s3, i1, imd]
                exact K3
              · rw [decide_eq_false c] at lt4
                refine wpS ?_
                simp (implicitDefEqProofs := false) [-k_sSeq, Ss.wipe, -k_sTry, ok, hs, lt4]
                refine wpC (w_oddL D2 fun d S3 hd D3 f3 => ?_)
                have K3 := K2 d S3 ((((oddL_td d hd).up (by omega)).mono (by omega) (by omega))) D3 f3
                simp (implicitDefEqProofs := false) [-k_sSeq, Ss.wipe, -k_sTry]
                exact K3
            · have hs' : isT "str" x = false := by simpa using hs
              refine wpS ?_
              simp (implicitDefEqProofs := false) [-k_sSeq, Ss.wipe, -k_sTry, ok, hs']
              refine wpC (w_oddL D2 fun d S3 hd D3 f3 => ?_)
              have K3 := K2 d S3 ((((oddL_td d hd).up (by omega)).mono (by omega) (by omega))) D3 f3
              simp (implicitDefEqProofs := false) [-k_sSeq, Ss.wipe, -k_sTry]
              exact K3
end
end Fk
-- base: k20
/-! ## law k20 -/
namespace Fk
open PySem PySem.Spec PyProof.Rows L2
theorem wpLP {α : Type} {e : α → AV} {t : Tg} {tt : M Bool} {te : M AV} {vs : List Nat} {st : Ss} {Q : List AV → Ss → Prop} {E : Str → Ss → Prop} {xs : List α} (p : α → Bool) (g : α → AV)
    (h : ∀ x ∈ xs, ∃ s0, t (e x) st = some s0 ∧ WpR (tt s0) (fun b s1 => b = p x ∧ (b = false → s1.wipe vs = st) ∧ (b = true → WpR (te s1) (fun y s2 => y = g x ∧ s2.wipe vs = st) noE)) noE)
    (hl : xs.length ≤ 16777216) (hQ : Q ((xs.filter p).map g) st) : WpR (compM t tt te vs (xs.map e) [] st) Q E := by
  have key : ∀ (xs : List α) (acc : List AV), (∀ x ∈ xs, ∃ s0, t (e x) st = some s0 ∧ WpR (tt s0) (fun b s1 => b = p x ∧ (b = false → s1.wipe vs = st) ∧ (b = true → WpR (te s1) (fun y s2 => y = g x ∧ s2.wipe vs = st) noE)) noE) →
      acc.length + xs.length ≤ 16777216 → compM t tt te vs (xs.map e) acc st = .ok (acc ++ (xs.filter p).map g) st := by
    intro xs
    induction xs with
    | nil => intro acc _ _; simp [compM]
    | cons d ds ih =>
      intro acc h hl
      have hl2 : acc.length + (ds.length + 1) ≤ 16777216 := hl
      obtain ⟨s0, e1, w⟩ := h d (by simp)
      obtain ⟨b, s1, e2, rfl, h3, h4⟩ := wp_ex w
      rw [List.map_cons]
      unfold compM
      rw [e1]
      simp only [e2]
      cases c : p d with
      | false =>
        simp only
        rw [h3 c, ih acc (fun d hd => h d (by simp [hd])) (by omega), List.filter_cons, c]
        rfl
      | true =>
        obtain ⟨x, s2, e5, rfl, e6⟩ := wp_ex (h4 c)
        simp only [e5]
        rw [if_pos (by omega), e6, ih (acc ++ [g d]) (fun d hd => h d (by simp [hd])) (by simp; omega), List.filter_cons, c]
        simp
  rw [key xs [] h (by simpa using hl)]
  exact ⟨hQ⟩
def b20 : Nat := 2 ^ 100 + 128
def Tq (x : AV) : Prop := TX b20 6 20000 x
theorem Tq.of {b k n : Nat} {x : AV} (h : TX b k n x) (hb : b ≤ b20) (hk : k ≤ 6) (hn : n ≤ 20000) : Tq x := (h.up hb).mono hk hn
theorem tX_int {b : Nat} {i : Int} (h : i.natAbs < b) : TX b 0 129 (.int i) := ⟨by simpa [gX] using h, by simp [dX], by simp [wX]⟩
theorem tX_row {x : Nat × Nat} (h1 : x.1 < 16) (h2 : x.2 ≤ 63) : TX (2 ^ 100) 1 265 (rowA2 x) :=
  (TXs.cons (k := 0) (tX_int (i := (x.1 : Int)) (by omega)) (TXs.cons (tX_int (i := (x.2 : Int)) (by omega)) TXs.nil)).tup
theorem tX_rows : ∀ {rows : List (Nat × Nat)}, (∀ x ∈ rows, x.1 < 16 ∧ x.2 ≤ 63) → TXs (2 ^ 100) 1 (267 * rows.length) (rows.map rowA2)
  | [], _ => (TXs.nil (k := 1)).mono (Nat.le_refl _) (by omega)
  | x :: rows, h => by
    have h1 := h x (by simp)
    have ih := tX_rows (rows := rows) fun y hy => h y (by simp [hy])
    exact (TXs.cons (tX_row h1.1 h1.2) ih).mono (Nat.le_refl _) (by simp; omega)
theorem tX_ord {P : Pln} (hP : okP P) {o : Ord} (h : okO P o) : TX (2 ^ 100) 3 1300 o.av := by
  have q16 := hP.q16
  have s : ∀ z : Str, tXB (2 ^ 100) 0 60 (.str z) = true → TX (2 ^ 100) 0 60 (.str z) := fun z hz => tXB_ok hz
  cases o with
  | rd q => exact ((TXs.cons (s "read" (by decide +kernel)) (TXs.cons (tX_int (i := (q : Int)) (by have : q < P.q := h; omega)) TXs.nil)).tup).mono (by omega) (by omega)
  | md => exact ((TXs.cons (s "mend" (by decide +kernel)) TXs.nil).tup).mono (by omega) (by omega)
  | wr q d => exact ((TXs.cons (s "write" (by decide +kernel)) (TXs.cons (tX_int (i := (q : Int)) (by have := h.1; omega)) (TXs.cons (tX_int (i := (d : Int)) (by have := h.2; omega)) TXs.nil))).tup).mono (by omega) (by omega)
  | tr q => exact ((TXs.cons (s "trim" (by decide +kernel)) (TXs.cons (tX_int (i := (q : Int)) (by have : q < P.q := h; omega)) TXs.nil)).tup).mono (by omega) (by omega)
  | gr rows =>
    obtain ⟨r1, r4, rr, rnd⟩ := h
    have t := (tX_rows (rows := rows) fun x hx => ⟨by have := (rr x hx).1; omega, (rr x hx).2⟩).tup
    exact ((TXs.cons ((s "group" (by decide +kernel)).mono (k' := 2) (by omega) (Nat.le_refl _)) (TXs.cons t TXs.nil)).tup).mono (by omega) (by omega)
section
variable {S : List AV} {P : Pln}
theorem x_is_plan20 (hP : okP P) : m_is_plan [P.av] S = .ok (.bl true) S := by
  have q1 := hP.q1
  have q16 := hP.q16
  have qs := hP.qs
  have b3 := hP.b3
  have b8 := hP.b8
  have p2 := hP.p2
  have p8 := hP.p8
  have e1 : oSub (.int P.b) (.int 2) = some (.int ((P.b - 2 : Nat) : Int)) := a_sub (b := 2) (by omega)
  have e2 : oMul (.int ((P.b - 2 : Nat) : Int)) (.int P.p) = some (.int (((P.b - 2) * P.p : Nat) : Int)) := a_mul (by omega)
  have e3 : oSub (.int (((P.b - 2) * P.p : Nat) : Int)) (.int 5) = some (.int (((P.b - 2) * P.p - 5 : Nat) : Int)) := a_sub (b := 5) (by omega)
  have e4 := f_min2 S 16 (((P.b - 2) * P.p - 5 : Nat) : Int)
  have w1 : m_is_within [.int P.b, .int 3, .int 8] S = .ok (.bl true) S := by rw [x_is_within]; simp; omega
  have w2 : m_is_within [.int P.p, .int 2, .int 8] S = .ok (.bl true) S := by rw [x_is_within]; simp; omega
  have w3 : m_is_within [.int P.q, .int 1, .int (min 16 (((P.b - 2) * P.p - 5 : Nat) : Int))] S = .ok (.bl true) S := by rw [x_is_within]; simp; omega
  have ne5 : oNe (.int 5) (.int 5) = some (.bl false) := by kernel_rfl
  generalize min 16 (((P.b - 2) * P.p - 5 : Nat) : Int) = z at e4 w3
  generalize (P.b - 2) * P.p - 5 = z1 at e3 e4
  generalize (P.b - 2) * P.p = z2 at e2 e3
  generalize P.b - 2 = z3 at e1 e2
  unfold m_is_plan Pln.av
  rw [fnM_ret]
  simp (implicitDefEqProofs := false) [okT, i_tup, fLen, deref, lenA, ne5, w1, w2, e1, e2, e3, e4, w3, asB, isT]
theorem x_is_order20 (hP : okP P) {x : AV} (h : Tq x) : m_is_order [P.av, x] S = .ok (.bl (ordB P.q x)) S := by
  have xp := x_is_plan20 (S := S) hP
  have xn : m_need_plan [P.av] S = .ok .non S := by
    unfold m_need_plan
    generalize P.av = A at xp
    rw [fnM_ret]
    simp (implicitDefEqProofs := false) [xp]
  have xo := x_is_order_ofX (S := S) (P := P) h (by omega)
  unfold m_is_order
  generalize P.av = A at *
  rw [fnM_ret]
  simp (implicitDefEqProofs := false) [xn, xo]
theorem x_same20 (b : Bool) : m__law_same [.bl b, .bl b] S = .ok (.bl true) S := by
  cases b <;> kernel_rfl
theorem rp20 (hP : okP P) {x : AV} (h : Tq x) : ∃ t : Str, ∀ S, fRepX S [.tup [P.av, x]] = some (.str t) := by
  have b8 := hP.b8
  have p8 := hP.p8
  have q16 := hP.q16
  have tb : ∀ z : Bool, TX b20 0 129 (.bl z) := fun z => ⟨rfl, by simp [dX], by simp [wX]⟩
  have ti : ∀ n : Nat, n ≤ 16 → TX b20 0 129 (.int n) := fun n hn => tX_int (by unfold b20; omega)
  have tp : TX b20 1 700 P.av := ((TXs.cons (ti P.b (by omega)) (TXs.cons (ti P.p (by omega)) (TXs.cons (ti P.q (by omega)) (TXs.cons (tb P.s) (TXs.cons (tb P.c) TXs.nil)))))).tup.mono (by omega) (by omega)
  have t2 : TX b20 7 30000 (.tup [P.av, x]) := ((TXs.cons (tp.mono (k' := 6) (by omega) (Nat.le_refl _)) (TXs.cons h TXs.nil)).tup).mono (by omega) (by omega)
  exact ⟨_, fun S => fRepX_ok (t2.sh (by unfold b20; decide)) (by omega) (by omega)⟩
end
end Fk
-- base: k20
/-! ## law k20: orders looked at -/
namespace Fk
open PySem PySem.Spec PyProof.Rows L2
theorem add_O {xs ys : List AV} {o p : Bool} (h : xs.length + ys.length ≤ 1000) : oAddO (.lst o xs) (.lst p ys) = some (.lst true (xs ++ ys)) := by
  have e : oAddO (.lst o xs) (.lst p ys) = if xs.length + ys.length ≤ 16777216 then some (.lst true (xs ++ ys)) else none := rfl
  rw [e, if_pos (by omega)]
def lw20 (ns : List Int) (st : Ss) : Prop := ∃ a1 a2 a3 a4 a5 a6 a7 a8 a9 a10 a11 S, st = ⟨[.im (.scr (ns.map AV.int)), a1, a2, a3, a4, a5, a6, a7, a8, a9, a10, a11, .no], S⟩
def la20 (T J A LS : AV) (l : Nat) (S : List AV) (n : Nat) (st : Ss) : Prop := ∃ a6 a7 a8 a9 a10 a11 L, st = ⟨[.im T, .im J, .im (.loc l), .im A, .im LS, .ow (.lst true L), a6, a7, a8, a9, a10, a11, .no], S⟩ ∧ (∀ x ∈ L, Tq x) ∧ L.length ≤ 11 + n
def lb20 (T J A LS : AV) (l : Nat) (n : Nat) (st : Ss) : Prop := ∃ a6 a7 a8 a9 a10 a11 L S, st = ⟨[.im T, .im J, .im (.loc l), .im A, .im LS, .ow (.lst true L), a6, a7, a8, a9, a10, a11, .no], S⟩ ∧ (∀ x ∈ L, Tq x) ∧ L.length ≤ 13 + 5 * n ∧ Dr S l
theorem tq_app {L M : List AV} (h1 : ∀ x ∈ L, Tq x) (h2 : ∀ x ∈ M, Tq x) : ∀ x ∈ L ++ M, Tq x := fun x hx => (List.mem_append.mp hx).elim (h1 x) (h2 x)
theorem tq2 {w : Str} (hw : tXB (2 ^ 100) 0 60 (.str w) = true) {i : Int} (hi : i.natAbs < 2 ^ 100) : Tq (.tup [.str w, .int i]) :=
  Tq.of (TXs.cons (k := 0) (tXB_ok hw) (TXs.cons (tX_int hi) TXs.nil)).tup (by unfold b20; omega) (by omega) (by omega)
theorem tq3 {w : Str} (hw : tXB (2 ^ 100) 0 60 (.str w) = true) {i j : Int} (hi : i.natAbs < 2 ^ 100) (hj : j.natAbs < 2 ^ 100) : Tq (.tup [.str w, .int i, .int j]) :=
  Tq.of (TXs.cons (k := 0) (tXB_ok hw) (TXs.cons (tX_int hi) (TXs.cons (tX_int hj) TXs.nil))).tup (by unfold b20; omega) (by omega) (by omega)
theorem tq_all {L : List AV} (h : L.all (tXB (2 ^ 100) 6 20000) = true) : ∀ x ∈ L, Tq x := fun x hx => (tXB_all h x hx).up (by unfold b20; omega)
theorem w_bent20 {S : List AV} {l : Nat} {Q : AV → List AV → Prop} {E : Str → List AV → Prop} {b k n : Nat} {x : AV} (T : TX b k n x) (hb : 2 ^ 100 ≤ b) (hk : k ≤ 5) (hn : n ≤ 1000000) (hD : Dr S l) (kk : ∀ d S', TX (b + 64) (k + 1) (3 * n + 700) d → Dr S' l → Fr [l] S S' → Q d S') : WpR (m__law_bent [.loc l, x] S) Q E :=
  w_bentX 6 T hb (by omega) (by omega) hn hD kk
theorem av_ord (o : Ord) : ∃ xs, o.av = .tup xs := by cases o <;> exact ⟨_, rfl⟩
theorem eq020 (r : Nat) : oEq (.int r) (.int 0) = some (.bl (decide (r = 0))) := eqnX r 0
theorem pure_law (ns : List Int) (hl : ns.length ≤ 63) (hb : ∀ z ∈ ns, Builtin.Int.intBits z ≤ 1048576) : ∃ S, m_law [.scr (ns.map AV.int)] [] = .ok (.bl true) S := by
  have main : WpR (m_law [.scr (ns.map AV.int)] []) (fun d _ => d = .bl true) noE := by
    refine wpF ?_
    obtain ⟨m, hm, h4⟩ : ∃ m : Nat, max (1 : Int) (min (ns.length : Int) 4) = m ∧ m ≤ 4 := ⟨max 1 (min ns.length 4), by omega, by omega⟩
    refine wpS ?_
    simp (implicitDefEqProofs := false) [-k_sSeq, Ss.wipe, -k_sTry, fLen, deref, lenA, f_min2, f_max2, hm, rng_nat (n := m) (by omega)]
    refine wpO (fun _ => lw20 ns) ⟨_, _, _, _, _, _, _, _, _, _, _, _, rfl⟩ (fun j d st hd hI => ?_) fun st hI => ?_
    · obtain ⟨a1, a2, a3, a4, a5, a6, a7, a8, a9, a10, a11, S, rfl⟩ := hI
      obtain ⟨rfl, hj⟩ := rng_mem hd
      refine ⟨_, rfl, ?_⟩
      generalize hT : AV.scr (ns.map AV.int) = T
      refine wpS ?_
      simp (implicitDefEqProofs := false) [-k_sSeq, Ss.wipe, -k_sTry]
      rw [← hT]
      refine wpC (w_state fun S1 D1 _ => ?_)
      generalize S.length = l at D1
      rw [hT]
      simp (implicitDefEqProofs := false) [-k_sSeq, Ss.wipe, -k_sTry]
      refine wpS ?_
      simp (implicitDefEqProofs := false) [-k_sSeq, Ss.wipe, -k_sTry]
      refine wpC (w_choice D1 (by omega) (by omega) fun r1 S2 hr1 D2 f2 => ?_)
      have e1 := eq020 r1
      generalize decide (r1 = 0) = s1 at e1
      simp (implicitDefEqProofs := false) [-k_sSeq, Ss.wipe, -k_sTry, e1]
      refine wpC (w_choice D2 (by omega) (by omega) fun r2 S3 hr2 D3 f3 => ?_)
      have e2 := eq020 r2
      generalize decide (r2 = 0) = s2 at e2
      simp (implicitDefEqProofs := false) [-k_sSeq, Ss.wipe, -k_sTry, e2]
      refine wpC (w_plan4 D3 fun P S4 hP h24 hPs hPc D4 f4 => ?_)
      have imP : imm P.av = true := rfl
      have q1 := hP.q1
      have q16 := hP.q16
      have i2 : ∀ S', ixA S' P.av (.int 2) = some (.int P.q) := fun S' => ix_t S' _ 2
      have sb : oSub (.int P.q) (.int 1) = some (.int ((P.q : Int) - 1)) := rfl
      have xo := fun {S : List AV} {x : AV} (h : Tq x) => x_is_order20 (S := S) hP h
      have xl := fun {S : List AV} {x : AV} (h : Tq x) => x_law_is_orderX (S := S) (P := P) h (by omega) q16
      have wo := fun {Q : AV → List AV → Prop} {E : Str → List AV → Prop} {S1 : List AV} (D : Dr S1 l) k => w_order4 (Q := Q) (E := E) hP D k
      have rp := fun {x : AV} (h : Tq x) => rp20 hP h
      obtain ⟨z, hz, hz2⟩ : ∃ z : Int, z = (P.q : Int) - 1 ∧ z.natAbs ≤ 16 := ⟨_, rfl, by omega⟩
      rw [← hz] at sb
      obtain ⟨z1, hz1⟩ : ∃ z1, z1 = z + 1 := ⟨_, rfl⟩
      have ad : oAdd (.int z) (.int 1) = some (.int z1) := by rw [hz1]; rfl
      simp (implicitDefEqProofs := false) [-k_sSeq, Ss.wipe, -k_sTry]
      generalize hA : P.av = A at *
      refine wpS ?_
      simp (implicitDefEqProofs := false) [-k_sSeq, Ss.wipe, -k_sTry, i2, sb]
      have ng : oNeg (.int 1) = some (.int (-1)) := rfl
      have ml : oMul (.tup [.tup [.int 0, .int 0]]) (.int 2) = some (.tup [.tup [.int 0, .int 0], .tup [.int 0, .int 0]]) := by kernel_rfl
      have T0 : ∀ x ∈ ([.tup [.str "read", .int z], .tup [.str "read", .int z1], .tup [.str "trim", .int (-1)], .tup [.str "write", .int z, .int 63], .tup [.str "write", .int 0, .int 64], .tup [.str "mend", .int 0]] : List AV), Tq x := fun x hx => by
        simp only [List.mem_cons, List.not_mem_nil, or_false] at hx
        rcases hx with rfl | rfl | rfl | rfl | rfl | rfl
        · exact tq2 (by decide +kernel) (by omega)
        · exact tq2 (by decide +kernel) (by omega)
        · exact tq2 (by decide +kernel) (by omega)
        · exact tq3 (by decide +kernel) (by omega) (by omega)
        · exact tq3 (by decide +kernel) (by omega) (by omega)
        · exact tq2 (by decide +kernel) (by omega)
      have T1 : ∀ x ∈ ([.tup [.str "group", .tup []], .tup [.str "group", .tup [.tup [.int 0, .int 0], .tup [.int 0, .int 0]]], .tup [.str "group", .tup [.tup [.int 0, .int 0]]], .tup [.str "group", .lst false [.tup [.int 0, .int 0]]]] : List AV), Tq x := tq_all (by decide +kernel)
      have T2 : ∀ x ∈ ([.tup [.str "read"]] : List AV), Tq x := tq_all (by decide +kernel)
      have A1 : oAddO (.lst false [.tup [.str "read", .int z], .tup [.str "read", .int z1], .tup [.str "trim", .int (-1)], .tup [.str "write", .int z, .int 63], .tup [.str "write", .int 0, .int 64], .tup [.str "mend", .int 0]]) (.lst false [.tup [.str "group", .tup []], .tup [.str "group", .tup [.tup [.int 0, .int 0], .tup [.int 0, .int 0]]], .tup [.str "group", .tup [.tup [.int 0, .int 0]]], .tup [.str "group", .lst false [.tup [.int 0, .int 0]]]]) = _ := add_O (by simp)
      have H1 := tq_app T0 T1
      have N1 : ([.tup [.str "read", .int z], .tup [.str "read", .int z1], .tup [.str "trim", .int (-1)], .tup [.str "write", .int z, .int 63], .tup [.str "write", .int 0, .int 64], .tup [.str "mend", .int 0]] ++ [.tup [.str "group", .tup []], .tup [.str "group", .tup [.tup [.int 0, .int 0], .tup [.int 0, .int 0]]], .tup [.str "group", .tup [.tup [.int 0, .int 0]]], .tup [.str "group", .lst false [.tup [.int 0, .int 0]]]] : List AV).length = 10 := rfl
      refine wpS ?_
      simp (implicitDefEqProofs := false) [-k_sSeq, Ss.wipe, -k_sTry, ad, ng]
      generalize hL0 : ([.tup [.str "read", .int z], .tup [.str "read", .int z1], .tup [.str "trim", .int (-1)], .tup [.str "write", .int z, .int 63], .tup [.str "write", .int 0, .int 64], .tup [.str "mend", .int 0]] : List AV) = L0 at *
      generalize hL1 : ([.tup [.str "group", .tup []], .tup [.str "group", .tup [.tup [.int 0, .int 0], .tup [.int 0, .int 0]]], .tup [.str "group", .tup [.tup [.int 0, .int 0]]], .tup [.str "group", .lst false [.tup [.int 0, .int 0]]]] : List AV) = L1 at *
      refine wpS ?_
      rw [← hL1] at A1
      simp (implicitDefEqProofs := false) [-k_sSeq, Ss.wipe, -k_sTry, ml, A1, -afS_nx]
      rw [hL1, afS_nx]
      generalize hL2 : L0 ++ L1 = L2 at *
      have ll2 : L2.length < 16777216 := by omega
      refine wpS ?_
      simp (implicitDefEqProofs := false) [-k_sSeq, Ss.wipe, -k_sTry, ownL, putL, ll2, -afS_nx]
      rw [afS_nx]
      have H2 := tq_app H1 T2
      have N2 : (L2 ++ [AV.tup [.str "read"]]).length = 11 := by simp; omega
      generalize hL3 : L2 ++ [AV.tup [.str "read"]] = L3 at *
      refine wpS ?_
      simp (implicitDefEqProofs := false) [-k_sSeq, Ss.wipe, -k_sTry]
      refine wpO (la20 T (.int j) A (.int z) l S4) ⟨_, _, _, _, _, _, L3, rfl, H2, by omega⟩ (fun i d st hd hI => ?_) fun st hI => ?_
      · obtain ⟨a6, a7, a8, a9, a10, a11, L, rfl, hL, ln⟩ := hI
        have hd2 : (i = 0 ∧ d = .int 4) ∨ (i = 1 ∧ d = .int 5) := by
          match i, hd with
          | 0, hd => exact .inl ⟨rfl, by simpa using hd.symm⟩
          | 1, hd => exact .inr ⟨rfl, by simpa using hd.symm⟩
          | n + 2, hd => simp at hd
        obtain ⟨hi, n, rfl, hn⟩ : i ≤ 1 ∧ ∃ n : Nat, d = .int n ∧ n ≤ 5 := by
          rcases hd2 with ⟨rfl, rfl⟩ | ⟨rfl, rfl⟩
          · exact ⟨by omega, 4, rfl, by omega⟩
          · exact ⟨by omega, 5, rfl, by omega⟩
        refine ⟨_, rfl, ?_⟩
        have rn := rng_nat (n := n) (by omega)
        have el : ((List.range n).filter fun _ => true).map (fun (i : Nat) => AV.tup [.int (i : Int), .int (i : Int)]) = ((List.range n).map fun i => (i, i)).map rowA2 := by
          rw [List.filter_eq_self.mpr (fun _ _ => rfl), List.map_map]
          rfl
        have tg : Tq (.tup [.str "group", .tup (((List.range n).map fun i => (i, i)).map rowA2)]) := by
          have t := (tX_rows (rows := (List.range n).map fun i => (i, i)) fun x hx => by
            obtain ⟨i, hi, rfl⟩ := List.mem_map.mp hx
            have := List.mem_range.mp hi
            exact ⟨by simp only; omega, by simp only; omega⟩).tup
          have hs : TX (2 ^ 100) 2 72 (.str "group") := tXB_ok (by decide +kernel)
          have t2 := (TXs.cons hs (TXs.cons t TXs.nil)).tup
          exact Tq.of t2 (by unfold b20; omega) (by omega) (by simp; omega)
        generalize hZ : AV.tup (((List.range n).map fun i => (i, i)).map rowA2) = Z at *
        have fz : ∀ S', fTup S' [.lst false (((List.range n).map fun i => (i, i)).map rowA2)] = some Z := fun S' => by rw [← hZ]; rfl
        have lL : L.length < 16777216 := by omega
        simp (implicitDefEqProofs := false) [-k_sSeq, Ss.wipe, -k_sTry, rn]
        refine wpB (wpLP (fun _ => true) (fun (i : Nat) => AV.tup [.int (i : Int), .int (i : Int)]) (fun i hi => ?_) (by simp; omega) ?_)
        · refine ⟨_, rfl, ?_⟩
          simp (implicitDefEqProofs := false) [-k_sSeq, Ss.wipe, -k_sTry, iA]
        · rw [el]
          generalize ((List.range n).map fun i => (i, i)).map rowA2 = LL at *
          simp (implicitDefEqProofs := false) [-k_sSeq, Ss.wipe, -k_sTry, fz, ownL, putL, lL]
          exact ⟨_, _, _, _, _, _, L ++ [.tup [.str "group", Z]], rfl, tq_app hL fun x hx => by
            obtain rfl : x = .tup [.str "group", Z] := by simpa using hx
            exact tg, by simp; omega⟩
      · obtain ⟨a6, a7, a8, a9, a10, a11, L, rfl, hL, ln⟩ := hI
        rw [afS_nx]
        have ln13 : L.length ≤ 13 := by simpa using ln
        have r8 : rng1 [.int 8] = some ((List.range 8).map iA) := rng_nat (n := 8) (by omega)
        have rl : ((List.range 8).map iA).length = 8 := by simp
        generalize (List.range 8).map iA = N8 at r8 rl
        refine wpS ?_
        simp (implicitDefEqProofs := false) [-k_sSeq, Ss.wipe, -k_sTry, r8]
        refine wpO (lb20 T (.int j) A (.int z) l) ⟨_, _, _, _, _, _, L, S4, rfl, hL, by omega, D4⟩ (fun i d st hd hI => ?_) fun st hI => ?_
        · obtain ⟨a6, a7, a8, a9, a10, a11, L, S5, rfl, hL, ln, D5⟩ := hI
          have hi : i < 8 := by
            have := (List.getElem?_eq_some_iff.mp hd).1
            omega
          refine ⟨_, rfl, ?_⟩
          refine wpS ?_
          simp (implicitDefEqProofs := false) [-k_sSeq, Ss.wipe, -k_sTry]
          refine wpC (wo D5 fun o S6 ho D6 f6 => ?_)
          have to := tX_ord hP ho
          obtain ⟨xs, ex⟩ := av_ord o
          have fl : ∀ S', fL true fList S' [o.av] = some (.lst true xs) := fun S' => by rw [ex]; rfl
          have tl : Tq (.lst false xs) := by
            rw [ex] at to
            obtain ⟨k1, n3, Ts⟩ := to.tup
            exact Tq.of Ts.lst (by unfold b20; omega) (by omega) (by omega)
          generalize o.av = O at *
          have imO := to.imm
          simp (implicitDefEqProofs := false) [-k_sSeq, Ss.wipe, -k_sTry]
          refine wpS ?_
          simp (implicitDefEqProofs := false) [-k_sSeq, Ss.wipe, -k_sTry, imO]
          refine wpC (w_bent20 to (by omega) (by omega) (by omega) D6 fun x1 S7 t1 D7 f7 => ?_)
          have im1 := t1.imm
          simp (implicitDefEqProofs := false) [-k_sSeq, Ss.wipe, -k_sTry, imO, im1]
          refine wpC (w_bent20 t1 (by omega) (by omega) (by omega) D7 fun x2 S8 t2 D8 f8 => ?_)
          have im2 := t2.imm
          simp (implicitDefEqProofs := false) [-k_sSeq, Ss.wipe, -k_sTry, imO, im1, im2, fl]
          refine wpC (w_oddL D8 fun x3 S9 h3 D9 f9 => ?_)
          have t3 := oddL_td x3 h3
          have im3 := t3.imm
          have HH : ∀ x ∈ ([O, x1, x2, .lst false xs, x3] : List AV), Tq x := fun x hx => by
            simp only [List.mem_cons, List.not_mem_nil, or_false] at hx
            rcases hx with rfl | rfl | rfl | rfl | rfl
            · exact Tq.of to (by unfold b20; omega) (by omega) (by omega)
            · exact Tq.of t1 (by unfold b20; omega) (by omega) (by omega)
            · exact Tq.of t2 (by unfold b20; omega) (by omega) (by omega)
            · exact tl
            · exact Tq.of t3 (by unfold b20; omega) (by omega) (by omega)
          have A3 : oAddO (.lst false L) (.lst false [O, x1, x2, .lst false xs, x3]) = some (.lst true (L ++ [O, x1, x2, .lst false xs, x3])) := add_O (by simp; omega)
          have fin := tq_app hL HH
          have nn : (L ++ [O, x1, x2, .lst false xs, x3] : List AV).length = L.length + 5 := by simp
          simp (implicitDefEqProofs := false) [-k_sSeq, Ss.wipe, -k_sTry, A3, im3]
          exact ⟨_, _, _, _, _, _, L ++ [O, x1, x2, .lst false xs, x3], S9, rfl, fin, by omega, D9⟩
        · obtain ⟨a6, a7, a8, a9, a10, a11, L, S5, rfl, hL, ln, D5⟩ := hI
          have it : itemsOf (.lst false L) = some L := rfl
          have ll : L.length ≤ 53 := by
            rw [rl] at ln
            omega
          rw [afS_nx]
          simp (implicitDefEqProofs := false) [-k_sSeq, Ss.wipe, -k_sTry]
          refine wpO (fun _ st => ∃ a10 a11 s5, st = ⟨[.im T, .im (.int j), .im (.loc l), .im A, .im (.int z), s5, a6, a7, a8, a9, a10, a11, .no], S5⟩) ⟨_, _, _, rfl⟩ (fun i x st hd hI => ?_) fun st hI => ?_
          · obtain ⟨a10, a11, s5, rfl⟩ := hI
            have hx := hL x (List.mem_of_getElem? hd)
            have imx := TX.imm hx
            obtain ⟨t, rt⟩ := rp hx
            have nt := nesX t t
            rw [decide_eq_true rfl] at nt
            have x1 := xo (S := S5) hx
            have x2 := xl (S := S5) hx
            have sm := x_same20 (S := S5) (ordB P.q x)
            refine ⟨_, rfl, ?_⟩
            refine wpS ?_
            simp (implicitDefEqProofs := false) [-k_sSeq, Ss.wipe, -k_sTry, imP, imx, rt]
            simp (implicitDefEqProofs := false) [-k_sSeq, Ss.wipe, -k_sTry, imP, imx, rt, x1, x2, sm, nt]
          · obtain ⟨a10, a11, s5, rfl⟩ := hI
            exact ⟨_, _, _, _, _, _, _, _, _, _, _, S5, by rw [← hT]⟩
    · obtain ⟨a1, a2, a3, a4, a5, a6, a7, a8, a9, a10, a11, S, rfl⟩ := hI
      simp (implicitDefEqProofs := false) [-k_sSeq, Ss.wipe, -k_sTry]
  obtain ⟨a, S, e, rfl⟩ := wp_ex main
  exact ⟨S, e⟩
end Fk
open PySem PySem.W PySem.Calls PyProof.Rows
set_option maxRecDepth 100000 in
set_option maxHeartbeats 8000000 in
theorem PySem.Challenge.cw_flashkeep_k20_orders_looked_at_holds : PySem.Challenge.rw_flashkeep_k20_orders_looked_at.Holds := by
  w_on; o_law
  refine HandSHeadRun.head_any (r := OpenLaw.row PySem.Challenge.rw_flashkeep_k20_orders_looked_at) (q := view (OpenLaw.row PySem.Challenge.rw_flashkeep_k20_orders_looked_at).prog [33]) (H := Fk.Hd.hk) (ob := Fk.Hd.ob) (M := 20000) (loose := Fk.Hd.loose) (d := HandSHeadRun.topDef (OpenLaw.row PySem.Challenge.rw_flashkeep_k20_orders_looked_at).prog 33) (kwd := []) (Fk.obA_eq _ _ _ _)
    (by kernel_rfl) (fun s => by kernel_rfl) Fk.Hd.run (by kernel_rfl) (by kernel_rfl) (by kernel_rfl) (by rfl) (by first | assumption | decide +kernel) (by decide +kernel) ⟨rfl, rfl, rfl, rfl, rfl, by decide +kernel⟩ ?hw ?hc
  case hw => w_witness2
  case hc =>
    refine Fk.walk_endN (l := PySem.Challenge.rw_flashkeep_k20_orders_looked_at) (n := 63) (k := 9) (x := "_law_script") rfl (by decide) (by kernel_rfl) ⟨rfl, by decide, by decide⟩ ?_
    intro w mg fa h Y G hmg0
    obtain ⟨K, KX, c⟩ := Y
    have hmg : mg ("law" : PySem.Str) = some (.ref fa) := by
      have e : (HandSHeadRun.topDef (OpenLaw.row PySem.Challenge.rw_flashkeep_k20_orders_looked_at).prog 33).name = ("law" : PySem.Str) := by kernel_rfl
      rw [← e]
      exact hmg0
    obtain ⟨fd, hb, hF⟩ := Fk.facts (P := (PySem.Challenge.rw_flashkeep_k20_orders_looked_at).prog) (w := w) KX G hmg c
    exact ⟨K, fd, _, KX, hb, fun H a ns hl hbits hT hS => Fk.law_sp (Fk.pure_law ns hl hbits) hT hS, fun base h1 h2 => hF base h1 h2 (fun _ z => nomatch z)⟩
