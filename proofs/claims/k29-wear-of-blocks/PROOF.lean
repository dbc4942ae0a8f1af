import PyProof.Rows.All
import Wide.All
import OpenK.AllK
import Wide.FinOn
import KE.KStateDown
import KE.GoesEnum
import Lean
import HandS.ForMost
import HandS.Exc
import HandS.TryOnly
import HandS.TryMany
import HandS.ExcOwn
import HandS.WordsExc
import HandS.Defaults
import HandS.IsInst
import HandS.Wide
import HandS.Style
import HandS.Zip
import HandS.TupAny
import HandS.Flow
import HandS.Deep
import HandS.More
import HandS.SetKeys
import HandS.CallSlots
import HandS.Head0
import HandS.Head1
import HandS.Head2
import HandS.HeadEnd
import HandS.HeadHook1
import HandS.HeadHook2
import HandS.HeadHook4
import HandS.EndBits
import HandS.Evl
import PyProof.ReprRoads
import PyProof.ReprLen
import HandS.Strs
import PyProof.Rows.IntBool
import HandS.Lambda
import HandS.ExcCtx
import HandS.HotCalls
import HandS.SortInts
import PySem.Challenge.RW_flashkeep_k29_wear_of_blocks
set_option Elab.async false
set_option linter.all false
set_option maxRecDepth 100000
set_option maxHeartbeats 4000000
namespace Fk
open PySem PySem.Spec PyProof.Rows L2

/-- a function of the text that stands behind its name: promise, binding, the values that fill up -/
structure Cal (P : Program) (w : World) (K : PySem.W.Frag) (mg : Str → Option Value) (base : Heap) (k : Nat) (x : Str) (ps : List Str) (dvs : List V) (sp : Sp) : Prop where
  ex : ∃ (f : Addr) (fd : FuncData) (ds : List Value), FnOk P w K mg base (L2.CX P w) k f fd ps sp ∧ mg x = some (.ref f) ∧ PySem.W.keepIn K (.ref f) = true ∧ Binds K fd ps ds ∧ Vals dvs ds

section
variable {X : Cx} {k j : Nat} {x : Str} {ps : List Str} {dvs : List V} {sp : Sp} {E : XK} {p pos : Pos} {e : Expr} {es : List Expr} {t u : TA}
theorem pe_cal (F : Cal X.prog X.w X.K X.mg X.base k x ps dvs sp) (hr : Room j X.A) (hk : k ≤ j) (hg : Gl X x) (hx : Passes (L2.CX X.prog X.w) X E) (ha : PA X (e :: es) t)
    (hdb : (x == ("__debug__" : Str)) = false := by decide) (he : starEach (e :: es) X.env = (false, eval e X.env) :: starEach es X.env := by rfl) (hpl : (backTo pos (starEach es X.env)).any (·.1) = false := by rfl) :
    PE X (.Call (.Name x p) (e :: es) [] pos) (tCall sp dvs E t) := by
  obtain ⟨f, fd, ds, G, gm, kp, b, v⟩ := F.ex
  exact pe_call G (hr.mono hk) hg gm kp b v hx ha hdb he hpl
theorem pe_cal0 (F : Cal X.prog X.w X.K X.mg X.base k x ps dvs sp) (hr : Room j X.A) (hk : k ≤ j) (hg : Gl X x) (hx : Passes (L2.CX X.prog X.w) X E)
    (hdb : (x == ("__debug__" : Str)) = false := by decide) : PE X (.Call (.Name x p) [] [] pos) (tCall sp dvs E tNil) := by
  obtain ⟨f, fd, ds, G, gm, kp, b, v⟩ := F.ex
  exact pe_call0 G (hr.mono hk) hg gm kp b v hx hdb
/-- either reading serves -/
theorem pe_or {ex : Expr} {a b : TE} (h1 : PE X ex a) (h2 : PE X ex b) : PE X ex (fun σ H Q => a σ H Q ∨ b σ H Q) :=
  ⟨fun pins s σ H Q I h => h.elim (fun q => h1.run pins s σ H Q I q) (fun q => h2.run pins s σ H Q I q)⟩
theorem pi_or {tg it : Expr} {a b : TI} (h1 : PI X tg it a) (h2 : PI X tg it b) : PI X tg it (fun σ H R => a σ H R ∨ b σ H R) :=
  ⟨fun pins s σ H R I h => h.elim (fun q => h1.run pins s σ H R I q) (fun q => h2.run pins s σ H R I q)⟩
end

/-! ### operators, whatever the operands are -/
def uAdd (K : PySem.W.Frag) : R2 := fun x y H Q => (∃ i j, x = .int i ∧ y = .int j ∧ Q (.int (i + j)) H) ∨
  ((∃ i j, x = .str i ∧ y = .str j ∧ i.length + j.length ≤ sizeLine ∧ Q (.str (i ++ j)) H) ∨ (rCat x y H Q ∨ rCatA K x y H Q))
def uSub : R2 := rI0 fun i j => .int (i - j)
def uMul (K : PySem.W.Frag) : R2 := fun x y H Q => (rI CMul fun i j => .int (i * j)) x y H Q ∨ (rRep x y H Q)
def uFdv : R2 := fun x y H Q => (rI CDiv fun i j => .int (i / j)) x y H Q ∨ (rI CDivW fun i j => .int (i / j)) x y H Q
def uMod : R2 := rI (fun _ j => 0 < j) fun i j => .int (i % j)
def uPow : R2 := rI CPow fun i j => .int (i ^ j.toNat)
def uShl : R2 := rI CPow fun i j => .int (i * 2 ^ j.toNat)
def uShr : R2 := rI (fun _ j => 0 ≤ j) fun i j => .int (i / 2 ^ j.toNat)
def uAnd : R2 := rI0 fun i j => .int (Builtin.bitAnd i j)
def uOr : R2 := rI0 fun i j => .int (Builtin.bitOr i j)
def uXor : R2 := rI0 fun i j => .int (Builtin.bitXor i j)
def uLt : R2 := rI0 fun i j => .bl (decide (i < j))
def uLe : R2 := rI0 fun i j => .bl (decide (i ≤ j))
def uGt : R2 := rI0 fun i j => .bl (decide (j < i))
def uGe : R2 := rI0 fun i j => .bl (decide (j ≤ i))
def uEq (K : PySem.W.Frag) : R2 := fun x y H Q => rEq x y H Q ∨ rEqD K x y H Q
def uNe (K : PySem.W.Frag) : R2 := fun x y H Q => rNe x y H Q ∨ rNeD K x y H Q
def uIsN : R2 := fun x y H Q => (y = .non ∧ Q (.bl (decide (x = .non))) H) ∨ (∃ a b, x = .bl a ∧ y = .bl b ∧ Q (.bl (decide (a = b))) H)
def uNotN : R2 := fun x y H Q => (y = .non ∧ Q (.bl (!decide (x = .non))) H) ∨ (∃ a b, x = .bl a ∧ y = .bl b ∧ Q (.bl (!decide (a = b))) H)
section
variable {X : Cx}
theorem o_add : OpR X (binaryOp .Add) (uAdd X.K) := op_add.or (op_add_str.or (op_cat.or op_catA))
theorem o_sub : OpR X (binaryOp .Sub) uSub := op_sub
theorem o_mul : OpR X (binaryOp .Mult) (uMul X.K) := op_mul.or op_rep
theorem o_fdv : OpR X (binaryOp .FloorDiv) uFdv := op_fdiv.or op_fdivW
theorem o_mod : OpR X (binaryOp .Mod) uMod := op_mod
theorem o_pow : OpR X (binaryOp .Pow) uPow := op_pow
theorem o_shl : OpR X (binaryOp .LShift) uShl := op_shl
theorem o_shr : OpR X (binaryOp .RShift) uShr := op_shr
theorem o_and : OpR X (binaryOp .BitAnd) uAnd := op_and
theorem o_or : OpR X (binaryOp .BitOr) uOr := op_or
theorem o_xor : OpR X (binaryOp .BitXor) uXor := op_xor
theorem o_lt : OpR X (compareOp .Lt) uLt := op_lt
theorem o_le : OpR X (compareOp .LtE) uLe := op_le
theorem o_gt : OpR X (compareOp .Gt) uGt := op_gt
theorem o_ge : OpR X (compareOp .GtE) uGe := op_ge
theorem o_eq (hu : X.A.units + 64 < cLine) : OpR X (compareOp .Eq) (uEq X.K) := op_eq.or (op_eqD hu)
theorem o_ne (hu : X.A.units + 64 < cLine) : OpR X (compareOp .NotEq) (uNe X.K) := op_ne.or (op_neD hu)
theorem o_is : OpR X (compareOp .Is) uIsN := op_isN.or op_isBl
theorem o_nis : OpR X (compareOp .IsNot) uNotN := op_notN.or op_notBl
end
/-! ### built-ins -/
def uInt : List V → Hp → VK → Prop := fun xs H Q => (∃ i, xs = [.int i] ∧ Q (.int i) H) ∨ ∃ k, xs = [.bl k] ∧ Q (.int (if k then 1 else 0)) H
def uMax2 : List V → Hp → VK → Prop := fun xs H Q => ∃ i j, xs = [.int i, .int j] ∧ Q (.int (if j > i then j else i)) H
def uMin2 : List V → Hp → VK → Prop := fun xs H Q => ∃ i j, xs = [.int i, .int j] ∧ Q (.int (if j < i then j else i)) H
def uIter (K : PySem.W.Frag) (t : TE) : TI := fun σ H R => iList K t σ H R ∨ iTup K t σ H R
/-! ### exceptions of the text's own classes -/
structure ExcF (K : PySem.W.Frag) (mg : Str → Option Value) (x : Str) : Prop where
  gl : mg x = some (.ref (He.ga K x))
  ex : PySem.W.excIn K (He.ga K x) He.veBase "ValueError.__new__" = true
  kp : PySem.W.keepIn K (.ref (He.ga K x)) = true
  sub : PySem.W.subIn K (.ref (He.ga K x)) (.type "BaseException") = some true
  ty : PySem.W.typeIn K (.ref (He.ga K x)) = some (.type "type")
def tRz (E : XK) (C : Addr) : TS := fun _ _ H => E (.ref C) none H
section
variable {X : Cx}
theorem ps_rz {E : XK} {x m : Str} {j : Nat} {p p2 pos pos' : Pos} (T : ExcF X.K X.mg x) (hc : X.calm = true) (tk : Takes X (fun cls d _ H => E cls d H)) (hg : Gl X x) (hdb : (x == ("__debug__" : Str)) = false := by decide) :
    PS X (.Raise (some (.Call (.Name x p) [.Constant (.str m) j p2] [] pos)) none pos') (tRz E (He.ga X.K x)) :=
  ps_raise hc tk (pmk_own PySem.F.excBase_ValueError T.ex T.gl T.kp (raises_own T.sub T.ty) hg hdb)
end
section
variable {P : Program} {w : World} {K : PySem.W.Frag} {mg : Str → Option Value} {base : Heap} {N : List Str} {qual : Str} {scope : Scope} {f : Addr} {cd : Value} {A : Around} {outer : List Env} {s : Shared} {H : Hp} {E : XK}
abbrev cxD (P : Program) (w : World) (K : PySem.W.Frag) (mg : Str → Option Value) (base : Heap) (N : List Str) (qual : Str) (scope : Scope) (f : Addr) (cd : Value) (A : Around) (outer : List Env) (s : Shared) (H : Hp) (E : XK) : Cx :=
  cxOf (L2.CX P w) P w K mg base N qual scope f cd A outer s H E
theorem takes_def : Takes (cxD P w K mg base N qual scope f cd A outer s H E) (fun cls d _ H => E cls d H) := takes_of rfl rfl rfl rfl
theorem own_def : PassesOwn (model P w) (cxD P w K mg base N qual scope f cd A outer s H E).A (cxD P w K mg base N qual scope f cd A outer s H E).env (cxD P w K mg base N qual scope f cd A outer s H E).xe := passes_of rfl
end
theorem pass_def {X : Cx} {E : XK} (tk : Takes X (fun cls d _ H => E cls d H)) : Passes (L2.CX X.prog X.w) X E := passes_call tk (fun _ _ _ _ h => h)

/-! ### the end -/
/-- a law's end over a head by facts, the bits of the script's numbers told -/
theorem walk_end {l : PySem.W.OpenLaw} {n k : Nat} {q : Program} {loose : List Str} {XP : (Str → Option Value) → Heap → Prop} {YP : World → Heap → Prop} {d : DefRec} {x : Str}
    (hn : l.most = some n) (hn2 : n ≤ sizeLine) (hdf : d.params.defaults = []) (hr : Room k callerA)
    (Fx : ∀ (w : World) (mg : Str → Option Value) (fa : Addr) (h : Heap), YP w h → h.Ns mainGlobals mg → mg d.name = some (.ref fa) →
      ∃ (K : PySem.W.Frag) (fd : FuncData) (sp : Sp), K.In h ∧ (∀ (s : Shared) (u : Value), BindsTo s fd ⟨[u], []⟩ [(x, u)]) ∧
        (∀ (H : Hp) (a : Addr) (ns : List Int), ns.length ≤ n → (∀ z ∈ ns, Builtin.Int.intBits z ≤ 1048576) → SqL K H a (ns.map V.int) → sp [.ref a] H (fun v _ => v = .bl true) fun _ _ _ => False) ∧
        ∀ base : Heap, K.In base → base.Ns mainGlobals mg → FnOk l.prog w K mg base (L2.CX l.prog w) k fa fd [x] sp) :
    PySem.W.WalkO q loose XP YP l.row.toRowW d [] (fun f vs => PySem.call f vs) := by
  refine Att.attach_callB hn hdf ?_
  intro w s0 s1 mg mb fa o pm cd doc a vs ns G Y ho hd hcd hmg hobj hints hlen hbits hg
  obtain ⟨K, fd, sp, KX, hb, hsp, hF⟩ := Fx w mg fa _ Y G.T.g hmg
  refine law_call KX G.T.g G.T.b G.T.builtins G.T.nolimit hg hobj hints (Nat.le_trans hlen hn2) hr hF hb (fun H hO hS => hsp H a ns hlen hbits hS) (fun H e s' hc => ?_)
  obtain ⟨_, _, _, _, _, _, _, _, _, _, _, _, z⟩ := hc
  exact z
end Fk
/-! enumerate of a tuple, as a walked thing -/
namespace Fk
open PySem PySem.Spec PyProof.Rows L2
set_option maxHeartbeats 4000000 in
theorem meets_enumB {v : Value} {o : Obj} {Hx : Heap → Prop} (B : Begins v o Hx) :
    Meets (Builtin.«enumerate.__new__» ⟨[.type "enumerate", v], []⟩) (fun _ R s => Hx s.heap ∧
      R (.ok (.ret (.ref (s.heap.push o).objs.size)))
        { s with heap := (s.heap.push o).push { cls := .type "enumerate", data := .fields #[.none, .bool false, .ref s.heap.objs.size, rawInt 0, .none, .none] } }) := by
  refine .of_wp fun prog w A R s h => ?_
  obtain ⟨hp, g, d, tk, os⟩ := s
  obtain ⟨h1, h⟩ := h
  have hsub := sub_enumerate
  have q1 : ∀ {A' : Around} {E : Value → Shared → Prop} {Q : Value → Shared → Prop}, Q (.ref hp.objs.size) ⟨hp.push o, g, d, tk, os⟩ →
      wpAny (model prog w) A' (pyIter v) Q E ⟨hp, g, d, tk, os⟩ := fun z => B.iter prog w _ _ ⟨hp, g, d, tk, os⟩ _ h1 z
  wp_walk using q1
  refine wpAny_stack_any fun st => wpAny_pure ?_
  split
  · rename_i c _ _ _ _ _
    cases (c == Value.type "enumerate") <;> (wp_walk using q1; exact ⟨_, rfl, h⟩)
  · wp_walk using q1
    exact ⟨_, rfl, h⟩
theorem call_enumB {prog : Program} {w : World} {A : Around} {E : Value → Shared → Prop} {s : Shared} {v : Value} {o : Obj} {Hx : Heap → Prop} {Q : Value → Shared → Prop} (B : Begins v o Hx) (h1 : Hx s.heap)
    (h : ∀ h', IsEnum h' (s.heap.objs.size + 1) s.heap.objs.size 0 .none → h'.get? s.heap.objs.size = some o →
      (∀ b ob, s.heap.get? b = some ob → h'.get? b = some ob) → Q (.ref (s.heap.objs.size + 1)) { s with heap := h' }) :
    wpAny (model prog w) A (call (.type "enumerate") [v]) Q E s := by
  refine callType_new F.called_enumerate (by decide) (F.typeCall_enumerate_1 _) (F.newCall_enumerate_1 _) (fun obj => F.args_object_init_2 obj _) F.entry_enumerate_new (meets_enumB B) ⟨h1, ?_⟩
  have hz : (s.heap.push o).objs.size = s.heap.objs.size + 1 := Heap.size_push ..
  show _ ∧ _
  rw [hz]
  have he : IsEnum ((s.heap.push o).push { cls := .type "enumerate", data := .fields #[.none, .bool false, .ref s.heap.objs.size, rawInt 0, .none, .none] }) (s.heap.objs.size + 1) s.heap.objs.size 0 .none := by
    have e2 := Heap.get?_push_size (s.heap.push o) (o := { cls := .type "enumerate", data := .fields #[.none, .bool false, .ref s.heap.objs.size, rawInt 0, .none, .none] }) rfl
    rw [hz] at e2
    exact e2
  exact ⟨⟨_, he, rfl⟩, h _ he (Heap.get?_push_of_some _ (Heap.get?_push_size _ B.free)) fun b ob x => Heap.get?_push_of_some _ (Heap.get?_push_of_some _ x)⟩
/-- the tuple at a, each item in a new pair with its number -/
def IteT (K : PySem.W.Frag) (a : Addr) : It where
  go := fun i H => ∃ (xs : List V) (x : V), SqT K H a xs ∧ xs[i]? = some x
  yld := fun i H v H' => ∃ T x, v = .ref T ∧ H T = none ∧ H' = upd H T (.tup [.int (i : Nat), x]) ∧ ∀ xs, SqT K H a xs → xs[i]? = some x
  stop := fun i H => ∃ xs : List V, SqT K H a xs ∧ xs.length ≤ i
theorem turn_enumT {P : Program} {w : World} {K : PySem.W.Frag} {elts : List Expr} {kk : Nat} {tpos : Pos} (a e it : Addr) (hae : a ≠ e) (hai : a ≠ it) :
    Turn P w K (.Tuple elts kk tpos) (IteT K a) [e, it] e (fun i h => (∃ old, IsEnum h e it ((i : Nat) : Int) old) ∧ h.IsTupleIter it a i ∧ e ≠ it) where
  mem := by simp
  obj := fun i h st b hb => by
    obtain ⟨⟨old, he⟩, ⟨o, ho, hc, hd⟩, _⟩ := st
    rcases (by simpa using hb : b = e ∨ b = it) with rfl | rfl
    · exact ⟨_, he, fun v q => nomatch q⟩
    · exact ⟨o, ho, fun v q => by rw [hd] at q; cases q⟩
  keep := fun i h h' st k => by
    obtain ⟨⟨old, he⟩, hi, hne⟩ := st
    exact ⟨⟨old, k e (by simp) _ he⟩, hi.at fun o q => k it (by simp) o q, hne⟩
  item := by
    intro X hP hw hK hc i pins s σ H E I hf st hg
    subst hP hw hK
    obtain ⟨⟨old, he⟩, hit, hne⟩ := st
    obtain ⟨xs, x, hq, hx⟩ := hg
    obtain ⟨its, rv, p, hz⟩ := I.tuple hq
    obtain ⟨u, hu, ru⟩ := rv.get hx
    have hel : e < s.heap.objs.size := Heap.lt_size he
    have hil : it < s.heap.objs.size := by
      obtain ⟨_, q, _⟩ := hit
      exact Heap.lt_size q
    have hlt : i < its.toArray.size := by
      have := (List.getElem?_eq_some_iff.mp hu).1
      simpa using this
    have D : Draws X.prog X.w X.A.in1 it [it, a] its.toArray.size (fun i v => its.toArray[i]? = some v) (fun i h => h.IsTupleIter it a i ∧ h.IsTuple a its.toArray) :=
      Draws.tuple (A := X.A.in1) (show X.A.in1.handled = none from I.ok.hd hc) it a hai its.toArray
    have hef : e ∉ [it, a] := fun q => by
      rcases (by simpa using q : e = it ∨ e = a) with z | z
      · exact hne z
      · exact hae z.symm
    refine wpAny_pyNext_enum_itemD (i := i) D he ⟨hit, p⟩ hlt hne hef fun y h' tk hy ho hst hT hsz hk => ?_
    have ey : y = u := by
      have hu' : its.toArray[i]? = some u := by simpa using hu
      have hy' : its.toArray[i]? = some y := hy
      rw [hu'] at hy'
      exact (Option.some.inj hy').symm
    subst ey
    refine ⟨_, rfl, wpAny_letOwnedTupleGo_enum (s := { s with heap := h', toks := tk + 1 }) ho fun h'' he' sb => ?_⟩
    have hT2 : h''.get? s.heap.objs.size = some { cls := .type "tuple", data := .seq #[.int i tk, y] } := (sb.2 _ (Nat.ne_of_gt hel)).trans hT
    have new : ObjOk X.prog X.w (upd H s.heap.objs.size (.tup [.int (i : Nat), x])) h'' s.heap.objs.size (.tup [.int (i : Nat), x]) :=
      ⟨by show 2 ≤ sizeLine; decide, [.int i tk, y], .cons ⟨_, rfl⟩ (.cons ru .nil), ⟨_, hT2, rfl, _, rfl⟩⟩
    have I1 : Inv X pins σ (upd H s.heap.objs.size (.tup [.int (i : Nat), x])) { s with heap := h'', toks := tk + 1 } := by
      refine I.turnedNew (ch := [e, it]) (fun b ob hb q => ?_) hf (Nat.le_refl _) new
      have h1 : b ≠ e := fun z => hb (by simp [z])
      have h2 : b ≠ it := fun z => hb (by simp [z])
      exact (sb.2 b h1).trans (hk b ob h1 h2 q)
    refine ⟨.ref s.heap.objs.size, _, I1, rfl, ⟨_, x, rfl, I.hok.fresh (Nat.le_refl _), rfl, fun ys hy => by rw [I.tuple_inj hy hq]; exact hx⟩,
      ⟨⟨y, ?_⟩, hst.1.at fun o q => (sb.2 it (Ne.symm hne)).trans q, hne⟩, fun b hb => ?_⟩
    · have e1 : ((i + 1 : Nat) : Int) = (i : Int) + 1 := by omega
      rw [e1]
      exact he'
    · have hb' : b < s.heap.objs.size := by
        rcases (by simpa using hb : b = e ∨ b = it) with rfl | rfl
        · exact hel
        · exact hil
      rw [upd_ne (Nat.ne_of_lt hb')]
      exact (hf b hb).1
  done := by
    intro X hP hw hK hc i pins s σ H E I hf st hg
    subst hP hw hK
    obtain ⟨⟨old, he⟩, hit, hne⟩ := st
    obtain ⟨xs, hq, hx⟩ := hg
    obtain ⟨its, rv, p, hz⟩ := I.tuple hq
    obtain ⟨f0, f1, f2, f3, f4, f5⟩ := hf it (by simp)
    have hl := rv.length
    have D0 := Draws.tuple (prog := X.prog) (w := X.w) (A := X.A.in1) (show X.A.in1.handled = none from I.ok.hd hc) it a hai its.toArray
    have D : Draws X.prog X.w X.A.in1 it [it, a] 0 (fun _ _ => False) (fun _ h => h.IsTupleIter it a i ∧ h.IsTuple a its.toArray) :=
      { live := fun _ h st => D0.live i h st
        frame := fun _ h h' st hk => D0.frame i h h' st hk
        item := fun j s2 Q E2 hj st hQ => absurd hj (Nat.not_lt_zero _)
        done := fun s2 Q E2 st hE => wpAny_nextOf_tuple_end (show X.A.in1.handled = none from I.ok.hd hc) st.1 st.2 (by simp; omega) hE }
    exact wpAny_pyNext_enum_endD D he ⟨hit, p⟩ fun h' eb => ⟨rfl, I.turned (t' := s.toks) (fun b o hb q => eb b o hb q) f0 f1 f3 f4 f5⟩
  self := fun A i s Q E st h => by
    obtain ⟨⟨_, he⟩, _⟩ := st
    exact wpAny_pyIter_enum he h
/-- enumerate of a list or of a tuple -/
def iEnumA (K : PySem.W.Frag) (ta : TA) : TI := fun σ H R => iEnum K ta σ H R ∨ ta σ H fun vs H1 => ∃ a xs, vs = [.ref a] ∧ SqT K H1 a xs ∧ R (IteT K a) H1
theorem pi_enumT {X : Cx} {e : Expr} {ta : TA} {p pos tpos : Pos} {elts : List Expr} {kk : Nat} (hg : Gl X "enumerate") (hm : X.mg "enumerate" = none) (ha : PA X [e] ta)
    (hs : starEach [e] X.env = [(false, eval e X.env)] := by rfl) :
    PI X (.Tuple elts kk tpos) (.Call (.Name "enumerate" p) [e] [] pos) (fun σ H R => ta σ H fun vs H1 => ∃ a xs, vs = [.ref a] ∧ SqT X.K H1 a xs ∧ R (IteT X.K a) H1) := by
  refine ⟨fun pins s σ H R I h => ?_⟩
  refine Call_ (ld_blt I hg hm boot_enumerate (PyProof.Rows.callWith_type1 (thn (ha.run pos pins s σ H _ I h) fun us s1 hh => ?_) hs rfl))
  obtain ⟨vs, H1, I1, r1, a, xs, ex, hq, q⟩ := hh
  subst ex
  cases r1 with
  | cons r rr =>
    cases rr
    cases r
    obtain ⟨its, rv, p', hz⟩ := I1.tuple hq
    refine call_enumB (begins_tuple a its.toArray) p' fun h' he hit hk => wpAny_pyIter_enum he ?_
    have I2 : Inv X pins σ H1 { s1 with heap := h' } := I1.kept (t' := s1.toks) hk
    have al : a < s1.heap.objs.size := by
      obtain ⟨o, z, _⟩ := p'
      exact Heap.lt_size z
    refine ⟨s1.heap.objs.size + 1, [s1.heap.objs.size + 1, s1.heap.objs.size], _, _, H1, rfl, I2,
      turn_enumT a (s1.heap.objs.size + 1) s1.heap.objs.size (Nat.ne_of_lt (Nat.lt_succ_of_lt al)) (Nat.ne_of_lt al), ⟨⟨.none, he⟩, ⟨_, hit, rfl, rfl⟩, Nat.succ_ne_self _⟩, fun b hb => ?_, q⟩
    have hle : s1.heap.objs.size ≤ b := by
      rcases (by simpa using hb : b = s1.heap.objs.size + 1 ∨ b = s1.heap.objs.size) with z | z
      · rw [z]; exact Nat.le_succ _
      · rw [z]; exact Nat.le_refl _
    exact I1.fpOk hle (I1.hok.fresh hle)
theorem pi_enumA {X : Cx} {e : Expr} {ta : TA} {p pos tpos : Pos} {elts : List Expr} {kk : Nat} (hg : Gl X "enumerate") (hm : X.mg "enumerate" = none) (ha : PA X [e] ta)
    (hs : starEach [e] X.env = [(false, eval e X.env)] := by rfl) : PI X (.Tuple elts kk tpos) (.Call (.Name "enumerate" p) [e] [] pos) (iEnumA X.K ta) :=
  pi_or (pi_enum hg hm ha hs) (pi_enumT hg hm ha hs)
end Fk
/-! ## readings, run step by step -/
namespace Fk
open PySem PySem.Spec PyProof.Rows L2
/-- the i-th slot holds v -/
inductive GS : L2.St → Nat → V → Prop
  | z {v : V} {l : L2.St} : GS (some v :: l) 0 v
  | s {x : Option V} {v : V} {l : L2.St} {i : Nat} : GS l i v → GS (x :: l) (i + 1) v
theorem GS.get : ∀ {σ : L2.St} {i : Nat} {v : V}, GS σ i v → σ[i]? = some (some v)
  | _, _, _, .z => rfl
  | _, _, _, .s h => by simpa using h.get
/-- the i-th slot set -/
inductive NS : L2.St → Nat → V → L2.St → Prop
  | z {x : Option V} {v : V} {l : L2.St} : NS (x :: l) 0 v (some v :: l)
  | s {x : Option V} {v : V} {l l' : L2.St} {i : Nat} : NS l i v l' → NS (x :: l) (i + 1) v (x :: l')
theorem NS.eq : ∀ {σ σ' : L2.St} {i : Nat} {v : V}, NS σ i v σ' → σ.set i (some v) = σ'
  | _, _, _, _, .z => rfl
  | _, _, _, _, .s h => congrArg _ h.eq
section
variable {K : PySem.W.Frag} {D : Ends} {σ σ' σ'' : L2.St} {H H1 H2 : Hp} {Q : VK} {QB : Bool → Hp → Prop} {QA : List V → Hp → Prop} {E : XK} {i j k : Nat} {v u x : V} {vs : List V}
  {t tu tw : TS} {te ta tb tc : TE} {tt ttu : TT} {tA : TA} {g : TG} {r : R2} {a p : Addr} {xs ys : List V}
theorem r_seq (h : t { D with nx := tu D } σ H) : tSeq t tu D σ H := h
theorem r_next (h : D.nx σ H) : tNext D σ H := h
theorem r_brk (h : D.bk σ H) : tBreak D σ H := h
theorem r_cont (h : D.ct σ H) : tCont D σ H := h
theorem r_nx {f : L2.St → Hp → Prop} {rt : VK} {b c : L2.St → Hp → Prop} (h : f σ H) : Ends.nx ⟨f, rt, b, c⟩ σ H := h
theorem r_rt {f : L2.St → Hp → Prop} {rt : VK} {b c : L2.St → Hp → Prop} (h : rt v H) : Ends.rt ⟨f, rt, b, c⟩ v H := h
theorem r_bk {f : L2.St → Hp → Prop} {rt : VK} {b c : L2.St → Hp → Prop} (h : b σ H) : Ends.bk ⟨f, rt, b, c⟩ σ H := h
theorem r_ct {f : L2.St → Hp → Prop} {rt : VK} {b c : L2.St → Hp → Prop} (h : c σ H) : Ends.ct ⟨f, rt, b, c⟩ σ H := h
theorem r_asg (h : te σ H fun x H1 => g x σ H1 D.nx) : tAsg te g D σ H := h
theorem r_drop (h : te σ H fun _ H1 => D.nx σ H1) : tDrop te D σ H := h
theorem r_ret (h : te σ H D.rt) : tRet te D σ H := h
theorem r_retN (h : D.rt .non H) : tRetN D σ H := h
theorem r_gn {QG : L2.St → Hp → Prop} (n : NS σ i v σ') (h : QG σ' H) : gName i v σ H QG := by
  show QG (σ.set i (some v)) H
  rw [n.eq]
  exact h
theorem r_par (n1 : NS σ i v σ') (n2 : NS σ' j u σ'') (h : D.nx σ'' H) : ∃ v' w', [v, u] = [v', w'] ∧ D.nx ((σ.set i (some v')).set j (some w')) H := by
  refine ⟨v, u, rfl, ?_⟩
  rw [n1.eq, n2.eq]
  exact h
theorem r_parS (h : tA σ H fun vs H1 => ∃ v w, vs = [v, w] ∧ D.nx ((σ.set i (some v)).set j (some w)) H1) : tPar i j tA D σ H := h
theorem r_par3S {l : Nat} (h : tA σ H fun vs H1 => ∃ v w z, vs = [v, w, z] ∧ D.nx (((σ.set i (some v)).set j (some w)).set l (some z)) H1) : tPar3 i j l tA D σ H := h
theorem r_par3 {l : Nat} {y : V} {σ3 : L2.St} (n1 : NS σ i v σ') (n2 : NS σ' j u σ'') (n3 : NS σ'' l y σ3) (h : D.nx σ3 H) : ∃ v' w' z', [v, u, y] = [v', w', z'] ∧ D.nx (((σ.set i (some v')).set j (some w')).set l (some z')) H := by
  refine ⟨v, u, y, rfl, ?_⟩
  rw [n1.eq, n2.eq, n3.eq]
  exact h
theorem r_var (n : GS σ i v) (h : Q v H) : tVar i σ H Q := ⟨v, n.get, h⟩
theorem r_c (h : Q v H) : tC v σ H Q := h
theorem r_op (h : ta σ H fun x H1 => tb σ H1 fun y H2 => r x y H2 Q) : tOp r ta tb σ H Q := h
theorem r_nil (h : QA [] H) : tNil σ H QA := h
theorem r_cons (h : te σ H fun x H1 => tA σ H1 fun xs H2 => QA (x :: xs) H2) : tCons te tA σ H QA := h
theorem r_cb {rr : List V → Hp → VK → Prop} (h : tA σ H fun vs H1 => rr vs H1 Q) : tCB rr tA σ H Q := h
theorem r_call {sp : Sp} (h : tA σ H fun vs H1 => sp vs H1 Q E) : tCall sp [] E tA σ H Q := by
  have e : (fun vs H1 => sp (vs ++ []) H1 Q E) = fun vs H1 => sp vs H1 Q E := by
    funext vs H1
    rw [List.append_nil]
  show tA σ H fun vs H1 => sp (vs ++ []) H1 Q E
  rw [e]
  exact h
theorem r_callD {sp : Sp} {dvs : List V} (h : tA σ H fun vs H1 => sp (vs ++ dvs) H1 Q E) : tCall sp dvs E tA σ H Q := h
theorem r_tup (h : tA σ H fun xs H1 => xs.length ≤ sizeLine ∧ ∀ p, H1 p = none → Q (.ref p) (upd H1 p (.tup xs))) : tTup tA σ H Q := h
theorem r_lst (h : tA σ H fun xs H1 => xs.length ≤ sizeLine ∧ ∀ p, H1 p = none → Q (.ref p) (upd H1 p (.lst xs))) : tLst tA σ H Q := h
theorem r_new {P : Addr → Prop} (hz : xs.length ≤ 100000) (h : ∀ p, H p = none → P p) : xs.length ≤ sizeLine ∧ ∀ p, H p = none → P p := ⟨Nat.le_trans hz (by decide), h⟩
theorem r_if (h : tt σ H fun b H1 => if b = true then tu D σ H1 else tw D σ H1) : tIfS tt tu tw D σ H := h
theorem r_ife (h : tt σ H fun c H1 => if c = true then ta σ H1 Q else tb σ H1 Q) : tIf tt ta tb σ H Q := h
theorem r_test (h : te σ H fun x H' => ∃ k, x = .bl k ∧ QB k H') : tTest te σ H QB := h
theorem r_tB (h : te σ H fun x H1 => ∃ c, x = .bl c ∧ QB c H1) : tB te σ H QB := h
theorem r_bl {b : Bool} {P : Bool → Prop} (h : P b) : ∃ k, V.bl b = .bl k ∧ P k := ⟨b, rfl, h⟩
theorem r_not (h : tt σ H fun c H1 => QB (!c) H1) : tNot tt σ H QB := h
theorem r_and (h : tt σ H fun c H1 => if c = true then ttu σ H1 QB else QB false H1) : tAnd tt ttu σ H QB := h
theorem r_or (h : tt σ H fun c H1 => if c = true then QB true H1 else ttu σ H1 QB) : tOr tt ttu σ H QB := h
theorem r_andV (h : ta σ H fun x H1 => ∃ c, x = .bl c ∧ if c = true then tb σ H1 Q else Q (.bl false) H1) : tAndV ta tb σ H Q := h
theorem r_orV (h : ta σ H fun x H1 => ∃ c, x = .bl c ∧ if c = true then Q (.bl true) H1 else tb σ H1 Q) : tOrV ta tb σ H Q := h
theorem r_notV (h : ta σ H fun x H1 => ∃ c, x = .bl c ∧ Q (.bl (!c)) H1) : tNotV ta σ H Q := h
theorem r_chain {r' : R2} (h : ta σ H fun x H1 => tb σ H1 fun y H2 => r x y H2 fun z H3 => ∃ k, z = .bl k ∧ (if k = true then tc σ H3 fun w' H4 => r' y w' H4 Q else Q (.bl false) H3)) : tChain r r' ta tb tc σ H Q := h
theorem r_aug {ti : TIp} (n : GS σ i v) (h : te σ H fun y H1 => ti v y H1 fun z H2 => D.nx (σ.set i (some z)) H2) : tAug i te ti D σ H := ⟨v, n.get, h⟩
theorem r_ipI {f : Int → Int → Int} {m n : Int} {P : V → Hp → Prop} (h : P (.int (f m n)) H) : ipI f (.int m) (.int n) H P := ⟨m, n, rfl, rfl, h⟩
theorem r_set {P : L2.St → Prop} (n : NS σ i v σ') (h : P σ') : P (σ.set i (some v)) := by rw [n.eq]; exact h
theorem r_setNx (n : NS σ i v σ') (h : D.nx σ' H) : D.nx (σ.set i (some v)) H := by rw [n.eq]; exact h
theorem r_ite {b : Bool} {A B : Prop} (h1 : b = true → A) (h2 : b = false → B) : if b = true then A else B := by
  cases b with
  | true => rw [if_pos rfl]; exact h1 rfl
  | false => rw [if_neg Bool.false_ne_true]; exact h2 rfl
theorem r_iteD {P : Prop} [Decidable P] {A B : Prop} (h1 : P → A) (h2 : ¬ P → B) : if decide P = true then A else B := r_ite (fun h => h1 (of_decide_eq_true h)) fun h => h2 (of_decide_eq_false h)
theorem r_iteN {P : Prop} [Decidable P] {A B : Prop} (h1 : ¬ P → A) (h2 : P → B) : if (!decide P) = true then A else B := r_ite (fun h => h1 (by simpa using h)) fun h => h2 (by simpa using h)
theorem r_iteNB {b : Bool} {A B : Prop} (h1 : b = false → A) (h2 : b = true → B) : if (!b) = true then A else B := by
  cases b
  · exact r_ite (fun _ => h1 rfl) fun h => nomatch h
  · exact r_ite (fun h => nomatch h) fun _ => h2 rfl
theorem r_T {A B : Prop} (h : A) : if true = true then A else B := by rw [if_pos rfl]; exact h
theorem r_F {A B : Prop} (h : B) : if false = true then A else B := by rw [if_neg Bool.false_ne_true]; exact h
/-! operators -/
variable {m n : Int}
theorem r_add (h : Q (.int (m + n)) H) : uAdd K (.int m) (.int n) H Q := .inl ⟨m, n, rfl, rfl, h⟩
theorem r_sub (h : Q (.int (m - n)) H) : uSub (.int m) (.int n) H Q := ⟨m, n, rfl, rfl, h⟩
theorem r_mul (c : CMul m n) (h : Q (.int (m * n)) H) : uMul K (.int m) (.int n) H Q := .inl ⟨m, n, rfl, rfl, c, h⟩
theorem r_fdv (c : 0 < n ∧ n < 1073741824) (h : Q (.int (m / n)) H) : uFdv (.int m) (.int n) H Q := .inl ⟨m, n, rfl, rfl, c, h⟩
theorem r_fdvW (c : CDivW m n) (h : Q (.int (m / n)) H) : uFdv (.int m) (.int n) H Q := .inr ⟨m, n, rfl, rfl, c, h⟩
theorem r_mod (c : 0 < n) (h : Q (.int (m % n)) H) : uMod (.int m) (.int n) H Q := ⟨m, n, rfl, rfl, c, h⟩
theorem r_pow (c : CPow m n) (h : Q (.int (m ^ n.toNat)) H) : uPow (.int m) (.int n) H Q := ⟨m, n, rfl, rfl, c, h⟩
theorem r_shl (c : CPow m n) (h : Q (.int (m * 2 ^ n.toNat)) H) : uShl (.int m) (.int n) H Q := ⟨m, n, rfl, rfl, c, h⟩
theorem r_shr (c : 0 ≤ n) (h : Q (.int (m / 2 ^ n.toNat)) H) : uShr (.int m) (.int n) H Q := ⟨m, n, rfl, rfl, c, h⟩
theorem r_band (h : Q (.int (Builtin.bitAnd m n)) H) : uAnd (.int m) (.int n) H Q := ⟨m, n, rfl, rfl, h⟩
theorem r_bxor (h : Q (.int (Builtin.bitXor m n)) H) : uXor (.int m) (.int n) H Q := ⟨m, n, rfl, rfl, h⟩
theorem r_lt (h : Q (.bl (decide (m < n))) H) : uLt (.int m) (.int n) H Q := ⟨m, n, rfl, rfl, h⟩
theorem r_le (h : Q (.bl (decide (m ≤ n))) H) : uLe (.int m) (.int n) H Q := ⟨m, n, rfl, rfl, h⟩
theorem r_gt (h : Q (.bl (decide (n < m))) H) : uGt (.int m) (.int n) H Q := ⟨m, n, rfl, rfl, h⟩
theorem r_ge (h : Q (.bl (decide (n ≤ m))) H) : uGe (.int m) (.int n) H Q := ⟨m, n, rfl, rfl, h⟩
theorem r_eqI (h : Q (.bl (decide (m = n))) H) : uEq K (.int m) (.int n) H Q := by
  refine .inl ⟨rfl, ?_⟩
  have e : decide ((V.int m) = V.int n) = decide (m = n) := by
    by_cases q : m = n
    · subst q; simp
    · rw [decide_eq_false q, decide_eq_false (fun z => q (V.int.inj z))]
  show Q (.bl (decide ((V.int m) = V.int n))) H
  rw [e]
  exact h
theorem r_neI (h : Q (.bl (!decide (m = n))) H) : uNe K (.int m) (.int n) H Q := by
  refine .inl ⟨rfl, ?_⟩
  have e : decide ((V.int m) = V.int n) = decide (m = n) := by
    by_cases q : m = n
    · subst q; simp
    · rw [decide_eq_false q, decide_eq_false (fun z => q (V.int.inj z))]
  show Q (.bl (!decide ((V.int m) = V.int n))) H
  rw [e]
  exact h
theorem r_eqD {d e : PyData} (hd : Dp K H v d) (he : Dp K H u e) (sd : SeqAt.shaped d = true) (se : SeqAt.shaped e = true) (h : Q (.bl (PyData.eqv d e)) H) : uEq K v u H Q := .inr ⟨d, e, hd, he, sd, se, h⟩
theorem r_neD {d e : PyData} (hd : Dp K H v d) (he : Dp K H u e) (sd : SeqAt.shaped d = true) (se : SeqAt.shaped e = true) (h : Q (.bl (!PyData.eqv d e)) H) : uNe K v u H Q := .inr ⟨d, e, hd, he, sd, se, h⟩
theorem r_int (h : Q (.int m) H) : uInt [.int m] H Q := .inl ⟨m, rfl, h⟩
theorem r_intB {b : Bool} (h : Q (.int (if b then 1 else 0)) H) : uInt [.bl b] H Q := .inr ⟨b, rfl, h⟩
theorem r_max2 (h : Q (.int (if n > m then n else m)) H) : uMax2 [.int m, .int n] H Q := ⟨m, n, rfl, h⟩
theorem r_min2 (h : Q (.int (if n < m then n else m)) H) : uMin2 [.int m, .int n] H Q := ⟨m, n, rfl, h⟩
theorem r_lenL (hs : SqL K H a xs) (h : Q (.int xs.length) H) : rLen K [.ref a] H Q := ⟨_, _, rfl, .inl ⟨_, hs, rfl⟩, h⟩
theorem r_lenT (hs : SqT K H a xs) (h : Q (.int xs.length) H) : rLen K [.ref a] H Q := ⟨_, _, rfl, .inr ⟨_, hs, rfl⟩, h⟩
theorem r_ixL (hs : SqL K H a xs) (hi : atI xs m = some v) (h : Q v H) : rIx K (.ref a) (.int m) H Q := .inl ⟨a, xs, m, v, rfl, rfl, hs, hi, h⟩
theorem r_ixT (hs : SqT K H a xs) (hi : atI xs m = some v) (h : Q v H) : rIx K (.ref a) (.int m) H Q := .inr (.inl ⟨a, xs, m, v, rfl, rfl, hs, hi, h⟩)
theorem r_gSub {ts : TSet} {QG : L2.St → Hp → Prop} (h : ta σ H fun o H1 => tb σ H1 fun i H2 => ts o i v H2 fun H3 => QG σ H3) : gSub ta tb ts v σ H QG := h
theorem r_setL {P : Hp → Prop} (hs : H a = some (.lst xs)) (hi : ixN xs.length m = some j) (h : P (upd H a (.lst (xs.set j v)))) : rSetL (.ref a) (.int m) v H P := ⟨a, xs, m, j, rfl, rfl, hs, hi, h⟩
theorem r_gTup {n : Nat} {ts : TGs} {QG : L2.St → Hp → Prop} (hs : SqT K H a xs) (hl : xs.length = n) (h : ts xs σ H QG) : gTup K n ts (.ref a) σ H QG := ⟨a, xs, rfl, hs, hl, h⟩
theorem r_gCons {tg : TG} {ts : TGs} {QG : L2.St → Hp → Prop} (h : tg v σ H fun s1 H1 => ts vs s1 H1 QG) : gCons tg ts (v :: vs) σ H QG := ⟨v, vs, rfl, h⟩
theorem r_gNil {QG : L2.St → Hp → Prop} (h : QG σ H) : gNil [] σ H QG := ⟨rfl, h⟩
theorem r_app {y : V} (hs : H a = some (.lst xs)) (hz : xs.length < 100000) (h : Q .non (upd H a (.lst (xs ++ [y])))) : rAppend (.ref a) [y] H Q := ⟨a, xs, y, rfl, rfl, hs, Nat.lt_of_lt_of_le hz (by decide), h⟩
theorem r_bm {T : String} {rr : V → List V → Hp → VK → Prop} (h : te σ H fun x H1 => tyV K T x H1 ∧ tA σ H1 fun xs H2 => rr x xs H2 Q) : tBM K T rr te tA σ H Q := h
theorem ty_list (hs : H a = some (.lst xs)) : tyV K "list" (.ref a) H := .inl ⟨rfl, _, Or.inl (Or.inl hs)⟩
/-! isinstance -/
theorem r_isi {c : V} {tv cv : Value} {b : Bool} (hc : ClsV c cv) (ht : TyX K H v tv) (hk : PySem.W.kitOne K tv cv = some b) (h : Q (.bl b) H) : rIsi K [v, c] H Q := ⟨v, c, tv, cv, b, rfl, hc, ht, hk, h⟩
end
/-! ### loops by what is left -/
section
variable {K : PySem.W.Frag} {D : Ends} {σ : L2.St} {H : Hp} {g : TG} {tb : TS} {a : Addr} {xs : List V} {wi : TI}
theorem r_for (h : wi σ H fun J H1 => ∃ W : Nat → Nat → L2.St → Hp → Prop, (∃ m, W 0 m σ H1) ∧ ∀ i m σ H, W i m σ H →
      (J.stop i H ∧ D.nx σ H) ∨ (J.go i H ∧ ∃ N : L2.St → Hp → Prop, (∀ σ' H', N σ' H' → ∃ m', m' < m ∧ W (i + 1) m' σ' H') ∧ ∀ x H', J.yld i H x H' → g x σ H' fun σ2 H2 => tb { D with nx := N, ct := N, bk := D.nx } σ2 H2)) :
    tFor wi g tb D σ H := h
theorem f_tup (hx : SqT K H a xs) (Pv : List V → L2.St → Hp → Prop) (h0 : Pv xs σ H) (keep : ∀ r σ H, Pv r σ H → SqT K H a xs)
    (step : ∀ x r σ H, Pv (x :: r) σ H → g x σ H fun σ2 H2 => tb { D with nx := Pv r, ct := Pv r, bk := D.nx } σ2 H2) (done : ∀ σ H, Pv [] σ H → D.nx σ H) :
    ∃ a', V.ref a = .ref a' ∧ (∃ xs, SqT K H a' xs) ∧ ∃ W : Nat → Nat → L2.St → Hp → Prop, (∃ m, W 0 m σ H) ∧ ∀ i m σ H, W i m σ H →
      ((Itt K a').stop i H ∧ D.nx σ H) ∨ ((Itt K a').go i H ∧ ∃ N : L2.St → Hp → Prop, (∀ σ' H', N σ' H' → ∃ m', m' < m ∧ W (i + 1) m' σ' H') ∧ ∀ x H', (Itt K a').yld i H x H' → g x σ H' fun σ2 H2 => tb { D with nx := N, ct := N, bk := D.nx } σ2 H2) := by
  refine ⟨a, rfl, ⟨_, hx⟩, for_tup (xs := xs) (fun i σ H => Pv (xs.drop i) σ H) (by simpa using h0) (fun i σ H _ p => keep _ _ _ p) (fun i x σ H hi p => ?_) (fun σ H p => done σ H (by simpa using p))⟩
  have e : xs.drop i = x :: xs.drop (i + 1) := by
    obtain ⟨hl, e⟩ := List.getElem?_eq_some_iff.mp hi
    rw [← e, List.drop_eq_getElem_cons hl]
  have p' : Pv (xs.drop i) σ H := p
  rw [e] at p'
  exact step x _ σ H p'
theorem f_lst (hx : SqL K H a xs) (Pv : List V → L2.St → Hp → Prop) (h0 : Pv xs σ H) (keep : ∀ r σ H, Pv r σ H → SqL K H a xs)
    (step : ∀ x r σ H, Pv (x :: r) σ H → g x σ H fun σ2 H2 => tb { D with nx := Pv r, ct := Pv r, bk := D.nx } σ2 H2) (done : ∀ σ H, Pv [] σ H → D.nx σ H) :
    ∃ a', V.ref a = .ref a' ∧ (∃ xs, SqL K H a' xs) ∧ ∃ W : Nat → Nat → L2.St → Hp → Prop, (∃ m, W 0 m σ H) ∧ ∀ i m σ H, W i m σ H →
      ((Itl K a').stop i H ∧ D.nx σ H) ∨ ((Itl K a').go i H ∧ ∃ N : L2.St → Hp → Prop, (∀ σ' H', N σ' H' → ∃ m', m' < m ∧ W (i + 1) m' σ' H') ∧ ∀ x H', (Itl K a').yld i H x H' → g x σ H' fun σ2 H2 => tb { D with nx := N, ct := N, bk := D.nx } σ2 H2) := by
  refine ⟨a, rfl, ⟨_, hx⟩, for_list (xs := xs) (fun i σ H => Pv (xs.drop i) σ H) (by simpa using h0) (fun i σ H _ p => keep _ _ _ p) (fun i x σ H hi p => ?_) (fun σ H p => done σ H (by simpa using p))⟩
  have e : xs.drop i = x :: xs.drop (i + 1) := by
    obtain ⟨hl, e⟩ := List.getElem?_eq_some_iff.mp hi
    rw [← e, List.drop_eq_getElem_cons hl]
  have p' : Pv (xs.drop i) σ H := p
  rw [e] at p'
  exact step x _ σ H p'
/-- range(n): what is left is counted by i -/
theorem f_rng {n : Int} (hn : -(2 ^ 62) ≤ n ∧ n < 2 ^ 62) (Pv : Nat → L2.St → Hp → Prop) (h0 : Pv 0 σ H)
    (step : ∀ (i : Nat) σ H, (i : Int) < n → Pv i σ H → g (.int (i : Int)) σ H fun σ2 H2 => tb { D with nx := Pv (i + 1), ct := Pv (i + 1), bk := D.nx } σ2 H2) (done : ∀ σ H, Pv n.toNat σ H → D.nx σ H) :
    ∃ j : Int, [V.int n] = [.int j] ∧ -(2 ^ 62) ≤ j ∧ j < 2 ^ 62 ∧ ∃ W : Nat → Nat → L2.St → Hp → Prop, (∃ m, W 0 m σ H) ∧ ∀ i m σ H, W i m σ H →
      ((Itr 0 j.toNat).stop i H ∧ D.nx σ H) ∨ ((Itr 0 j.toNat).go i H ∧ ∃ N : L2.St → Hp → Prop, (∀ σ' H', N σ' H' → ∃ m', m' < m ∧ W (i + 1) m' σ' H') ∧ ∀ x H', (Itr 0 j.toNat).yld i H x H' → g x σ H' fun σ2 H2 => tb { D with nx := N, ct := N, bk := D.nx } σ2 H2) := by
  refine ⟨n, rfl, hn.1, hn.2, for_range (lo := 0) (n := n.toNat) Pv h0 (fun i σ H hi p => ?_) done⟩
  have := step i σ H (by omega) p
  rw [Int.zero_add]
  exact this
theorem r_iTup {te : TE} {R : It → Hp → Prop} (h : te σ H fun x H1 => ∃ a, x = .ref a ∧ (∃ xs, SqT K H1 a xs) ∧ R (Itt K a) H1) : iTup K te σ H R := h
theorem r_iList {te : TE} {R : It → Hp → Prop} (h : te σ H fun x H1 => ∃ a, x = .ref a ∧ (∃ xs, SqL K H1 a xs) ∧ R (Itl K a) H1) : iList K te σ H R := h
theorem r_iterL {te : TE} {R : It → Hp → Prop} (h : te σ H fun x H1 => ∃ a, x = .ref a ∧ (∃ xs, SqL K H1 a xs) ∧ R (Itl K a) H1) : uIter K te σ H R := .inl h
theorem r_iterT {te : TE} {R : It → Hp → Prop} (h : te σ H fun x H1 => ∃ a, x = .ref a ∧ (∃ xs, SqT K H1 a xs) ∧ R (Itt K a) H1) : uIter K te σ H R := .inr h
theorem r_iRng {tA : TA} {R : It → Hp → Prop} (h : tA σ H fun vs H1 => ∃ j : Int, vs = [.int j] ∧ -(2 ^ 62) ≤ j ∧ j < 2 ^ 62 ∧ R (Itr 0 j.toNat) H1) : iRng1 tA σ H R := h
theorem r_while {c : TT} (W : Nat → L2.St → Hp → Prop) (m0 : Nat) (h0 : W m0 σ H) (step : ∀ m σ H, W m σ H → c σ H fun b H1 => if b = true then ∃ N : L2.St → Hp → Prop, (∀ σ' H', N σ' H' → ∃ m', m' < m ∧ W m' σ' H') ∧ tb { D with nx := N, ct := N, bk := D.nx } σ H1 else D.nx σ H1) :
    tWhile c tb D σ H := ⟨W, ⟨m0, h0⟩, step⟩
theorem r_body {W : Nat → L2.St → Hp → Prop} {m : Nat} (h : tb { D with nx := fun σ' H' => ∃ m', m' < m ∧ W m' σ' H', ct := fun σ' H' => ∃ m', m' < m ∧ W m' σ' H', bk := D.nx } σ H) :
    ∃ N : L2.St → Hp → Prop, (∀ σ' H', N σ' H' → ∃ m', m' < m ∧ W m' σ' H') ∧ tb { D with nx := N, ct := N, bk := D.nx } σ H := ⟨_, fun _ _ h => h, h⟩
end
/-! ### whole numbers from nought on -/
theorem bitAnd_nat (a b : Nat) : Builtin.bitAnd (a : Int) (b : Int) = ((a &&& b : Nat) : Int) := by
  unfold Builtin.bitAnd
  rw [decide_eq_true (Int.natCast_nonneg a), decide_eq_true (Int.natCast_nonneg b)]
  rfl
theorem bitOr_nat (a b : Nat) : Builtin.bitOr (a : Int) (b : Int) = ((a ||| b : Nat) : Int) := by
  unfold Builtin.bitOr Builtin.bitAnd Builtin.bitNot
  have h1 : ¬ (0 : Int) ≤ -(a : Int) - 1 := by omega
  have h2 : ¬ (0 : Int) ≤ -(b : Int) - 1 := by omega
  rw [decide_eq_false h1, decide_eq_false h2]
  have e1 : (-(-(a : Int) - 1) - 1).toNat = a := by omega
  have e2 : (-(-(b : Int) - 1) - 1).toNat = b := by omega
  simp only [e1, e2]
  omega
theorem or_xor_and' (x y : Nat) : x ||| y = (x ^^^ y) + (x &&& y) := by
  induction x using Nat.strongRecOn generalizing y with
  | ind x ih =>
    by_cases hx : x = 0
    · subst hx; simp
    · have i := ih (x / 2) (by omega) (y / 2)
      have h1 := @Nat.or_div_two x y
      have h2 := @Nat.xor_div_two x y
      have h3 := @Nat.and_div_two x y
      have m1 := @Nat.or_mod_two_eq_one x y
      have m2 := @Nat.xor_mod_two_eq_one x y
      have m3 := @Nat.and_mod_two_eq_one x y
      omega
theorem bitXor_nat (a b : Nat) : Builtin.bitXor (a : Int) (b : Int) = ((a ^^^ b : Nat) : Int) := by
  unfold Builtin.bitXor
  rw [bitAnd_nat, bitOr_nat, or_xor_and']
  omega
theorem two_pow_int (k : Nat) : (2 : Int) ^ k = ((2 ^ k : Nat) : Int) := by
  induction k with
  | zero => rfl
  | succ k ih => rw [Int.pow_succ, ih, Nat.pow_succ]; rfl
section
variable {K : PySem.W.Frag} {H : Hp} {Q : VK} {a b : Nat}
theorem n_add (h : Q (.int ((a + b : Nat) : Int)) H) : uAdd K (.int (a : Int)) (.int (b : Int)) H Q := r_add (by rw [← Int.natCast_add]; exact h)
theorem n_add1 (h : Q (.int ((a + 1 : Nat) : Int)) H) : uAdd K (.int (a : Int)) (.int 1) H Q := r_add h
theorem n_sub1 (h1 : 1 ≤ a) (h : Q (.int ((a - 1 : Nat) : Int)) H) : uSub (.int (a : Int)) (.int 1) H Q := r_sub (by
  have e : (a : Int) - 1 = ((a - 1 : Nat) : Int) := by omega
  rw [e]; exact h)
theorem n_sub (h1 : b ≤ a) (h : Q (.int ((a - b : Nat) : Int)) H) : uSub (.int (a : Int)) (.int (b : Int)) H Q := r_sub (by
  have e : (a : Int) - b = ((a - b : Nat) : Int) := by omega
  rw [e]; exact h)
theorem n_shl (hb : b ≤ 1000000) (ha : a < 2 ^ 64) (h : Q (.int ((a * 2 ^ b : Nat) : Int)) H) : uShl (.int (a : Int)) (.int (b : Int)) H Q := by
  refine r_shl ⟨by omega, by omega, by simpa using ha⟩ ?_
  have e : (a : Int) * 2 ^ (b : Int).toNat = ((a * 2 ^ b : Nat) : Int) := by
    rw [Int.toNat_natCast, two_pow_int, Int.natCast_mul]
  rw [e]; exact h
theorem n_shl1 (hb : b ≤ 1000000) (h : Q (.int ((2 ^ b : Nat) : Int)) H) : uShl (.int 1) (.int (b : Int)) H Q := by
  have q : uShl (.int ((1 : Nat) : Int)) (.int (b : Int)) H Q := n_shl hb (by decide) (by rw [Nat.one_mul]; exact h)
  exact q
theorem n_shr (h : Q (.int ((a / 2 ^ b : Nat) : Int)) H) : uShr (.int (a : Int)) (.int (b : Int)) H Q := by
  refine r_shr (by omega) ?_
  have e : (a : Int) / 2 ^ (b : Int).toNat = ((a / 2 ^ b : Nat) : Int) := by
    rw [Int.toNat_natCast, two_pow_int]; rfl
  rw [e]; exact h
theorem n_shr1 (h : Q (.int ((a / 2 : Nat) : Int)) H) : uShr (.int (a : Int)) (.int 1) H Q := by
  have q : uShr (.int (a : Int)) (.int ((1 : Nat) : Int)) H Q := n_shr (by rw [Nat.pow_one]; exact h)
  exact q
theorem n_mod (hb : 0 < b) (h : Q (.int ((a % b : Nat) : Int)) H) : uMod (.int (a : Int)) (.int (b : Int)) H Q := r_mod (by omega) (by rw [← Int.natCast_emod]; exact h)
theorem n_mod2 (h : Q (.int ((a % 2 : Nat) : Int)) H) : uMod (.int (a : Int)) (.int 2) H Q := by
  have q : uMod (.int (a : Int)) (.int ((2 : Nat) : Int)) H Q := n_mod (by decide) h
  exact q
theorem n_and (h : Q (.int ((a &&& b : Nat) : Int)) H) : uAnd (.int (a : Int)) (.int (b : Int)) H Q := r_band (by rw [bitAnd_nat]; exact h)
theorem n_and1 (h : Q (.int ((a % 2 : Nat) : Int)) H) : uAnd (.int (a : Int)) (.int 1) H Q := by
  have q : uAnd (.int (a : Int)) (.int ((1 : Nat) : Int)) H Q := n_and (by rw [Nat.and_one_is_mod]; exact h)
  exact q
theorem n_xor (h : Q (.int ((a ^^^ b : Nat) : Int)) H) : uXor (.int (a : Int)) (.int (b : Int)) H Q := r_bxor (by rw [bitXor_nat]; exact h)
theorem n_aug {P : V → Hp → Prop} (h : P (.int ((a + b : Nat) : Int)) H) : ipI (fun i j => i + j) (.int (a : Int)) (.int (b : Int)) H P := r_ipI (by
  show P (.int ((a : Int) + (b : Int))) H
  rw [← Int.natCast_add]; exact h)
theorem n_aug1 {P : V → Hp → Prop} (h : P (.int ((a + 1 : Nat) : Int)) H) : ipI (fun i j => i + j) (.int (a : Int)) (.int 1) H P := r_ipI h
end
/-! ### heaps that grow -/
abbrev Ex := Evl.Ex
theorem Ex.up {H H1 : Hp} {p : Addr} {o : HO} (e : Ex H H1) (h : H1 p = none) : Ex H (upd H1 p o) := Evl.Ex.trans e (Evl.Ex.new h)
theorem Ex.trans {H H1 H2 : Hp} (a : Ex H H1) (b : Ex H1 H2) : Ex H H2 := Evl.Ex.trans a b
theorem Ex.rf {H : Hp} : Ex H H := Evl.Ex.refl H
theorem Ex.up2 {H H1 : Hp} {p : Addr} {o : HO} (e : Ex H H1) (h : H p = none) : Ex H (upd H1 p o) := Evl.Ex.mut e h
theorem fresh {H H1 : Hp} {p : Addr} (e : Ex H H1) (h : H1 p = none) : H p = none := Evl.fresh_back e h
/-- tuples stay -/
def Tx (H H' : Hp) : Prop := ∀ t xs, H t = some (.tup xs) → H' t = some (.tup xs)
theorem Tx.rf {H : Hp} : Tx H H := fun _ _ h => h
theorem Tx.trans {H H1 H2 : Hp} (a : Tx H H1) (b : Tx H1 H2) : Tx H H2 := fun t xs h => b t xs (a t xs h)
theorem Ex.tx {H H1 : Hp} (e : Ex H H1) : Tx H H1 := fun t xs h => e t _ h
theorem Tx.new {H H1 : Hp} {p : Addr} {o : HO} (e : Tx H H1) (h : H1 p = none) : Tx H (upd H1 p o) := fun t xs q => by
  have z := e t xs q
  rw [upd_ne (fun w => by rw [w, h] at z; cases z)]
  exact z
theorem Tx.lst {H H1 : Hp} {p : Addr} {o : HO} {ys : List V} (e : Tx H H1) (h : H1 p = some (.lst ys)) : Tx H (upd H1 p o) := fun t xs q => by
  have z := e t xs q
  rw [upd_ne (fun w => by rw [w, h] at z; cases z)]
  exact z
/-! ### comprehensions -/
section
variable {K : PySem.W.Frag} {a : Addr} {xs : List V} {g : TG} {tt : TT} {te : TE} {vs : List Nat} {σ : L2.St} {H H1 : Hp} {D : Addr} {Qd : Hp → Prop}
theorem r_lc {wi : TI} {Q : VK} (h : wi σ H fun J H1 => ∀ D, H1 D = none → ∃ W : Nat → Nat → Hp → Prop, (∃ m, W 0 m (upd H1 D (.lst []))) ∧ ∀ i m H, W i m H →
      (J.stop i H ∧ Q (.ref D) H) ∨ (J.go i H ∧ ∃ Nx : Hp → Prop, (∀ H', Nx H' → ∃ m', m' < m ∧ W (i + 1) m' H') ∧ ∀ x H', J.yld i H x H' → g x (wipe σ vs) H' fun σ2 H2 => wipe σ2 vs = wipe σ vs ∧ tt σ2 H2 fun b H3 =>
        if b = true then te σ2 H3 fun y H4 => ∃ acc, H4 D = some (.lst acc) ∧ acc.length < sizeLine ∧ Nx (upd H4 D (.lst (acc ++ [y]))) else Nx H3)) : tLc wi g tt te vs σ H Q := h
theorem lc_enumT (σ0 : L2.St) (hw : wipe σ vs = σ0) (Pv : Nat → Hp → Prop) (h0 : Pv 0 (upd H1 D (.lst []))) (hl : ∀ i H, i ≤ xs.length → Pv i H → SqT K H a xs)
    (hs : ∀ i x T H, xs[i]? = some x → Pv i H → H T = none → g (.ref T) σ0 (upd H T (.tup [.int (i : Nat), x])) fun σ2 H2 => wipe σ2 vs = σ0 ∧ tt σ2 H2 fun b H3 =>
      if b = true then te σ2 H3 fun y H4 => ∃ acc, H4 D = some (.lst acc) ∧ acc.length < sizeLine ∧ Pv (i + 1) (upd H4 D (.lst (acc ++ [y]))) else Pv (i + 1) H3) (hd : ∀ H, Pv xs.length H → Qd H) :
    ∃ W : Nat → Nat → Hp → Prop, (∃ m, W 0 m (upd H1 D (.lst []))) ∧ ∀ i m H, W i m H →
      ((IteT K a).stop i H ∧ Qd H) ∨ ((IteT K a).go i H ∧ ∃ Nx : Hp → Prop, (∀ H', Nx H' → ∃ m', m' < m ∧ W (i + 1) m' H') ∧ ∀ x H', (IteT K a).yld i H x H' → g x (wipe σ vs) H' fun σ2 H2 => wipe σ2 vs = wipe σ vs ∧ tt σ2 H2 fun b H3 =>
        if b = true then te σ2 H3 fun y H4 => ∃ acc, H4 D = some (.lst acc) ∧ acc.length < sizeLine ∧ Nx (upd H4 D (.lst (acc ++ [y]))) else Nx H3) := by
  rw [hw]
  refine ⟨fun i m H => m = xs.length - i ∧ i ≤ xs.length ∧ Pv i H, ⟨xs.length, by simp, Nat.zero_le _, h0⟩, ?_⟩
  rintro i m H ⟨rfl, hi, p⟩
  have hq := hl i H hi p
  by_cases hlt : i < xs.length
  · refine .inr ⟨⟨xs, xs[i], hq, by simp [hlt]⟩, Pv (i + 1), fun H' p' => ⟨xs.length - (i + 1), by omega, rfl, hlt, p'⟩, ?_⟩
    rintro x H' ⟨T, y, rfl, hT, rfl, hy⟩
    exact hs i y T H (hy xs hq) p hT
  · have e : i = xs.length := by omega
    subst e
    exact .inl ⟨⟨xs, hq, Nat.le_refl _⟩, hd H p⟩
end
theorem r_iEnumT {K : PySem.W.Frag} {tA : TA} {σ : L2.St} {H : Hp} {R : It → Hp → Prop} (h : tA σ H fun vs H1 => ∃ a xs, vs = [.ref a] ∧ SqT K H1 a xs ∧ R (IteT K a) H1) : iEnumA K tA σ H R := .inr h
theorem r_sum {K : PySem.W.Frag} {H : Hp} {Q : VK} {a : Addr} {ns : List Int} (hs : SqL K H a (ns.map V.int)) (h : Q (.int ns.sum) H) : rSum K [.ref a] H Q := ⟨a, ns, rfl, hs, h⟩
/-! ### data stay -/
mutual
theorem dp_mono {K : PySem.W.Frag} {H H' : Hp} (e : Ex H H') : ∀ {v : V} {d : PyData}, Dp K H v d → Dp K H' v d
  | _, _, .non => .non
  | _, _, .bl b => .bl b
  | _, _, .int i => .int i
  | _, _, .str x => .str x
  | _, _, .lst h r => .lst (Evl.ex_l e h) (dpAll_mono e r)
  | _, _, .tup h r => .tup (Evl.ex_t e h) (dpAll_mono e r)
theorem dpAll_mono {K : PySem.W.Frag} {H H' : Hp} (e : Ex H H') : ∀ {vs : List V} {ds : List PyData}, DpAll K H vs ds → DpAll K H' vs ds
  | _, _, .nil => .nil
  | _, _, .cons h r => .cons (dp_mono e h) (dpAll_mono e r)
end
end Fk
/-! ## defs that are called where no repr is under way: repr of data -/
namespace Fk
open PySem PySem.Spec PyProof.Rows L2
/-- as FnOk, where no guard stands around -/
structure FnG (P : Program) (w : World) (K : PySem.W.Frag) (mg : Str → Option Value) (base : Heap) (k : Nat) (f : Addr) (fd : FuncData) (ps : List Str) (sp : Sp) : Prop where
  len : ∀ vs H Q E, sp vs H Q E → vs.length = ps.length
  run : ∀ (A : Around) (outer : List Env) (s : Shared) (H : Hp) (args : Args) (us : List Value) (vs : List V) (Q : VK) (E : XK), A.guards = some [] → Room k A → Env0 P w K mg base A outer s H →
    BindsTo s fd args (ps.zip us) → Vals vs us → sp vs H Q E → codeAny (model P w) A (.call (.ref f) args) (CR (L2.CX P w) outer P w H s Q E) s
section
variable {P : Program} {w : World} {K : PySem.W.Frag} {mg : Str → Option Value} {base : Heap} {k : Nat} {f : Addr} {fd : FuncData} {ps N : List Str} {sp : Sp} {x qual : Str} {params : Arguments} {body : List Stmt} {scope : Scope} {dvs : List V} {kws : List (Str × V)}
theorem FnG.of (F : FnOk P w K mg base (L2.CX P w) k f fd ps sp) : FnG P w K mg base k f fd ps sp := ⟨F.len, fun A outer s H args us vs Q E _ => F.run A outer s H args us vs Q E⟩
/-- a def's body, run where no guard stands -/
theorem okG (F : FunD K x qual params body scope dvs kws f fd) (S : FnScope N ps scope) (len : ∀ vs H Q E, sp vs H Q E → vs.length = ps.length)
    (hb : ∀ (cdv : Value) (A : Around) (outer : List Env) (s : Shared) (H : Hp) (vs : List V) (Q : VK) (E : XK), A.guards = some [] → Room k (A.deeper (envOfC qual scope s.heap.objs.size f cdv)) → sp vs H Q E →
      ∃ t, PSs (cxOf (L2.CX P w) P w K mg base N qual scope f cdv A outer s H E) body t ∧ t { nx := fun _ H' => Q .non H', rt := Q } (start N vs) H) : FnG P w K mg base (k + 1) f fd ps sp := by
  obtain ⟨oc, od, dV, kV, doc, pm, an, cdv, ct, osl, rfl, lk, hcd, _, _⟩ := F.ex
  refine ⟨len, ?_⟩
  intro A outer s H args us vs Q E hG hr e0 hbi r hsp
  have inK : K.In s.heap := e0.mod.kin.keeps fun b o e => (e0.bs b o e).1
  have lim : s.heap.NoLimit := e0.mod.nolimit.keeps fun b o e => (e0.bs b o e).1
  refine codeAny_call_function hr.depth (inK _ _ lk) rfl S.co S.gen rfl (PySem.W.codeRec_of inK hcd) (hbi _ _ _ _ ?_)
  refine wpAny_newFunctionEnv_cells S.kind ?_ ?_
  · rintro ⟨n, v⟩ hy
    rcases S.par n (List.of_mem_zip hy).1 with z | z
    · exact .inl z
    · exact .inr ⟨z, PySem.W.cellsFrom_some _ _ _ (.inl z)⟩
  intro env he s1 y
  subst he
  refine ⟨lim.keeps y.toInCall.keep, codeAny_func ?_⟩
  obtain ⟨t, ht, hq⟩ := hb cdv A outer s H vs Q E hG (hr.deeper _) hsp
  have I := inv_start (CX := L2.CX P w) (E := E) S hr.hd e0 (len _ _ _ _ hsp) r y
  refine wpAny_mono (ht.run [] s1 (start N vs) H _ I hq) ?_ (fun e s' z => z)
  intro fl s' z
  cases fl with
  | ret u =>
    obtain ⟨v, σ', H', J, rv, q⟩ := z
    exact ⟨v, H', J.os, J.bare, J.base, J.hok, rv, q⟩
  | next =>
    obtain ⟨σ', H', J, q⟩ := z
    exact ⟨V.non, H', J.os, J.bare, J.base, J.hok, rfl, q⟩
  | brk => obtain ⟨_, _, _, q⟩ := z; exact q.elim
  | cont => obtain ⟨_, _, _, q⟩ := z; exact q.elim
end
structure CalG (P : Program) (w : World) (K : PySem.W.Frag) (mg : Str → Option Value) (base : Heap) (k : Nat) (x : Str) (ps : List Str) (dvs : List V) (sp : Sp) : Prop where
  ex : ∃ (f : Addr) (fd : FuncData) (ds : List Value), FnG P w K mg base k f fd ps sp ∧ mg x = some (.ref f) ∧ PySem.W.keepIn K (.ref f) = true ∧ Binds K fd ps ds ∧ Vals dvs ds
section
variable {X : Cx} {k j : Nat} {x : Str} {ps : List Str} {dvs : List V} {sp : Sp} {E : XK} {p pos : Pos} {e : Expr} {es : List Expr} {t : TA} {f : Addr} {fd : FuncData} {ds : List Value}
theorem run_fnG {pins : List (Addr × Obj)} {σ : L2.St} {H : Hp} {s : Shared} {Q : VK} {us : List Value} {vs : List V} (F : FnG X.prog X.w X.K X.mg X.base k f fd ps sp) (hG : X.A.guards = some []) (hr : Room k X.A) (hb : Binds X.K fd ps ds) (hd : Vals dvs ds)
    (hx : Passes (L2.CX X.prog X.w) X E) (I : Inv X pins σ H s) (r : Vals vs us) (h : sp (vs ++ dvs) H Q E) : wpAny (model X.prog X.w) X.A (call (.ref f) us) (EP X pins σ Q) X.xe s := by
  have r2 := r.append hd
  have hl : (us ++ ds).length = ps.length := r2.length.symm.trans (F.len _ _ _ _ h)
  refine wpAny_call (codeAny_mono (F.run X.A X.stack s H ⟨us, []⟩ (us ++ ds) (vs ++ dvs) Q E hG hr I.env0 (hb s us I.kIn hl) r2 h) ?_)
  intro r s' z
  cases r with
  | error e => exact hx pins σ H s e s' I z
  | ok fl => cases fl with
    | ret u => exact I.after z
    | next => exact z.elim
    | brk => exact z.elim
    | cont => exact z.elim
theorem pe_calG (F : CalG X.prog X.w X.K X.mg X.base k x ps dvs sp) (hG : X.A.guards = some []) (hr : Room j X.A) (hk : k ≤ j) (hg : Gl X x) (hx : Passes (L2.CX X.prog X.w) X E) (ha : PA X (e :: es) t)
    (hdb : (x == ("__debug__" : Str)) = false := by decide) (he : starEach (e :: es) X.env = (false, eval e X.env) :: starEach es X.env := by rfl) (hpl : (backTo pos (starEach es X.env)).any (·.1) = false := by rfl) :
    PE X (.Call (.Name x p) (e :: es) [] pos) (tCall sp dvs E t) := by
  obtain ⟨f, fd, ds, G, gm, kp, b, v⟩ := F.ex
  refine ⟨fun pins s σ H Q I h => wpAny_Call_Name_kw (ld_glob I hg gm ?_ hdb)⟩
  refine PySem.W.callWith_K (h₀ := X.base) I.ok.mod.kin kp (thn (ha.run pos pins s σ H _ I h) ?_) he hpl
  rintro us s1 ⟨vs, H1, I1, r, q⟩
  exact ⟨I1.kIn, run_fnG G hG (hr.mono hk) b v hx I1 r q⟩
end
/-! ### repr -/
def uRepr (K : PySem.W.Frag) : List V → Hp → VK → Prop := fun xs H Q => ∃ v d, xs = [v] ∧ Dp K H v d ∧ d.showable = true ∧ d.depth ≤ 60 ∧ d.hasDict = false ∧ d.shown.length ≤ sizeLine ∧ Q (.str d.shown) H
theorem call_repr {X : Cx} (hG : X.A.guards = some []) (hu : X.A.units + 64 < cLine) : CallR X (.builtin "repr") (uRepr X.K) := by
  intro pins s σ H xs us Q I r h
  obtain ⟨v, d, rfl, hd, hs, hdp, hnd, hz, q⟩ := h
  cases r with
  | cons ru rn =>
    rename_i u us'
    cases rn
    obtain ⟨as, rd⟩ := Dp.reads I d v u hd ru
    have fin : ∀ h' uu tk, (∀ b o, s.heap.get? b = some o → h'.get? b = some o) → EP X pins σ Q (.str d.shown uu) { s with heap := h', toks := tk } := fun h' uu tk hk => ⟨.str d.shown, H, I.kept (t' := tk) hk, ⟨uu, rfl⟩, q⟩
    cases u with
    | ref a => exact repr_of_reads' rd hs (fun z => by rw [hnd] at z; cases z) hG (by omega) (fun _ _ e => e) fin hz
    | none =>
      cases rd
      exact P.repr_of_none (fin s.heap _ _ fun _ _ e => e)
    | bool b =>
      cases rd
      exact P.repr_of_bool (fin s.heap _ _ fun _ _ e => e)
    | int i t =>
      cases rd
      exact P.repr_of_int (by simpa [PyData.showable] using hs) (fin s.heap _ _ fun _ _ e => e)
    | str z t =>
      cases rd
      exact P.repr_of_str (fin s.heap _ _ fun _ _ e => e) hz
    | _ => cases rd
/-! ### the law's call -/
theorem law_G {P : Program} {w : World} {K : PySem.W.Frag} {mg mb : Str → Option Value} {k : Nat} {fa a : Addr} {fd : FuncData} {x : Str} {sp : Sp} {s1 : Shared} {vs : List Value} {ns : List Int}
    (KX : K.In s1.heap) (hns : s1.heap.Ns mainGlobals mg) (hb : s1.heap.Ns builtinsNs mb) (hbb : ∀ x : Str, x ≠ "__name__" → mb x = bootBuiltins x) (hlim : s1.heap.NoLimit) (hg : s1.gens = #[])
    (ha : s1.heap.get? a = some { cls := .type "list", data := .seq vs.toArray }) (hi : IntsAre vs ns) (hl : ns.length ≤ sizeLine) (hr : Room k callerA)
    (Fn : ∀ base : Heap, K.In base → base.Ns mainGlobals mg → FnG P w K mg base k fa fd [x] sp) (hbind : ∀ (s : Shared) (u : Value), BindsTo s fd ⟨[u], []⟩ [(x, u)])
    (hsp : ∀ H : Hp, SqL K H a (ns.map V.int) → sp [.ref a] H (fun v _ => v = .bl true) fun _ _ _ => False) :
    codeAny (model P w) callerA (.call (.ref fa) ⟨[.ref a], []⟩) (fun r s' => r = .ok (.ret (.bool true)) ∧ OldK s1.heap s'.heap ∧ s'.os = s1.os ∧ AllBare s'.gens) s1 := by
  have rv := vals_ints hi
  have lenV := hi.length
  let ob : Obj := { cls := .type "list", data := .seq vs.toArray }
  let Hs : Hp := fun b => if b = a ∧ K.lookup a = none then some (.frz ob (.lst (ns.map V.int))) else none
  have at_ : ∀ b u, Hs b = some u → b = a ∧ K.lookup a = none ∧ u = .frz ob (.lst (ns.map V.int)) := fun b u q => by
    by_cases c : b = a ∧ K.lookup a = none
    · have q2 : some (HO.frz ob (.lst (ns.map V.int))) = some u := (if_pos c).symm.trans q
      exact ⟨c.1, c.2, (Option.some.inj q2).symm⟩
    · have q2 : (none : Option HO) = some u := (if_neg c).symm.trans q
      cases q2
  have hS : SqL K Hs a (ns.map V.int) := by
    cases hk : K.lookup a with
    | none => exact .inl (.inr ⟨ob, if_pos ⟨rfl, hk⟩⟩)
    | some o =>
      have e := KX a o hk
      rw [ha] at e
      cases e
      exact .inr ⟨_, vs.toArray, _, hk, rfl, rfl, rfl, by rw [List.size_toArray, lenV]; exact hl, by simpa using rv⟩
  have hok : HOk P w Hs s1.heap := fun b u q => by
    obtain ⟨rfl, _, rfl⟩ := at_ b u q
    exact ⟨ha, by rw [List.length_map]; exact hl, vs, _, rv, ha⟩
  have hid : ∀ {b : Addr} {o : Obj}, s1.heap.get? b = some o → (b = a → K.lookup a ≠ none) → (hidT s1.heap Hs).get? b = some o := fun {b o} e n => by
    refine hidT_get e ?_
    cases q : Hs b with
    | none => rfl
    | some u =>
      obtain ⟨e1, e2, _⟩ := at_ b u q
      exact absurd e2 (n e1)
  have nsK : ∀ {b : Addr} {m : Str → Option Value}, s1.heap.Ns b m → (hidT s1.heap Hs).Ns b m := fun {b m} ⟨o, es, ep, e, d, rr⟩ => by
    refine ⟨o, es, ep, hid e ?_, d, rr⟩
    rintro rfl
    rw [ha] at e
    cases e
    cases d
  have hKb : K.In (hidT s1.heap Hs) := fun b o e => hid (KX b o e) (fun z => by rw [← z, e]; exact fun q => nomatch q)
  have hM : Mod K mg (hidT s1.heap Hs) := by
    refine ⟨hKb, nsK hns, ⟨mb, nsK hb, hbb⟩, ?_⟩
    obtain ⟨mc, h1, h2⟩ := hlim
    exact ⟨mc, nsK h1, h2⟩
  have e0 : Env0 P w K mg (hidT s1.heap Hs) callerA [] s1 Hs := ⟨rfl, hM, fun b o e => of_hidT e, Nat.le_of_eq (hidT_size _ _), trivial, fun b z => absurd (show b ∈ ([] : List Addr) from z) (by simp), hok, .of_eq hg⟩
  refine codeAny_mono ((Fn _ hKb (nsK hns)).run callerA [] s1 Hs ⟨[.ref a], []⟩ [.ref a] [.ref a] _ _ rfl hr e0 (hbind s1 (.ref a)) (.cons rfl .nil) (hsp Hs hS)) ?_
  intro r s' h
  cases r with
  | error e =>
    obtain ⟨_, _, _, _, _, _, _, _, _, _, _, _, z⟩ := h
    exact z.elim
  | ok fl =>
    cases fl with
    | next => exact h.elim
    | brk => exact h.elim
    | cont => exact h.elim
    | ret u =>
      obtain ⟨v, H', os, bare, un, hok', r', q⟩ := h
      have q' : v = .bl true := q
      subst q'
      obtain rfl : u = Value.bool true := r'
      refine ⟨rfl, OldK.of_keep fun b o e => ?_, os, bare⟩
      cases q : Hs b with
      | none => exact un.keep b o e q (fun z => absurd (show b ∈ ([] : List Addr) from z) (by simp)) (by simp)
      | some u =>
        obtain ⟨e1, e2, e3⟩ := at_ b u q
        subst e3
        have z2 := un.frzs b ob _ q
        obtain ⟨g1, _⟩ := hok b _ q
        obtain ⟨g2, _⟩ := hok' b _ z2
        rw [e] at g1
        cases g1
        exact g2
theorem walk_endG {l : PySem.W.OpenLaw} {n k : Nat} {q : Program} {loose : List Str} {XP : (Str → Option Value) → Heap → Prop} {YP : World → Heap → Prop} {d : DefRec} {x : Str}
    (hn : l.most = some n) (hn2 : n ≤ sizeLine) (hdf : d.params.defaults = []) (hr : Room k callerA)
    (Fx : ∀ (w : World) (mg : Str → Option Value) (fa : Addr) (h : Heap), YP w h → h.Ns mainGlobals mg → mg d.name = some (.ref fa) →
      ∃ (K : PySem.W.Frag) (fd : FuncData) (sp : Sp), K.In h ∧ (∀ (s : Shared) (u : Value), BindsTo s fd ⟨[u], []⟩ [(x, u)]) ∧
        (∀ (H : Hp) (a : Addr) (ns : List Int), ns.length ≤ n → (∀ z ∈ ns, Builtin.Int.intBits z ≤ 1048576) → SqL K H a (ns.map V.int) → sp [.ref a] H (fun v _ => v = .bl true) fun _ _ _ => False) ∧
        ∀ base : Heap, K.In base → base.Ns mainGlobals mg → FnG l.prog w K mg base k fa fd [x] sp) :
    PySem.W.WalkO q loose XP YP l.row.toRowW d [] (fun f vs => PySem.call f vs) := by
  refine Att.attach_callB hn hdf ?_
  intro w s0 s1 mg mb fa o pm cd doc a vs ns G Y ho hd hcd hmg hobj hints hlen hbits hg
  obtain ⟨K, fd, sp, KX, hb, hsp, hF⟩ := Fx w mg fa _ Y G.T.g hmg
  exact law_G KX G.T.g G.T.b G.T.builtins G.T.nolimit hg hobj hints (Nat.le_trans hlen hn2) hr hF hb (fun H hS => hsp H a ns hlen hbits hS)
end Fk
/-! ## data whose text is short -/
namespace Fk
open PySem PySem.Spec PyProof.Rows L2
/-- data of depth at most k whose text has at most n signs -/
structure Sw (k n : Nat) (d : PyData) : Prop where
  lay : d.canLay0 = true
  dep : d.depth ≤ k
  shw : d.showable = true
  len : d.shown.length ≤ n
structure SwAll (k n : Nat) (ds : List PyData) : Prop where
  lay : PyData.canLayAll0 ds = true
  dep : PyData.depthAll ds ≤ k
  shw : PyData.showableAll ds = true
  len : ((PyData.shownAll ds).map (·.length)).sum + 2 * (PyData.shownAll ds).length ≤ n
theorem sw_none {k : Nat} : Sw k 4 .none := ⟨rfl, Nat.zero_le _, rfl, by decide +kernel⟩
theorem sw_bool {k : Nat} (b : Bool) : Sw k 5 (.bool b) := ⟨rfl, Nat.zero_le _, rfl, by cases b <;> decide +kernel⟩
theorem sw_int {k : Nat} {i : Int} (h : i.natAbs < 2 ^ 128) : Sw k 129 (.int i) := by
  have lg : i.natAbs.log2 < 128 := by
    by_cases z : i.natAbs = 0
    · rw [z]; decide
    · exact (Nat.log2_lt z).mpr h
  refine ⟨rfl, Nat.zero_le _, ?_, ?_⟩
  · have : i.natAbs.log2 < 1920 := by omega
    simpa [PyData.showable] using this
  · have e : (PyData.int i).shown = Str.ofString (toString i) := by simp only [PyData.shown]
    rw [e, PySem.ofString_length]
    exact int_text_length_le (by decide) lg
theorem sw_str {k : Nat} {x : Str} (ok : PyData.strOk x = true) : Sw k (10 * x.length + 2) (.str x) := by
  refine ⟨by simpa [PyData.canLay0] using ok, Nat.zero_le _, by simp [PyData.showable], ?_⟩
  have e : (PyData.str x).shown = reprText x := by simp only [PyData.shown]
  rw [e]
  refine StrLaws.reprText_len x fun c hc => ?_
  have q : x.cps.all (· < 0x110000) = true := ok
  have := Array.all_eq_true'.mp q c (by simpa using hc)
  have e2 : (0x110000 : Nat) ≤ 16 ^ 8 := by decide
  simp at this
  omega
theorem swa_nil {k : Nat} : SwAll k 0 [] := ⟨rfl, Nat.zero_le _, rfl, by simp [PyData.shownAll]⟩
theorem swa_cons {k n m : Nat} {d : PyData} {ds : List PyData} (h : Sw k n d) (r : SwAll k m ds) : SwAll k (n + 2 + m) (d :: ds) := by
  refine ⟨by simp [PyData.canLayAll0, h.lay, r.lay], ?_, by simp [PyData.showableAll, h.shw, r.shw], ?_⟩
  · have := h.dep
    have := r.dep
    simp only [PyData.depthAll]
    omega
  · have := h.len
    have := r.len
    simp only [PyData.shownAll, List.map_cons, List.sum_cons, List.length_cons]
    omega
theorem sw_tup {k n : Nat} {ds : List PyData} (h : SwAll k n ds) : Sw (k + 1) (n + 3) (.tuple ds) := by
  refine ⟨by simpa [PyData.canLay0] using h.lay, by have := h.dep; simp only [PyData.depth]; omega, by simpa [PyData.showable] using h.shw, ?_⟩
  have := tupleText_len_le (PyData.shownAll ds)
  have := h.len
  simp only [PyData.shown]
  omega
theorem sw_lst {k n : Nat} {ds : List PyData} (h : SwAll k n ds) : Sw (k + 1) (n + 3) (.list ds) := by
  refine ⟨by simpa [PyData.canLay0] using h.lay, by have := h.dep; simp only [PyData.depth]; omega, by simpa [PyData.showable] using h.shw, ?_⟩
  have := listText_len_le (PyData.shownAll ds)
  have := h.len
  simp only [PyData.shown]
  omega
theorem Sw.shaped {k n : Nat} {d : PyData} (h : Sw k n d) (hk : k ≤ 60) : SeqAt.shaped d = true := by
  unfold SeqAt.shaped
  rw [h.lay, Bool.true_and]
  exact decide_eq_true (Nat.le_trans h.dep (by omega))
section
variable {K : PySem.W.Frag} {H : Hp} {Q : VK} {v u : V} {d e : PyData}
theorem r_repr {k n : Nat} (hd : Dp K H v d) (hs : Sw k n d) (hk : k ≤ 60) (hn : n ≤ 16000000) (h : Q (.str d.shown) H) : uRepr K [v] H Q :=
  ⟨v, d, rfl, hd, hs.shw, Nat.le_trans hs.dep hk, PyData.hasDict_of_canLay d hs.lay, Nat.le_trans hs.len (Nat.le_trans hn (by decide)), h⟩
theorem dp_tup {p : Addr} {vs : List V} {ds : List PyData} (hp : H p = some (.tup vs)) (h : DpAll K H vs ds) : Dp K H (.ref p) (.tuple ds) := .tup (SqT.of hp) h
theorem r_eqS {x y : Str} (h : Q (.bl (decide (x = y))) H) : uEq K (.str x) (.str y) H Q := by
  refine .inl ⟨rfl, ?_⟩
  have e : decide ((V.str x) = V.str y) = decide (x = y) := by
    by_cases q : x = y
    · subst q; simp
    · rw [decide_eq_false q, decide_eq_false (fun z => q (V.str.inj z))]
  show Q (.bl (decide ((V.str x) = V.str y))) H
  rw [e]
  exact h
theorem r_neS {x y : Str} (h : Q (.bl (!decide (x = y))) H) : uNe K (.str x) (.str y) H Q := by
  refine .inl ⟨rfl, ?_⟩
  have e : decide ((V.str x) = V.str y) = decide (x = y) := by
    by_cases q : x = y
    · subst q; simp
    · rw [decide_eq_false q, decide_eq_false (fun z => q (V.str.inj z))]
  show Q (.bl (!decide ((V.str x) = V.str y))) H
  rw [e]
  exact h
end
end Fk
/-! ## data with small dicts, their repr -/
namespace Fk
open PySem PySem.Spec PyProof.Rows L2
mutual
/-- what a value reads as: leaves, tuples, dicts of ints -/
inductive Dt (K : PySem.W.Frag) (H : Hp) : V → PyData → Prop
  | non : Dt K H .non .none
  | bl (b : Bool) : Dt K H (.bl b) (.bool b)
  | int (i : Int) : Dt K H (.int i) (.int i)
  | str (x : Str) : Dt K H (.str x) (.str x)
  | tup {a : Addr} {xs : List V} {ds : List PyData} : SqT K H a xs → DtAll K H xs ds → Dt K H (.ref a) (.tuple ds)
  | dct {a : Addr} {ns : List (Int × Int)} : H a = some (.dK (ns.map fun z => (Sum.inl z.1, V.int z.2))) → Dt K H (.ref a) (.dict (ns.map fun z => (.int z.1, .int z.2)))
inductive DtAll (K : PySem.W.Frag) (H : Hp) : List V → List PyData → Prop
  | nil : DtAll K H [] []
  | cons {v : V} {vs : List V} {d : PyData} {ds : List PyData} : Dt K H v d → DtAll K H vs ds → DtAll K H (v :: vs) (d :: ds)
end
theorem rd_pairs {P : Program} {w : World} {h : Heap} : ∀ (ns : List (Int × Int)) (es : List DictEntry) (vs : List (Key × Value)), KV (ns.map fun z => ((Sum.inl z.1 : Key), V.int z.2)) vs → Pairs (mixKind P w) es vs →
    ReadsAll h (es.map (·.key)) ((ns.map fun z => (PyData.int z.1, PyData.int z.2)).map (·.1)) [] ∧ ReadsAll h (es.map (·.val)) ((ns.map fun z => (PyData.int z.1, PyData.int z.2)).map (·.2)) []
  | [], es, vs, r, p => by
    rw [List.map_nil] at r
    cases r
    cases p
    exact ⟨.nil, .nil⟩
  | z :: ns, es, vs, r, p => by
    rw [List.map_cons] at r
    cases r with
    | cons h1 h2 =>
      cases p with
      | @cons e kv es' kvs' k1 k2 k3 =>
        obtain ⟨q1, q2⟩ := rd_pairs (h := h) ns es' _ h2 k3
        obtain ⟨e1, t, e2⟩ := h1
        rw [← e1] at k1
        rcases keyIs_shape (show keyIs (Sum.inl z.1) e.key = true from k1) with ⟨i, t', ei, ek⟩ | ⟨x, t', ei, ek⟩
        · cases ei
          refine ⟨?_, ?_⟩
          · have a := ReadsAll.cons (h := h) (Reads.int z.1 t') q1
            show ReadsAll h (e.key :: es'.map (·.key)) _ []
            rw [ek]
            exact a
          · have a := ReadsAll.cons (h := h) (Reads.int z.2 t) q2
            show ReadsAll h (e.val :: es'.map (·.val)) _ []
            rw [k2, e2]
            exact a
        · cases ei
section
variable {X : Cx} {pins : List (Addr × Obj)} {σ : L2.St} {H : Hp} {s : Shared}
mutual
theorem Dt.reads (I : Inv X pins σ H s) : ∀ (d : PyData) (v : V) (u : Value), Dt X.K H v d → RelV v u → ∃ as, Reads s.heap u d as ∧ sysModules ∉ as
  | .none, _, _, h, r => by
    cases h
    cases r
    exact ⟨_, Reads.none, by simp⟩
  | .bool b, _, _, h, r => by
    cases h
    cases r
    exact ⟨_, Reads.bool b, by simp⟩
  | .int i, _, _, h, r => by
    cases h
    obtain ⟨t, rfl⟩ := r
    exact ⟨_, Reads.int i t, by simp⟩
  | .str x, _, _, h, r => by
    cases h
    obtain ⟨t, rfl⟩ := r
    exact ⟨_, Reads.str x t, by simp⟩
  | .list ds, _, _, h, r => by cases h
  | .tuple ds, _, _, h, r => by
    cases h with
    | tup hs ha =>
      cases r
      obtain ⟨its, rv, ⟨o, ho, hc, n, hd⟩, _⟩ := I.tuple hs
      obtain ⟨as, hr, hn⟩ := Dt.readsAll I ds _ its ha rv
      exact ⟨_, Reads.tuple ho hc hd hr, hn⟩
  | .dict kvs, _, _, h, r => by
    generalize ek : kvs = kk at h
    cases h with
    | @dct a ns e =>
      cases r
      obtain ⟨_, hy, vs, kv, o, es, ep, ho, hx, hd, _, prs, _⟩ := I.hok a _ e
      obtain ⟨q1, q2⟩ := rd_pairs (h := s.heap) ns es.toList vs kv prs
      refine ⟨_, Reads.dict ho hx.1 hd q1 q2, ?_⟩
      intro z
      have z2 : sysModules = a := by simpa using z
      rw [z2] at hy
      simp at hy
theorem Dt.readsAll (I : Inv X pins σ H s) : ∀ (ds : List PyData) (vs : List V) (us : List Value), DtAll X.K H vs ds → Vals vs us → ∃ as, ReadsAll s.heap us ds as ∧ sysModules ∉ as
  | [], _, _, h, r => by
    cases h
    cases r
    exact ⟨_, ReadsAll.nil, by simp⟩
  | d :: ds, _, _, h, r => by
    cases h with
    | cons h1 h2 =>
      cases r with
      | cons r1 r2 =>
        obtain ⟨as, q1, n1⟩ := Dt.reads I d _ _ h1 r1
        obtain ⟨bs, q2, n2⟩ := Dt.readsAll I ds _ _ h2 r2
        exact ⟨_, ReadsAll.cons q1 q2, fun z => (List.mem_append.mp z).elim n1 n2⟩
end
end
/-- data of either sort -/
def Dd (K : PySem.W.Frag) (H : Hp) (v : V) (d : PyData) : Prop := Dp K H v d ∨ Dt K H v d
def uReprD (K : PySem.W.Frag) : List V → Hp → VK → Prop := fun xs H Q => ∃ v d, xs = [v] ∧ Dd K H v d ∧ d.showable = true ∧ d.depth ≤ 60 ∧ (Dp K H v d → d.hasDict = false) ∧ d.shown.length ≤ sizeLine ∧ Q (.str d.shown) H
theorem call_reprT {X : Cx} (hG : X.A.guards = some []) (hu : X.A.units + 64 < cLine) : CallR X (.builtin "repr") (uReprD X.K) := by
  intro pins s σ H xs us Q I r h
  obtain ⟨v, d, rfl, hd, hs, hdp, hnd, hz, q⟩ := h
  cases r with
  | cons ru rn =>
    rename_i u us'
    cases rn
    obtain ⟨as, rd, hsm⟩ : ∃ as, Reads s.heap u d as ∧ (d.hasDict = true → sysModules ∉ as) := by
      rcases hd with hd | hd
      · obtain ⟨as, rd⟩ := Dp.reads I d v u hd ru
        exact ⟨as, rd, fun z => by rw [hnd hd] at z; cases z⟩
      · obtain ⟨as, rd, n⟩ := Dt.reads I d v u hd ru
        exact ⟨as, rd, fun _ => n⟩
    have fin : ∀ h' uu tk, (∀ b o, s.heap.get? b = some o → h'.get? b = some o) → EP X pins σ Q (.str d.shown uu) { s with heap := h', toks := tk } := fun h' uu tk hk => ⟨.str d.shown, H, I.kept (t' := tk) hk, ⟨uu, rfl⟩, q⟩
    cases u with
    | ref a => exact repr_of_reads' rd hs hsm hG (by omega) (fun _ _ e => e) fin hz
    | none =>
      cases rd
      exact P.repr_of_none (fin s.heap _ _ fun _ _ e => e)
    | bool b =>
      cases rd
      exact P.repr_of_bool (fin s.heap _ _ fun _ _ e => e)
    | int i t =>
      cases rd
      exact P.repr_of_int (by simpa [PyData.showable] using hs) (fin s.heap _ _ fun _ _ e => e)
    | str z t =>
      cases rd
      exact P.repr_of_str (fin s.heap _ _ fun _ _ e => e) hz
    | _ => cases rd
end Fk
/-! ## more loops -/
namespace Fk
open PySem PySem.Spec PyProof.Rows L2
section
variable {K : PySem.W.Frag} {D : Ends} {σ : L2.St} {H : Hp} {g : TG} {tb : TS} {a : Addr} {xs : List V}
theorem r_iEnumL {tA : TA} {R : It → Hp → Prop} (h : tA σ H fun vs H1 => ∃ a xs, vs = [.ref a] ∧ SqL K H1 a xs ∧ R (Ite K a) H1) : iEnumA K tA σ H R := .inl h
theorem drop_cons {xs : List V} {i : Nat} {x : V} (hi : xs[i]? = some x) : xs.drop i = x :: xs.drop (i + 1) := by
  obtain ⟨hl, e⟩ := List.getElem?_eq_some_iff.mp hi
  rw [← e, List.drop_eq_getElem_cons hl]
theorem f_enumL (hx : SqL K H a xs) (Pv : Nat → List V → L2.St → Hp → Prop) (h0 : Pv 0 xs σ H) (keep : ∀ i r σ H, Pv i r σ H → SqL K H a xs)
    (step : ∀ (i : Nat) x r T σ H, Pv i (x :: r) σ H → H T = none → g (.ref T) σ (upd H T (.tup [.int (i : Int), x])) fun σ2 H2 => tb { D with nx := Pv (i + 1) r, ct := Pv (i + 1) r, bk := D.nx } σ2 H2)
    (done : ∀ i σ H, Pv i [] σ H → D.nx σ H) :
    ∃ a' xs', [V.ref a] = [.ref a'] ∧ SqL K H a' xs' ∧ ∃ W : Nat → Nat → L2.St → Hp → Prop, (∃ m, W 0 m σ H) ∧ ∀ i m σ H, W i m σ H →
      ((Ite K a').stop i H ∧ D.nx σ H) ∨ ((Ite K a').go i H ∧ ∃ N : L2.St → Hp → Prop, (∀ σ' H', N σ' H' → ∃ m', m' < m ∧ W (i + 1) m' σ' H') ∧ ∀ x H', (Ite K a').yld i H x H' → g x σ H' fun σ2 H2 => tb { D with nx := N, ct := N, bk := D.nx } σ2 H2) := by
  refine ⟨a, xs, rfl, hx, fun i m σ H => m = xs.length - i ∧ i ≤ xs.length ∧ Pv i (xs.drop i) σ H, ⟨xs.length, by simp, Nat.zero_le _, by simpa using h0⟩, ?_⟩
  rintro i m σ H ⟨rfl, hi, p⟩
  have hq := keep _ _ _ _ p
  by_cases hlt : i < xs.length
  · have e : xs[i]? = some xs[i] := List.getElem?_eq_getElem hlt
    refine .inr ⟨⟨xs, xs[i], hq, e⟩, Pv (i + 1) (xs.drop (i + 1)), fun σ' H' p' => ⟨xs.length - (i + 1), by omega, rfl, hlt, p'⟩, ?_⟩
    rintro x H' ⟨T, y, rfl, hT, rfl, hy⟩
    have ey := hy xs hq
    rw [drop_cons ey] at p
    exact step i y _ T σ H p hT
  · have e : i = xs.length := by omega
    subst e
    rw [List.drop_length] at p
    exact .inl ⟨⟨xs, hq, Nat.le_refl _⟩, done _ σ H p⟩
end
theorem f_mul2 {K : PySem.W.Frag} {H : Hp} {Q : VK} {l : Addr} {xs : List V} {k : Nat} (hl : H l = some (.lst xs)) (hk : k ≤ 1000) (hz : xs.length ≤ 1000) (h : ∀ p, H p = none → Q (.ref p) (upd H p (.lst (List.replicate k xs).flatten))) :
    uMul K (.ref l) (.int (k : Int)) H Q := by
  refine .inr ⟨l, k, xs, rfl, rfl, hl, by omega, by omega, ?_, ?_⟩
  · have : xs.length * k ≤ 1000 * 1000 := Nat.mul_le_mul hz hk
    rw [Int.toNat_natCast]
    exact Nat.le_trans this (by decide)
  · rw [Int.toNat_natCast]
    exact h
/-- comprehensions over range(n) -/
theorem lc_rng {g : TG} {tt : TT} {te : TE} {vs : List Nat} {σ : L2.St} {H1 : Hp} {D : Addr} {Qd : Hp → Prop} {n : Nat} (σ0 : L2.St) (hw : wipe σ vs = σ0) (Pv : Nat → Hp → Prop) (h0 : Pv 0 (upd H1 D (.lst [])))
    (hs : ∀ i H, i < n → Pv i H → g (.int (i : Int)) σ0 H fun σ2 H2 => wipe σ2 vs = σ0 ∧ tt σ2 H2 fun b H3 =>
      if b = true then te σ2 H3 fun y H4 => ∃ acc, H4 D = some (.lst acc) ∧ acc.length < sizeLine ∧ Pv (i + 1) (upd H4 D (.lst (acc ++ [y]))) else Pv (i + 1) H3) (hd : ∀ H, Pv n H → Qd H) :
    ∃ W : Nat → Nat → Hp → Prop, (∃ m, W 0 m (upd H1 D (.lst []))) ∧ ∀ i m H, W i m H →
      ((Itr 0 n).stop i H ∧ Qd H) ∨ ((Itr 0 n).go i H ∧ ∃ Nx : Hp → Prop, (∀ H', Nx H' → ∃ m', m' < m ∧ W (i + 1) m' H') ∧ ∀ x H', (Itr 0 n).yld i H x H' → g x (wipe σ vs) H' fun σ2 H2 => wipe σ2 vs = wipe σ vs ∧ tt σ2 H2 fun b H3 =>
        if b = true then te σ2 H3 fun y H4 => ∃ acc, H4 D = some (.lst acc) ∧ acc.length < sizeLine ∧ Nx (upd H4 D (.lst (acc ++ [y]))) else Nx H3) := by
  subst hw
  refine lc_range (lo := 0) (n := n) (σ := σ) (vs := vs) Pv h0 (fun i H hi p => ?_) hd
  rw [Int.zero_add]
  exact hs i H hi p
end Fk
/-! ## more rules: a tuple turned about; slices; in -/
namespace Fk
open PySem PySem.Spec PyProof.Rows L2
theorem rev_pick (xs : Array Value) : ((List.range xs.size).filterMap fun (m : Nat) => xs[(((xs.size : Int) - 1) + (m : Int) * (-1)).toNat]?).toArray = xs.toList.reverse.toArray := by
  have e : (List.range xs.size).filterMap (fun (m : Nat) => xs[(((xs.size : Int) - 1) + (m : Int) * (-1)).toNat]?) = ((List.range xs.size).map fun k => xs.size - 1 - k).filterMap (xs[·]?) := by
    rw [List.filterMap_map]
    have e1 : (fun (m : Nat) => xs[(((xs.size : Int) - 1) + (m : Int) * (-1)).toNat]?) = ((fun x => xs[x]?) ∘ fun k => xs.size - 1 - k) := by
      funext m
      have e2 : (((xs.size : Int) - 1) + (m : Int) * (-1)).toNat = xs.size - 1 - m := by omega
      show xs[_]? = xs[xs.size - 1 - m]?
      rw [e2]
    rw [e1]
  rw [e, PySem.W.krv_range, List.filterMap_reverse, PySem.W.krv_all]
section
variable {prog : Program} {w : World} {A : Around} {E : Value → Shared → Prop} {s : Shared}
theorem sliceApplied_rev {sl : Addr} {t : Tok} {n : Nat} {Q : Int × Int × Nat → Shared → Prop} (hs : s.heap.IsSliceOf sl .none .none (.int (-1) t))
    (h : Q ((n : Int) - 1, -1, n) s) : wpAny (model prog w) A (Builtin.Slice.sliceApplied (.ref sl) (pure (n : Int))) Q E s := by
  obtain ⟨os, hos, hcs, hds⟩ := id hs
  unfold Builtin.Slice.sliceApplied Builtin.Slice.sliceFields
  refine wpAny_bind (wpAny_bind (wpAny_field hos hds (x := .none) rfl (wpAny_bind (wpAny_field hos hds (x := .none) rfl (wpAny_bind (wpAny_field hos hds (x := .int (-1) t) rfl (wpAny_pure ?_)))))))
  refine wpAny_bind (HT.slicePart_ (IsPart.int _ _) ?_)
  show wpAny _ _ (if ((-1 : Int) == 0) = true then _ else _) _ _ s
  rw [if_neg (by decide)]
  refine wpAny_bind (HT.slicePart_ .none (wpAny_bind (HT.slicePart_ .none (wpAny_bind (wpAny_pure ?_)))))
  have e1 : Builtin.Slice.sliceAdjust none none (-1) (n : Int) = ((n : Int) - 1, -1) := rfl
  show wpAny _ _ (match Builtin.Slice.sliceAdjust none none (-1) (n : Int) with | (lo, hi) => pure (lo, (-1 : Int), Builtin.Slice.slicePlaces lo hi (-1))) _ _ s
  rw [e1]
  have e2 : Builtin.Slice.slicePlaces ((n : Int) - 1) (-1) (-1) = n := by
    unfold Builtin.Slice.slicePlaces
    rw [if_neg (by decide)]
    by_cases c : (n : Int) - 1 > -1
    · rw [if_pos c, show (- -1 : Int) = 1 by decide, Int.ediv_one]
      omega
    · rw [if_neg c]
      omega
  show wpAny _ _ (pure ((n : Int) - 1, (-1 : Int), Builtin.Slice.slicePlaces ((n : Int) - 1) (-1) (-1))) _ _ s
  rw [e2]
  exact wpAny_pure h
theorem getItem_tuple_rev {t sl : Addr} {tk : Tok} {items : Array Value} {Q : Value → Shared → Prop} (ht : IsTup s.heap t items) (hs : s.heap.IsSliceOf sl .none .none (.int (-1) tk))
    (h : Q (.ref s.heap.objs.size) { s with heap := s.heap.push { cls := .type "tuple", data := .seq items.toList.reverse.toArray } })
    (hsz : items.size ≤ sizeLine) : wpAny (model prog w) A (getItem (.ref t) (.ref sl)) Q E s := by
  have htake : sizeOk (.seq items.toList.reverse.toArray) := by
    show items.toList.reverse.toArray.size ≤ sizeLine
    rw [List.size_toArray, List.length_reverse, Array.length_toList]
    exact hsz
  obtain ⟨os, hos, hcs, hds⟩ := id hs
  have hTs : s.TypeIs (.ref sl) "slice" := ⟨os, hos, hcs⟩
  unfold getItem
  try with_reducible refine wpAny_holding ?_
  first | refine wpAny_bind (wpAny_pure ?_) | skip
  refine wpAny_bind (wpAny_sequenceKey ht.typeIs (by decide) ?_)
  refine wpAny_bind (wpAny_callSpecial?_slot (name := Str.ofString "__getitem__") ht.typeIs PyProof.Rows.slot_tuple_getitem
    (wpAny_call_entry PyProof.Rows.slot_tuple_getitem ht.typeIs entry_tuple_getitem ?_ (args_tuple_getitem _ _)))
  show wpAny _ _ (Builtin.Tuple.tupleItemsOf (.ref t) >>= _) _ _ s
  refine wpAny_bind (tupleItemsOf_ ht ?_)
  refine wpAny_bind (wpAny_typeOf hTs ?_)
  rw [if_pos (by decide)]
  refine wpAny_bind (sliceApplied_rev hs ?_)
  show wpAny _ _ (if ((((items.size : Int) - 1) == 0) && (-1 : Int) == 1 && items.size == items.size) = true then _ else _) _ _ s
  rw [if_neg (by rw [show ((-1 : Int) == 1) = false from rfl, Bool.and_false, Bool.false_and]; exact Bool.false_ne_true), rev_pick]
  first
    | exact wpAny_bind (m := Builtin.Tuple.tupleExact _) (wpAny_newObj_type (wpAny_pure ⟨_, rfl, wpAny_pure h⟩) htake)
    | exact wpAny_bind (m := Builtin.Tuple.tupleExact _) (wpAny_newObj_type (wpAny_bind (wpAny_pure (wpAny_pure ⟨_, rfl, wpAny_pure h⟩))) htake)
    | exact wpAny_bind (wpAny_bind (m := Builtin.Tuple.tupleExact _) (wpAny_newObj_type (wpAny_pure (wpAny_pure ⟨_, rfl, wpAny_pure h⟩)) htake))
    | exact wpAny_bind (wpAny_bind (m := Builtin.Tuple.tupleExact _) (wpAny_newObj_type (wpAny_pure ⟨_, rfl, wpAny_pure h⟩) htake))
end
section
variable {X : Cx}
def tRevT (K : PySem.W.Frag) (te : TE) : TE := fun σ H Q => te σ H fun x H1 => ∃ a xs, x = .ref a ∧ SqT K H1 a xs ∧ ∀ p, H1 p = none → Q (.ref p) (upd H1 p (.tup xs.reverse))
theorem pe_revT {e : Expr} {te : TE} {k : Nat} {p1 p2 p3 pos : Pos} (he : PE X e te) : PE X (.Subscript e (.Slice none none (some (.UnaryOp .USub (.Constant (.int 1) k p1) p2)) p3) pos) (tRevT X.K te) := by
  refine ⟨fun pins s σ H Q I h => ?_⟩
  refine Subscript_ (thn (he.run pins s σ H _ I h) fun v s1 ⟨x, H1, I1, r1, q1⟩ => ?_)
  obtain ⟨a, xs, ex, hx, q⟩ := q1
  subst ex
  cases r1
  have hst : PO X (some (.UnaryOp .USub (.Constant (.int 1) k p1) p2)) (tPart (tUn (rU fun i => .int (-i)) (tC (.int 1)))) := po_some (pe_un un_neg pe_int)
  refine wpAny_Slice (thn (po_none.run pins s1 σ H1 (fun o H2 => o = none ∧ H2 = H1) I1 ⟨rfl, rfl⟩) fun vl s2 ⟨l, H2, I2, pl, el, e2⟩ => ?_)
  subst el e2
  refine thn (po_none.run pins s2 σ H2 (fun o H3 => o = none ∧ H3 = H2) I2 ⟨rfl, rfl⟩) fun vu s3 ⟨u, H3, I3, pu, eu, e3⟩ => ?_
  subst eu e3
  refine thn (hst.run pins s3 σ H3 (fun o H4 => o = some (-1) ∧ H4 = H3) I3 ⟨1, rfl, -1, rfl, rfl, rfl⟩) fun vs s4 ⟨o, H4, I4, ps, eo, e4⟩ => ?_
  subst eo e4
  cases pl
  cases pu
  cases ps with
  | int _ tk =>
  have I5 : Inv X pins σ H4 { s4 with heap := s4.heap.push { cls := .type "slice", data := .fields #[.none, .none, .int (-1) tk] } } := I4.kept (t' := s4.toks) fun b ob q => Heap.get?_push_of_some _ q
  obtain ⟨its, r, ht, hz⟩ := I5.tuple hx
  have hlen := r.length
  show wpAny (model X.prog X.w) X.A (subscriptTail e (.Slice none none (some (.UnaryOp .USub (.Constant (.int 1) k p1) p2)) p3) (.ref a) (.ref s4.heap.objs.size)) (EP X pins σ Q) X.xe { s4 with heap := s4.heap.push { cls := .type "slice", data := .fields #[.none, .none, .int (-1) tk] } }
  refine tail_any (ops := [.ref a, .ref s4.heap.objs.size]) ht.typeIs PyProof.Rows.slot_tuple_getitem.lookup ?_ (by with_unfolding_all rfl)
  refine getItem_tuple_rev ht (Heap.IsSliceOf.new ..) ?_ (by rw [List.size_toArray]; omega)
  refine ⟨.ref _, _, I5.laid (t' := s4.toks) (o := .tup xs.reverse) (fun b ob q => Heap.get?_push_of_some _ q) (Nat.le_refl _) ?_, rfl, q _ (I5.hok.fresh (Nat.le_refl _))⟩
  exact ⟨by rw [List.length_reverse]; exact hz, its.reverse, r.reverse, ⟨_, Heap.get?_push_size _ rfl, rfl, _, rfl⟩⟩
def uRev (K : PySem.W.Frag) (te : TE) : TE := fun σ H Q => tRevL K te σ H Q ∨ tRevT K te σ H Q
theorem pe_rev {e : Expr} {te : TE} {k : Nat} {p1 p2 p3 pos : Pos} (he : PE X e te) : PE X (.Subscript e (.Slice none none (some (.UnaryOp .USub (.Constant (.int 1) k p1) p2)) p3) pos) (uRev X.K te) := pe_or (pe_revL he) (pe_revT he)
def uSl (K : PySem.W.Frag) : V → Option Int → Option Int → Hp → VK → Prop := fun x lo hi H Q => rSlL K x lo hi H Q ∨ (rSlA K x lo hi H Q ∨ rSlS x lo hi H Q)
theorem sl_any : SlR X (uSl X.K) := sl_list.or (sl_tupA.or sl_str)
def uList (K : PySem.W.Frag) : List V → Hp → VK → Prop := fun xs H Q => ∃ p ys, xs = [.ref p] ∧ (SqL K H p ys ∨ SqT K H p ys) ∧ ∀ l, H l = none → Q (.ref l) (upd H l (.lst ys))
def uTuple (K : PySem.W.Frag) : List V → Hp → VK → Prop := fun xs H Q => ∃ p ys, xs = [.ref p] ∧ ((SqL K H p ys ∧ ∀ l, H l = none → Q (.ref l) (upd H l (.tup ys))) ∨ (SqT K H p ys ∧ Q (.ref p) H))
def uTIndex (K : PySem.W.Frag) : V → List V → Hp → VK → Prop := fun x xs H Q => ∃ p, ∃ ys : List Str, ∃ z j, x = .ref p ∧ xs = [.str z] ∧ SqT K H p (ys.map V.str) ∧ ys[j]? = some z ∧ (∀ m, m < j → ys[m]? ≠ some z) ∧ Q (.int (j : Nat)) H
theorem o_in (hu : X.A.units + 64 < cLine) : OpR X (compareOp .In) (rIn X.K false) := op_in_seq
theorem o_nin (hu : X.A.units + 64 < cLine) : OpR X (compareOp .NotIn) (rIn X.K true) := op_notIn_seq
end
section
variable {X : Cx}
def uAddB (K : PySem.W.Frag) : R2 := fun x y H Q => uAdd K x y H Q ∨ ∃ a i, x = .bl a ∧ y = .int i ∧ Q (.int ((if a = true then (1 : Int) else 0) + i)) H
def uSubB : R2 := fun x y H Q => uSub x y H Q ∨ ∃ a i, x = .bl a ∧ y = .int i ∧ Q (.int ((if a = true then (1 : Int) else 0) - i)) H
theorem op_addBI : OpR X (binaryOp .Add) (fun x y H Q => ∃ a i, x = .bl a ∧ y = .int i ∧ Q (.int ((if a = true then (1 : Int) else 0) + i)) H) := by
  intro pins s σ H x y v u Q I rx ry h
  obtain ⟨a, i, rfl, rfl, q⟩ := h
  cases rx
  obtain ⟨t, rfl⟩ := ry
  exact PySem.IntBool.add_bool_int ⟨.int _, H, I.tok _, ⟨_, rfl⟩, q⟩
theorem op_subBI : OpR X (binaryOp .Sub) (fun x y H Q => ∃ a i, x = .bl a ∧ y = .int i ∧ Q (.int ((if a = true then (1 : Int) else 0) - i)) H) := by
  intro pins s σ H x y v u Q I rx ry h
  obtain ⟨a, i, rfl, rfl, q⟩ := h
  cases rx
  obtain ⟨t, rfl⟩ := ry
  exact PySem.IntBool.sub_bool_int ⟨.int _, H, I.tok _, ⟨_, rfl⟩, q⟩
theorem o_addB : OpR X (binaryOp .Add) (uAddB X.K) := o_add.or op_addBI
theorem o_subB : OpR X (binaryOp .Sub) uSubB := o_sub.or op_subBI
end
theorem units65 {k : Nat} {A : Around} (r : Room k A) : A.units + 65 < cLine := by
  have := r.un
  omega
/-! ### tuples of the top: plain objects -/
def plainT (K : PySem.W.Frag) (x : Str) : Bool := match K.lookup (He.ga K x) with
  | some ⟨.type c, none, _, _⟩ => decide (c = "tuple")
  | _ => false
theorem plainT_ok {K : PySem.W.Frag} {x : Str} (h : plainT K x = true) (H : Hp) : tyV K "tuple" (.ref (He.ga K x)) H := by
  unfold plainT at h
  cases q : K.lookup (He.ga K x) with
  | none =>
    rw [q] at h
    cases h
  | some o =>
    obtain ⟨oc, od, dt, osl⟩ := o
    rw [q] at h
    cases oc with
    | type c =>
      cases od with
      | none =>
        have e : c = "tuple" := of_decide_eq_true h
        subst e
        exact .inr (.inl ⟨rfl, _, q, rfl, rfl⟩)
      | some _ => cases h
    | _ => cases h
end Fk
namespace Fk
open PySem PySem.Spec PyProof.Rows L2
/-! ## the head: all objects behind the top, facts of them -/
def kAll (g : Addr → Option Obj) (n : Nat) : PySem.W.Frag := He.frG g (List.range n)
def obsK (fa : List He.Fa) (fn : List He.DefD) (ex : PySem.W.Frag → Bool) (K : PySem.W.Frag) : He.AlD × Bool := (He.obsD fa fn K, ex K)
def hookA (fa : List He.Fa) (fn : List He.DefD) (ex : PySem.W.Frag → Bool) : PySem.W.Hook where
  α := He.AlD × Bool
  obs := fun s => obsK fa fn ex (kAll s.heap.get? s.heap.objs.size)
  val := fun _ => (He.valD fn, true)
  says := fun _ h => ∃ K : PySem.W.Frag, K.In h ∧ obsK fa fn ex K = (He.valD fn, true)
  of := fun _ _ e => ⟨_, He.frG_in, e⟩
  keeps := fun _ _ _ ⟨K, hK, c⟩ k => ⟨K, PySem.W.Frag.In.keeps hK k, c⟩
noncomputable def obA (fa : List He.Fa) (fn : List He.DefD) (ex : PySem.W.Frag → Bool) (s : PySem.W.SharedT) : He.AlD × Bool := obsK fa fn ex (kAll (HandSHeadRun.getT s) s.n)
theorem obA_eq (fa : List He.Fa) (fn : List He.DefD) (ex : PySem.W.Frag → Bool) (s : PySem.W.SharedT) : obA fa fn ex s = (hookA fa fn ex).obs s.abs := by
  have e : HandSHeadRun.getT s = s.abs.heap.get? := funext (HandSHeadRun.getT_eq s)
  have e2 : s.abs.heap.objs.size = s.n := PySem.W.absHeap_size _ _ _
  show obsK fa fn ex (kAll (HandSHeadRun.getT s) s.n) = obsK fa fn ex (kAll s.abs.heap.get? s.abs.heap.objs.size)
  rw [e, e2]
end Fk
/-! ## plain values: what a run of the text is worth -/
namespace Fk
open PySem PySem.Spec PyProof.Rows L2
/-- a value as a tree; lst, dct: of shared things, the first letter tells whether it is owned (may be changed); nst, ndc, ins: owned ones of owned things; loc: an object by its number -/
inductive AV where
  | non | bl (b : Bool) | int (i : Int) | str (x : Str)
  | tup (xs : List AV)
  | lst (o : Bool) (xs : List AV)
  | dct (o : Bool) (ks : List Key) (xs : List AV)
  | scr (xs : List AV)
  | nst (xs : List AV)
  | ndc (ks : List Key) (xs : List AV)
  | ins (C : Str) (ks : List Str) (xs : List AV)
  | loc (l : Nat)
/-- a slot: nothing, a value, an owned tree -/
inductive Sl where
  | no | im (d : AV) | ow (d : AV)
structure Ss where
  r : List Sl
  s : List AV
inductive Res (α β : Type) where
  | ok (a : α) (s : β)
  | err (c : Str) (s : β)
  | bad
abbrev M (α : Type) := Ss → Res α Ss
inductive Fl where
  | nx | rt (d : AV) | bk | ct

/-- a list that is locked (the script) -/
def Scr (K : PySem.W.Frag) (H : Hp) (a : Addr) (us : List V) : Prop := (∃ ob, H a = some (.frz ob (.lst us))) ∨
  ∃ (o : Obj) (its : Array Value) (n : Nat), K.lookup a = some o ∧ o.cls = .type "list" ∧ o.dict = none ∧ o.data = .seq its n ∧ its.size ≤ sizeLine ∧ Vals us its.toList
theorem Scr.sq {K : PySem.W.Frag} {H : Hp} {a : Addr} {us : List V} (h : Scr K H a us) : SqL K H a us := h.elim (fun z => .inl (.inr z)) .inr
/-- what values, objects stand for: as are the owned addresses, W those that bear no shared thing, m where the shared objects stand -/
inductive Rp (K : PySem.W.Frag) (H : Hp) (W m : List Addr) : List V → List AV → List Addr → Prop
  | nil : Rp K H W m [] [] []
  | non {vs xs as} (r : Rp K H W m vs xs as) : Rp K H W m (.non :: vs) (.non :: xs) as
  | bl {b vs xs as} (r : Rp K H W m vs xs as) : Rp K H W m (.bl b :: vs) (.bl b :: xs) as
  | int {i vs xs as} (r : Rp K H W m vs xs as) : Rp K H W m (.int i :: vs) (.int i :: xs) as
  | str {z vs xs as} (r : Rp K H W m vs xs as) : Rp K H W m (.str z :: vs) (.str z :: xs) as
  | tup {a us ys vs xs as} (h : SqT K H a us) (q : Rp K H W m us ys []) (r : Rp K H W m vs xs as) : Rp K H W m (.ref a :: vs) (.tup ys :: xs) as
  | lsI {a us ys vs xs as} (h : H a = some (.lst us)) (n : a ∉ W) (q : Rp K H W m us ys []) (r : Rp K H W m vs xs as) : Rp K H W m (.ref a :: vs) (.lst false ys :: xs) as
  | lsO {a us ys vs xs as} (h : H a = some (.lst us)) (q : Rp K H W m us ys []) (r : Rp K H W m vs xs as) : Rp K H W m (.ref a :: vs) (.lst true ys :: xs) (a :: as)
  | dcI {a kvs ks ys vs xs as} (h : H a = some (.dK kvs)) (n : a ∉ W) (e : kvs.map (·.1) = ks) (q : Rp K H W m (kvs.map (·.2)) ys []) (r : Rp K H W m vs xs as) : Rp K H W m (.ref a :: vs) (.dct false ks ys :: xs) as
  | dcO {a kvs ks ys vs xs as} (h : H a = some (.dK kvs)) (e : kvs.map (·.1) = ks) (q : Rp K H W m (kvs.map (·.2)) ys []) (r : Rp K H W m vs xs as) : Rp K H W m (.ref a :: vs) (.dct true ks ys :: xs) (a :: as)
  | scr {a us ys vs xs as} (h : Scr K H a us) (q : Rp K H W m us ys []) (r : Rp K H W m vs xs as) : Rp K H W m (.ref a :: vs) (.scr ys :: xs) as
  | nst {a us ys bs vs xs as} (h : H a = some (.lst us)) (q : Rp K H W m us ys bs) (r : Rp K H W m vs xs as) : Rp K H W m (.ref a :: vs) (.nst ys :: xs) (a :: (bs ++ as))
  | ndc {a kvs ks ys bs vs xs as} (h : H a = some (.dK kvs)) (e : kvs.map (·.1) = ks) (q : Rp K H W m (kvs.map (·.2)) ys bs) (r : Rp K H W m vs xs as) : Rp K H W m (.ref a :: vs) (.ndc ks ys :: xs) (a :: (bs ++ as))
  | ins {a C dx fs ks ys bs vs xs as} (h : H a = some (.ins (He.ga K C) dx fs)) (e : fs.map (·.1) = ks) (q : Rp K H W m (fs.map (·.2)) ys bs) (r : Rp K H W m vs xs as) : Rp K H W m (.ref a :: vs) (.ins C ks ys :: xs) (a :: (bs ++ as))
  | loc {a l vs xs as} (h : m[l]? = some a) (r : Rp K H W m vs xs as) : Rp K H W m (.ref a :: vs) (.loc l :: xs) as

def mutO : HO → Bool
  | .lst _ => true
  | .dK _ => true
  | .ins _ _ _ => true
  | _ => false
def NoTbl (o : HO) : Prop := ∀ ps, o ≠ .tbl ps
/-- the heap behind: all but what stands at L is kept -/
structure Kp (H H' : Hp) (L : List Addr) : Prop where
  keep : ∀ b o, H b = some o → b ∉ L → NoTbl o → H' b = some o
  kind : ∀ b ∈ L, ∃ o, H b = some o ∧ mutO o = true
theorem Kp.new {H : Hp} {p : Addr} {o : HO} (h : H p = none) : Kp H (upd H p o) [] := ⟨fun b u e _ _ => by rw [upd_ne (ne_of_none e h)]; exact e, fun _ z => nomatch z⟩
theorem Kp.put {H : Hp} {p : Addr} {o u : HO} (h : H p = some u) (hm : mutO u = true) : Kp H (upd H p o) [p] :=
  ⟨fun b v e n _ => by rw [upd_ne (fun z => n (by simp [z]))]; exact e, fun b z => by
    have e : b = p := by simpa using z
    subst e
    exact ⟨u, h, hm⟩⟩
theorem Kp.refl {H : Hp} : Kp H H [] := ⟨fun _ _ e _ _ => e, fun _ z => nomatch z⟩
section
variable {K : PySem.W.Frag} {H H' : Hp} {W W' m m' L : List Addr} {vs vs' : List V} {xs xs' : List AV} {as as' bs : List Addr} {v : V} {x : AV}
theorem Rp.len (r : Rp K H W m vs xs as) : vs.length = xs.length := by
  induction r with
  | nil => rfl
  | _ => simp_all
theorem rd_keep {u : HO} {a : Addr} (k : Kp H H' L) (h : Rd H a u) (n : a ∉ L) (t : NoTbl u) : Rd H' a u := by
  rcases h with h | ⟨o, h⟩
  · exact .inl (k.keep a _ h n t)
  · exact .inr ⟨o, k.keep a _ h n (fun ps z => by cases z)⟩
theorem scr_keep {us : List V} {a : Addr} (k : Kp H H' L) (h : Scr K H a us) : Scr K H' a us := by
  rcases h with ⟨ob, h⟩ | h
  · refine .inl ⟨ob, k.keep a _ h (fun z => ?_) (fun ps z => by cases z)⟩
    obtain ⟨o, e, q⟩ := k.kind a z
    rw [h] at e
    cases e
    cases q
  · exact .inr h
theorem sqT_keep {us : List V} {a : Addr} (k : Kp H H' L) (h : SqT K H a us) : SqT K H' a us := by
  rcases h with h | h
  · refine .inl (rd_keep k h (fun z => ?_) (fun ps z => by cases z))
    obtain ⟨o, e, q⟩ := k.kind a z
    rcases h with h | ⟨ob, h⟩
    · rw [h] at e; cases e; cases q
    · rw [h] at e; cases e; cases q
  · exact .inr h
/-- all owned ones stand -/
theorem Rp.there (r : Rp K H W m vs xs as) : ∀ a ∈ as, ∃ o, H a = some o ∧ mutO o = true := by
  have one : ∀ {a : Addr} {o : HO} {as : List Addr}, H a = some o → mutO o = true → (∀ b ∈ as, ∃ o, H b = some o ∧ mutO o = true) → ∀ b ∈ a :: as, ∃ o, H b = some o ∧ mutO o = true := fun h q i b z => by
    rcases List.mem_cons.mp z with rfl | z
    · exact ⟨_, h, q⟩
    · exact i b z
  have two : ∀ {as bs : List Addr}, (∀ b ∈ as, ∃ o, H b = some o ∧ mutO o = true) → (∀ b ∈ bs, ∃ o, H b = some o ∧ mutO o = true) → ∀ b ∈ as ++ bs, ∃ o, H b = some o ∧ mutO o = true := fun i j b z => (List.mem_append.mp z).elim (i b) (j b)
  induction r with
  | nil => intro a z; cases z
  | lsO h _ _ _ i2 => exact one h rfl i2
  | dcO h _ _ _ _ i2 => exact one h rfl i2
  | nst h _ _ i1 i2 => exact one h rfl (two i1 i2)
  | ndc h _ _ _ i1 i2 => exact one h rfl (two i1 i2)
  | ins h _ _ _ i1 i2 => exact one h rfl (two i1 i2)
  | _ => assumption
theorem Rp.keep (k : Kp H H' L) (hL : ∀ b ∈ L, b ∈ W) (hW : ∀ b, (∃ o, H b = some o) → b ∉ W → b ∉ W') (hm : ∀ (l : Nat) a, m[l]? = some a → m'[l]? = some a)
    (r : Rp K H W m vs xs as) : (∀ b ∈ as, b ∉ L) → Rp K H' W' m' vs xs as := by
  induction r with
  | nil => intro _; exact .nil
  | non _ i => intro n; exact .non (i n)
  | bl _ i => intro n; exact .bl (i n)
  | int _ i => intro n; exact .int (i n)
  | str _ i => intro n; exact .str (i n)
  | tup h _ _ i1 i2 => intro n; exact .tup (sqT_keep k h) (i1 (fun _ z => nomatch z)) (i2 n)
  | lsI h nw _ _ i1 i2 => intro n; exact .lsI (k.keep _ _ h (fun z => nw (hL _ z)) (fun ps z => by cases z)) (hW _ ⟨_, h⟩ nw) (i1 (fun _ z => nomatch z)) (i2 n)
  | lsO h _ _ i1 i2 => intro n; exact .lsO (k.keep _ _ h (n _ (by simp)) (fun ps z => by cases z)) (i1 (fun _ z => nomatch z)) (i2 (fun b z => n b (by simp [z])))
  | dcI h nw e _ _ i1 i2 => intro n; exact .dcI (k.keep _ _ h (fun z => nw (hL _ z)) (fun ps z => by cases z)) (hW _ ⟨_, h⟩ nw) e (i1 (fun _ z => nomatch z)) (i2 n)
  | dcO h e _ _ i1 i2 => intro n; exact .dcO (k.keep _ _ h (n _ (by simp)) (fun ps z => by cases z)) e (i1 (fun _ z => nomatch z)) (i2 (fun b z => n b (by simp [z])))
  | nst h _ _ i1 i2 =>
    intro n
    exact .nst (k.keep _ _ h (n _ (by simp)) (fun ps z => by cases z)) (i1 (fun b z => n b (by simp [z]))) (i2 (fun b z => n b (by simp [z])))
  | ndc h e _ _ i1 i2 =>
    intro n
    exact .ndc (k.keep _ _ h (n _ (by simp)) (fun ps z => by cases z)) e (i1 (fun b z => n b (by simp [z]))) (i2 (fun b z => n b (by simp [z])))
  | ins h e _ _ i1 i2 =>
    intro n
    exact .ins (k.keep _ _ h (n _ (by simp)) (fun ps z => by cases z)) e (i1 (fun b z => n b (by simp [z]))) (i2 (fun b z => n b (by simp [z])))
  | scr h _ _ i1 i2 => intro n; exact .scr (scr_keep k h) (i1 (fun _ z => nomatch z)) (i2 n)
  | loc h _ i => intro n; exact .loc (hm _ _ h) (i n)
/-- one behind the other -/
theorem Rp.app (r : Rp K H W m vs xs as) (q : Rp K H W m vs' xs' as') : Rp K H W m (vs ++ vs') (xs ++ xs') (as ++ as') := by
  induction r with
  | nil => exact q
  | non _ i => exact .non i
  | bl _ i => exact .bl i
  | int _ i => exact .int i
  | str _ i => exact .str i
  | tup h q1 _ _ i2 => exact .tup h q1 i2
  | lsI h n q1 _ _ i2 => exact .lsI h n q1 i2
  | lsO h q1 _ _ i2 => exact .lsO h q1 i2
  | nst h q1 _ _ i2 => exact (by simpa [List.append_assoc] using Rp.nst h q1 i2)
  | ndc h e q1 _ _ i2 => exact (by simpa [List.append_assoc] using Rp.ndc h e q1 i2)
  | dcI h n e q1 _ _ i2 => exact .dcI h n e q1 i2
  | dcO h e q1 _ _ i2 => exact .dcO h e q1 i2
  | ins h e q1 _ _ i2 => exact (by simpa [List.append_assoc] using Rp.ins h e q1 i2)
  | scr h q1 _ _ i2 => exact .scr h q1 i2
  | loc h _ i => exact .loc h i
theorem Rp.cons (r : Rp K H W m [v] [x] as) (q : Rp K H W m vs xs as') : Rp K H W m (v :: vs) (x :: xs) (as ++ as') := r.app q
/-- the first and the rest -/
theorem Rp.head (r : Rp K H W m (v :: vs) (x :: xs) as) : ∃ a1 a2, as = a1 ++ a2 ∧ Rp K H W m [v] [x] a1 ∧ Rp K H W m vs xs a2 := by
  cases r with
  | non r => exact ⟨[], as, rfl, .non .nil, r⟩
  | bl r => exact ⟨[], as, rfl, .bl .nil, r⟩
  | int r => exact ⟨[], as, rfl, .int .nil, r⟩
  | str r => exact ⟨[], as, rfl, .str .nil, r⟩
  | tup h q r => exact ⟨[], as, rfl, .tup h q .nil, r⟩
  | lsI h n q r => exact ⟨[], as, rfl, .lsI h n q .nil, r⟩
  | @lsO a us ys _ _ as' h q r => exact ⟨[a], as', rfl, .lsO h q .nil, r⟩
  | @nst a us ys bs _ _ as' h q r => exact ⟨a :: (bs ++ []), as', by simp, .nst h q .nil, r⟩
  | @ndc a kvs ks ys bs _ _ as' h e q r => exact ⟨a :: (bs ++ []), as', by simp, .ndc h e q .nil, r⟩
  | dcI h n e q r => exact ⟨[], as, rfl, .dcI h n e q .nil, r⟩
  | @dcO a kvs ks ys _ _ as' h e q r => exact ⟨[a], as', rfl, .dcO h e q .nil, r⟩
  | @ins a C dx fs ks ys bs _ _ as' h e q r => exact ⟨a :: (bs ++ []), as', by simp, .ins h e q .nil, r⟩
  | scr h q r => exact ⟨[], as, rfl, .scr h q .nil, r⟩
  | loc h r => exact ⟨[], as, rfl, .loc h .nil, r⟩
theorem Rp.nil_inv (r : Rp K H W m vs [] as) : vs = [] ∧ as = [] := by
  cases r
  exact ⟨rfl, rfl⟩
theorem Rp.nil_inv' (r : Rp K H W m [] xs as) : xs = [] ∧ as = [] := by
  cases r
  exact ⟨rfl, rfl⟩
/-- shared things alone -/
theorem Rp.head0 (r : Rp K H W m (v :: vs) (x :: xs) []) : Rp K H W m [v] [x] [] ∧ Rp K H W m vs xs [] := by
  obtain ⟨a1, a2, e, r1, r2⟩ := r.head
  have e1 : a1 = [] ∧ a2 = [] := List.append_eq_nil_iff.mp e.symm
  rw [e1.1] at r1
  rw [e1.2] at r2
  exact ⟨r1, r2⟩
theorem Rp.cons0 (r : Rp K H W m [v] [x] []) (q : Rp K H W m vs xs as) : Rp K H W m (v :: vs) (x :: xs) as := r.app q
theorem Rp.app_inv : ∀ {vs vs' : List V} {xs xs' : List AV} {as : List Addr}, vs.length = xs.length → Rp K H W m (vs ++ vs') (xs ++ xs') as → ∃ a1 a2, as = a1 ++ a2 ∧ Rp K H W m vs xs a1 ∧ Rp K H W m vs' xs' a2
  | [], _, [], _, as, _, r => ⟨[], as, rfl, .nil, r⟩
  | [], _, _ :: _, _, _, h, _ => by cases h
  | _ :: _, _, [], _, _, h, _ => by cases h
  | v :: vs, vs', x :: xs, xs', as, h, r => by
    obtain ⟨a1, a2, e, r1, r2⟩ := Rp.head (show Rp K H W m (v :: (vs ++ vs')) (x :: (xs ++ xs')) as from r)
    obtain ⟨b1, b2, e2, q1, q2⟩ := Rp.app_inv (by simpa using h) r2
    exact ⟨a1 ++ b1, b2, by rw [e, e2, List.append_assoc], r1.cons q1, q2⟩
/-- at a place -/
theorem Rp.at_ {j : Nat} (r : Rp K H W m vs xs as) (h : xs[j]? = some x) : ∃ v a1 b a2, vs[j]? = some v ∧ as = a1 ++ (b ++ a2) ∧ Rp K H W m (vs.take j) (xs.take j) a1 ∧ Rp K H W m [v] [x] b ∧ Rp K H W m (vs.drop (j + 1)) (xs.drop (j + 1)) a2 := by
  have hl := r.len
  obtain ⟨hj, ex⟩ := List.getElem?_eq_some_iff.mp h
  have hj2 : j < vs.length := by omega
  have e1 : xs = xs.take j ++ (x :: xs.drop (j + 1)) := by
    conv => lhs; rw [← List.take_append_drop j xs]
    rw [List.drop_eq_getElem_cons hj, ex]
  have e2 : vs = vs.take j ++ (vs[j] :: vs.drop (j + 1)) := by
    conv => lhs; rw [← List.take_append_drop j vs]
    rw [List.drop_eq_getElem_cons hj2]
  have r' := r
  rw [e1, e2] at r'
  obtain ⟨a1, a2, e, r1, r2⟩ := Rp.app_inv (by simp; omega) r'
  obtain ⟨b, c, e3, r3, r4⟩ := r2.head
  exact ⟨vs[j], a1, b, c, by simp [hj2], by rw [e, e3], r1, r3, r4⟩
theorem Rp.put {j : Nat} {a1 b a2 : List Addr} (hj : j < xs.length) (r1 : Rp K H W m (vs.take j) (xs.take j) a1) (r2 : Rp K H W m [v] [x] b) (r3 : Rp K H W m (vs.drop (j + 1)) (xs.drop (j + 1)) a2) (hl : vs.length = xs.length) :
    Rp K H W m (vs.set j v) (xs.set j x) (a1 ++ (b ++ a2)) := by
  rw [List.set_eq_take_append_cons_drop, List.set_eq_take_append_cons_drop, if_pos hj, if_pos (by omega)]
  exact r1.app (r2.cons r3)
theorem Rp.get0 {j : Nat} (r : Rp K H W m vs xs []) (h : xs[j]? = some x) : ∃ v, vs[j]? = some v ∧ Rp K H W m [v] [x] [] := by
  obtain ⟨v, a1, b, a2, e1, e2, _, r2, _⟩ := r.at_ h
  obtain ⟨_, e3⟩ := List.append_eq_nil_iff.mp e2.symm
  obtain ⟨e4, _⟩ := List.append_eq_nil_iff.mp e3
  rw [e4] at r2
  exact ⟨v, e1, r2⟩
/-- whose addresses they are plays no part but by membership -/
theorem Rp.perm (r : Rp K H W m vs xs as) (h : ∀ b, b ∈ W' → b ∈ W) : Rp K H W' m vs xs as :=
  r.keep Kp.refl (fun _ z => nomatch z) (fun b _ n z => n (h b z)) (fun _ _ e => e) (fun _ _ z => nomatch z)
/-- an owned list or dict, given up: it is shared from now on -/
def frz : AV → Option AV
  | .lst _ xs => some (.lst false xs)
  | .dct _ ks xs => some (.dct false ks xs)
  | _ => none
theorem Rp.frz {d : AV} (r : Rp K H W m [v] [x] as) (e : Fk.frz x = some d) (h : ∀ b, b ∈ W' → b ∈ W) (n : ∀ b ∈ as, b ∉ W') : Rp K H W' m [v] [d] [] := by
  cases r with
  | lsI h1 n1 q _ => cases e; exact .lsI h1 (fun z => n1 (h _ z)) (q.perm h) .nil
  | lsO h1 q _ => cases e; exact .lsI h1 (n _ (by simp)) (q.perm h) .nil
  | dcI h1 n1 e1 q _ => cases e; exact .dcI h1 (fun z => n1 (h _ z)) e1 (q.perm h) .nil
  | dcO h1 e1 q _ => cases e; exact .dcI h1 (n _ (by simp)) e1 (q.perm h) .nil
  | _ => cases e
/-- what stands in slots -/
inductive Rs (K : PySem.W.Frag) (H : Hp) (W m : List Addr) : L2.St → List Sl → List Addr → Prop
  | nil : Rs K H W m [] [] []
  | no {o σ r as} (q : Rs K H W m σ r as) : Rs K H W m (o :: σ) (.no :: r) as
  | im {v d σ r as} (h : Rp K H W m [v] [d] []) (q : Rs K H W m σ r as) : Rs K H W m (some v :: σ) (.im d :: r) as
  | ow {v d bs σ r as} (h : Rp K H W m [v] [d] bs) (q : Rs K H W m σ r as) : Rs K H W m (some v :: σ) (.ow d :: r) (bs ++ as)
variable {σ : L2.St} {r : List Sl}
theorem Rs.len (q : Rs K H W m σ r as) : σ.length = r.length := by
  induction q with
  | nil => rfl
  | _ => simp_all
theorem Rs.there (q : Rs K H W m σ r as) : ∀ a ∈ as, ∃ o, H a = some o ∧ mutO o = true := by
  induction q with
  | nil => intro a z; cases z
  | no _ i => exact i
  | im _ _ i => exact i
  | ow h _ i => exact fun b z => (List.mem_append.mp z).elim (h.there b) (i b)
theorem Rs.keep (k : Kp H H' L) (hL : ∀ b ∈ L, b ∈ W) (hW : ∀ b, (∃ o, H b = some o) → b ∉ W → b ∉ W') (hm : ∀ (l : Nat) a, m[l]? = some a → m'[l]? = some a)
    (q : Rs K H W m σ r as) : (∀ b ∈ as, b ∉ L) → Rs K H' W' m' σ r as := by
  induction q with
  | nil => intro _; exact .nil
  | no _ i => intro n; exact .no (i n)
  | im h _ i => intro n; exact .im (h.keep k hL hW hm (fun _ z => nomatch z)) (i n)
  | ow h _ i => intro n; exact .ow (h.keep k hL hW hm (fun b z => n b (by simp [z]))) (i (fun b z => n b (by simp [z])))
theorem Rs.perm (q : Rs K H W m σ r as) (h : ∀ b, b ∈ W' → b ∈ W) : Rs K H W' m σ r as :=
  q.keep Kp.refl (fun _ z => nomatch z) (fun b _ n z => n (h b z)) (fun _ _ e => e) (fun _ _ z => nomatch z)
end
/-! ### slots, by place -/
def getSl : List Sl → Nat → Sl
  | [], _ => .no
  | x :: _, 0 => x
  | _ :: r, n + 1 => getSl r n
def setSl : List Sl → Nat → Sl → List Sl
  | [], _, _ => []
  | _ :: r, 0, y => y :: r
  | x :: r, n + 1, y => x :: setSl r n y
@[simp] theorem getSl_z (x : Sl) (r : List Sl) : getSl (x :: r) 0 = x := rfl
@[simp] theorem getSl_s (x : Sl) (r : List Sl) (n : Nat) : getSl (x :: r) (n + 1) = getSl r n := rfl
@[simp] theorem setSl_z (x : Sl) (r : List Sl) (y : Sl) : setSl (x :: r) 0 y = y :: r := rfl
@[simp] theorem setSl_s (x : Sl) (r : List Sl) (n : Nat) (y : Sl) : setSl (x :: r) (n + 1) y = x :: setSl r n y := rfl
section
variable {K : PySem.W.Frag} {H H' : Hp} {W W' m m' L : List Addr} {as bs : List Addr} {v : V} {d : AV} {σ : L2.St} {r : List Sl} {i : Nat}
theorem Rs.getIm (q : Rs K H W m σ r as) (h : getSl r i = .im d) : ∃ v, σ[i]? = some (some v) ∧ Rp K H W m [v] [d] [] := by
  induction q generalizing i with
  | nil => cases h
  | no _ ih => cases i with
    | zero => cases h
    | succ i => simpa using ih h
  | im h1 _ ih => cases i with
    | zero => cases h; exact ⟨_, rfl, h1⟩
    | succ i => simpa using ih h
  | ow _ _ ih => cases i with
    | zero => cases h
    | succ i => simpa using ih h
/-- an owned thing in a slot, taken out and something put there -/
theorem Rs.getOw (q : Rs K H W m σ r as) (h : getSl r i = .ow d) : ∃ v a1 b a2, σ[i]? = some (some v) ∧ as = a1 ++ (b ++ a2) ∧ Rp K H W m [v] [d] b ∧ Rs K H W m σ (setSl r i .no) (a1 ++ a2) := by
  induction q generalizing i with
  | nil => cases h
  | no _ ih => cases i with
    | zero => cases h
    | succ i =>
      obtain ⟨v, a1, b, a2, e1, e2, h1, h2⟩ := ih h
      exact ⟨v, a1, b, a2, by simpa using e1, e2, h1, .no h2⟩
  | im h0 _ ih => cases i with
    | zero => cases h
    | succ i =>
      obtain ⟨v, a1, b, a2, e1, e2, h1, h2⟩ := ih h
      exact ⟨v, a1, b, a2, by simpa using e1, e2, h1, .im h0 h2⟩
  | @ow v0 d0 bs0 σ r as h0 q0 ih => cases i with
    | zero => cases h; exact ⟨v0, [], bs0, as, rfl, rfl, h0, .no q0⟩
    | succ i =>
      obtain ⟨v, a1, b, a2, e1, e2, h1, h2⟩ := ih h
      refine ⟨v, bs0 ++ a1, b, a2, by simpa using e1, by rw [e2]; simp, h1, ?_⟩
      have h3 := Rs.ow h0 h2
      rw [List.append_assoc]
      exact h3
/-- a slot forgotten: what it owned goes -/
theorem Rs.drop (q : Rs K H W m σ r as) (i : Nat) : ∃ as', (∀ b ∈ as', b ∈ as) ∧ (as.Nodup → as'.Nodup) ∧ Rs K H W m σ (setSl r i .no) as' := by
  induction q generalizing i with
  | nil => exact ⟨[], fun _ z => z, fun z => z, .nil⟩
  | no q0 ih => cases i with
    | zero => exact ⟨_, fun _ z => z, fun z => z, .no q0⟩
    | succ i =>
      obtain ⟨as', h1, h2, h3⟩ := ih i
      exact ⟨as', h1, h2, .no h3⟩
  | im h0 q0 ih => cases i with
    | zero => exact ⟨_, fun _ z => z, fun z => z, .no q0⟩
    | succ i =>
      obtain ⟨as', h1, h2, h3⟩ := ih i
      exact ⟨as', h1, h2, .im h0 h3⟩
  | @ow v0 d0 bs0 σ r as h0 q0 ih => cases i with
    | zero => exact ⟨as, fun _ z => by simp [z], fun z => (List.nodup_append.mp z).2.1, .no q0⟩
    | succ i =>
      obtain ⟨as', h1, h2, h3⟩ := ih i
      refine ⟨bs0 ++ as', fun b z => ?_, fun z => ?_, .ow h0 h3⟩
      · rcases List.mem_append.mp z with z | z
        · simp [z]
        · simp [h1 b z]
      · obtain ⟨n1, n2, n3⟩ := List.nodup_append.mp z
        exact List.nodup_append.mpr ⟨n1, h2 n2, fun a ha b hb => n3 a ha b (h1 b hb)⟩
theorem Rs.setNo (q : Rs K H W m σ (setSl r i .no) as) (hi : i < r.length) (h : Rp K H W m [v] [d] []) : Rs K H W m (σ.set i (some v)) (setSl r i (.im d)) as := by
  induction r generalizing i σ as with
  | nil => simp at hi
  | cons x r ih => cases i with
    | zero =>
      cases q with
      | no q => exact .im h q
    | succ i =>
      have hi' : i < r.length := by simpa using hi
      cases q with
      | no q => exact .no (ih q hi')
      | im h0 q => exact .im h0 (ih q hi')
      | ow h0 q => exact .ow h0 (ih q hi')
theorem Rs.setOw (q : Rs K H W m σ (setSl r i .no) as) (hi : i < r.length) (h : Rp K H W m [v] [d] bs) : ∃ a1 a2, as = a1 ++ a2 ∧ Rs K H W m (σ.set i (some v)) (setSl r i (.ow d)) (a1 ++ (bs ++ a2)) := by
  induction r generalizing i σ as with
  | nil => simp at hi
  | cons x r ih => cases i with
    | zero =>
      cases q with
      | no q => exact ⟨[], as, rfl, by simpa using Rs.ow h q⟩
    | succ i =>
      have hi' : i < r.length := by simpa using hi
      cases q with
      | no q =>
        obtain ⟨a1, a2, e, h1⟩ := ih q hi'
        exact ⟨a1, a2, e, .no h1⟩
      | im h0 q =>
        obtain ⟨a1, a2, e, h1⟩ := ih q hi'
        exact ⟨a1, a2, e, .im h0 h1⟩
      | @ow _ _ b0 _ _ as0 h0 q =>
        obtain ⟨a1, a2, e, h1⟩ := ih q hi'
        refine ⟨b0 ++ a1, a2, by rw [e, List.append_assoc], ?_⟩
        have h3 := Rs.ow h0 h1
        rw [List.append_assoc]
        exact h3
theorem setSl_len : ∀ (r : List Sl) (i : Nat) (y : Sl), (setSl r i y).length = r.length
  | [], _, _ => rfl
  | _ :: _, 0, _ => rfl
  | _ :: r, i + 1, y => by simp [setSl_len r i y]
theorem getSl_lt : ∀ {r : List Sl} {i : Nat}, getSl r i ≠ .no → i < r.length
  | [], _, h => absurd rfl h
  | _ :: _, 0, _ => by simp
  | _ :: r, i + 1, h => by simpa using getSl_lt (r := r) h
end
end Fk
/-! ## states: slots, objects, what is pending -/
namespace Fk
open PySem PySem.Spec PyProof.Rows L2
/-- how a def was entered: U what its callers own, H0 the heap, A0 what the objects own, m0 where they stand; T the tables of code -/
structure Gam where
  U : List Addr
  H0 : Hp
  A0 : List Addr
  m0 : List Addr
  T : List (Addr × Str)
/-- what is pending: shared values, owned ones, ones that are only looked at -/
structure Pd where
  iv : List V := []
  ix : List AV := []
  ov : List V := []
  ox : List AV := []
  bv : List V := []
  bx : List AV := []
abbrev Pd.sh (p : Pd) (v : V) (d : AV) : Pd := { p with iv := v :: p.iv, ix := d :: p.ix }
abbrev Pd.own (p : Pd) (v : V) (d : AV) : Pd := { p with ov := v :: p.ov, ox := d :: p.ox }
abbrev Pd.lk (p : Pd) (v : V) (d : AV) : Pd := { p with bv := v :: p.bv, bx := d :: p.bx }
abbrev Pd.nob (p : Pd) : Pd := { p with bv := [], bx := [] }
abbrev wOf (Γ : Gam) (ar am ao : List Addr) : List Addr := Γ.U ++ (ar ++ (am ++ ao))
structure Rl (K : PySem.W.Frag) (Γ : Gam) (σ : L2.St) (H : Hp) (st : Ss) (p : Pd) (m ar am ao ab : List Addr) : Prop where
  rs : Rs K H (wOf Γ ar am ao) m σ st.r ar
  rm : Rp K H (wOf Γ ar am ao) m (m.map V.ref) st.s am
  ri : Rp K H (wOf Γ ar am ao) m p.iv p.ix []
  ro : Rp K H (wOf Γ ar am ao) m p.ov p.ox ao
  rb : Rp K H (wOf Γ ar am ao) m p.bv p.bx ab
  nd : (wOf Γ ar am ao).Nodup
  fr : ∀ a ∈ ar ++ (am ++ ao), a ∈ Γ.A0 ∨ Γ.H0 a = none
  kp : ∀ a o, Γ.H0 a = some o → a ∉ Γ.A0 → ∃ o', H a = some o' ∧ (NoTbl o → o' = o)
  pm : ∀ (l : Nat) a, Γ.m0[l]? = some a → m[l]? = some a
  gu : ∀ a ∈ Γ.U, (∃ o, Γ.H0 a = some o ∧ mutO o = true) ∧ a ∉ Γ.A0
  tb : LamX.Tabs Γ.T H
def Rel (K : PySem.W.Frag) (Γ : Gam) (σ : L2.St) (H : Hp) (st : Ss) (p : Pd) : Prop := ∃ m ar am ao ab, Rl K Γ σ H st p m ar am ao ab
theorem mut_noTbl {o : HO} (h : mutO o = true) : NoTbl o := fun ps z => by
  subst z
  cases h
section
variable {K : PySem.W.Frag} {Γ : Gam} {σ : L2.St} {H H' : Hp} {st : Ss} {p : Pd} {m ar am ao ab : List Addr}
/-- all owned ones stand -/
theorem Rl.own (R : Rl K Γ σ H st p m ar am ao ab) : ∀ a ∈ wOf Γ ar am ao, ∃ o, H a = some o ∧ mutO o = true := fun a ha => by
  rcases List.mem_append.mp ha with h | h
  · obtain ⟨⟨o, e, q⟩, n⟩ := R.gu a h
    obtain ⟨o', e', f⟩ := R.kp a o e n
    rw [f (mut_noTbl q)] at e'
    exact ⟨o, e', q⟩
  · rcases List.mem_append.mp h with h | h
    · exact R.rs.there a h
    · rcases List.mem_append.mp h with h | h
      · exact R.rm.there a h
      · exact R.ro.there a h
theorem Rl.fresh (R : Rl K Γ σ H st p m ar am ao ab) {q : Addr} (h : H q = none) : q ∉ wOf Γ ar am ao := fun z => by
  obtain ⟨o, e, _⟩ := R.own q z
  rw [h] at e
  cases e
theorem Rl.free0 (R : Rl K Γ σ H st p m ar am ao ab) {q : Addr} (h : H q = none) : q ∈ Γ.A0 ∨ Γ.H0 q = none := by
  by_cases c : q ∈ Γ.A0
  · exact .inl c
  · right
    cases e : Γ.H0 q with
    | none => rfl
    | some o =>
      obtain ⟨o', e', _⟩ := R.kp q o e c
      rw [h] at e'
      cases e'
theorem tabs_put {T : List (Addr × Str)} {a : Addr} {o u : HO} (t : LamX.Tabs T H) (h : H a = some u) (q : mutO u = true) : LamX.Tabs T (upd H a o) := fun p hp => by
  obtain ⟨ps, e, tr, f⟩ := t p hp
  refine ⟨ps, ?_, tr, fun pos cv hc => ?_⟩
  · rw [upd_ne]
    · exact e
    · rintro rfl
      rw [e] at h
      cases h
      cases q
  · obtain ⟨c, e1, e2⟩ := f pos cv hc
    refine ⟨c, e1, ?_⟩
    rw [upd_ne]
    · exact e2
    · rintro rfl
      rw [e2] at h
      cases h
      cases q
/-- a new thing is laid: nothing else turns -/
theorem Rl.up (R : Rl K Γ σ H st p m ar am ao ab) {q : Addr} (h : H q = none) (o : HO) : Rl K Γ σ (upd H q o) st p m ar am ao ab where
  rs := R.rs.keep (Kp.new h) (fun _ z => nomatch z) (fun _ _ n => n) (fun _ _ e => e) (fun _ _ z => nomatch z)
  rm := R.rm.keep (Kp.new h) (fun _ z => nomatch z) (fun _ _ n => n) (fun _ _ e => e) (fun _ _ z => nomatch z)
  ri := R.ri.keep (Kp.new h) (fun _ z => nomatch z) (fun _ _ n => n) (fun _ _ e => e) (fun _ _ z => nomatch z)
  ro := R.ro.keep (Kp.new h) (fun _ z => nomatch z) (fun _ _ n => n) (fun _ _ e => e) (fun _ _ z => nomatch z)
  rb := R.rb.keep (Kp.new h) (fun _ z => nomatch z) (fun _ _ n => n) (fun _ _ e => e) (fun _ _ z => nomatch z)
  nd := R.nd
  fr := R.fr
  kp := fun a u e n => by
    obtain ⟨o', e', f⟩ := R.kp a u e n
    exact ⟨o', by rw [upd_ne (ne_of_none e' h)]; exact e', f⟩
  pm := R.pm
  gu := R.gu
  tb := R.tb.ext fun b u e => by rw [upd_ne (ne_of_none e h)]; exact e
/-- values pending: dropped, taken -/
theorem Rl.setI (R : Rl K Γ σ H st p m ar am ao ab) {vs : List V} {xs : List AV} (h : Rp K H (wOf Γ ar am ao) m vs xs []) : Rl K Γ σ H st { p with iv := vs, ix := xs } m ar am ao ab :=
  ⟨R.rs, R.rm, h, R.ro, R.rb, R.nd, R.fr, R.kp, R.pm, R.gu, R.tb⟩
theorem Rl.setB (R : Rl K Γ σ H st p m ar am ao ab) {vs : List V} {xs : List AV} {ab' : List Addr} (h : Rp K H (wOf Γ ar am ao) m vs xs ab') : Rl K Γ σ H st { p with bv := vs, bx := xs } m ar am ao ab' :=
  ⟨R.rs, R.rm, R.ri, R.ro, h, R.nd, R.fr, R.kp, R.pm, R.gu, R.tb⟩
theorem Rl.nob (R : Rl K Γ σ H st p m ar am ao ab) : Rl K Γ σ H st p.nob m ar am ao [] := R.setB .nil
/-- a new tuple -/
theorem Rl.tup (R : Rl K Γ σ H st p m ar am ao ab) {q : Addr} {vs : List V} {xs : List AV} (h : H q = none) (r : Rp K H (wOf Γ ar am ao) m vs xs []) : Rl K Γ σ (upd H q (.tup vs)) st (p.sh (.ref q) (.tup xs)) m ar am ao ab := by
  have R' := R.up h (.tup vs)
  have r' := r.keep (Kp.new (o := .tup vs) h) (fun _ z => nomatch z) (fun _ _ n => n) (fun _ _ e => e) (fun _ z => nomatch z)
  exact R'.setI (.tup (SqT.of upd_same) r' R'.ri)
/-- a new shared list, dict -/
theorem Rl.lst (R : Rl K Γ σ H st p m ar am ao ab) {q : Addr} {vs : List V} {xs : List AV} (h : H q = none) (r : Rp K H (wOf Γ ar am ao) m vs xs []) : Rl K Γ σ (upd H q (.lst vs)) st (p.sh (.ref q) (.lst false xs)) m ar am ao ab := by
  have R' := R.up h (.lst vs)
  have r' := r.keep (Kp.new (o := .lst vs) h) (fun _ z => nomatch z) (fun _ _ n => n) (fun _ _ e => e) (fun _ z => nomatch z)
  exact R'.setI (.lsI upd_same (R.fresh h) r' R'.ri)
/-- how what is kept passes over -/
structure Tr (H H' : Hp) (W W' m m' L : List Addr) : Prop where
  k : Kp H H' L
  hL : ∀ b ∈ L, b ∈ W
  hW : ∀ b, (∃ o, H b = some o) → b ∉ W → b ∉ W'
  hm : ∀ (l : Nat) a, m[l]? = some a → m'[l]? = some a
variable {W W' m' L : List Addr} {vs : List V} {xs : List AV} {as : List Addr} {r : List Sl}
theorem Tr.rp (t : Tr H H' W W' m m' L) (h : Rp K H W m vs xs as) (n : ∀ b ∈ as, b ∉ L) : Rp K H' W' m' vs xs as := h.keep t.k t.hL t.hW t.hm n
theorem Tr.rp0 (t : Tr H H' W W' m m' L) (h : Rp K H W m vs xs []) : Rp K H' W' m' vs xs [] := h.keep t.k t.hL t.hW t.hm (fun _ z => nomatch z)
theorem Tr.rs (t : Tr H H' W W' m m' L) (h : Rs K H W m σ r as) (n : ∀ b ∈ as, b ∉ L) : Rs K H' W' m' σ r as := h.keep t.k t.hL t.hW t.hm n
/-- a fresh thing that is owned -/
theorem Tr.new {q : Addr} {o : HO} (h : H q = none) (hw : ∀ b, b ∈ W' → b ∈ W ∨ b = q) : Tr H (upd H q o) W W' m m [] :=
  ⟨Kp.new h, (fun _ z => nomatch z), fun b ⟨o, e⟩ n z => (hw b z).elim n (fun z => by rw [z, h] at e; cases e), fun _ _ e => e⟩
/-- an owned thing is written -/
theorem Tr.put {q : Addr} {o u : HO} (h : H q = some u) (hm : mutO u = true) (hq : q ∈ W) (hw : ∀ b, b ∈ W' → b ∈ W) : Tr H (upd H q o) W W' m m [q] :=
  ⟨Kp.put h hm, fun b z => by rw [List.mem_singleton.mp z]; exact hq, fun b _ n z => n (hw b z), fun _ _ e => e⟩
theorem Tr.same (hw : ∀ b, b ∈ W' → b ∈ W) : Tr H H W W' m m [] := ⟨Kp.refl, (fun _ z => nomatch z), fun b _ n z => n (hw b z), fun _ _ e => e⟩
/-- a new list, dict that is owned by what is pending -/
theorem Rl.newO (R : Rl K Γ σ H st p m ar am ao ab) {q : Addr} {o : HO} {d : AV} (h : H q = none) (hr : ∀ {H' : Hp} {W' : List Addr}, Tr H H' (wOf Γ ar am ao) W' m m [] → H' q = some o → Rp K H' W' m [.ref q] [d] [q]) :
    Rl K Γ σ (upd H q o) st (p.own (.ref q) d) m ar am (q :: ao) ab := by
  have t : Tr H (upd H q o) (wOf Γ ar am ao) (wOf Γ ar am (q :: ao)) m m [] := Tr.new h fun b z => by
    simp only [wOf, List.mem_append, List.mem_cons] at z ⊢
    grind
  have nq := R.fresh h
  refine ⟨t.rs R.rs (fun _ _ z => nomatch z), t.rp R.rm (fun _ _ z => nomatch z), t.rp0 R.ri, (hr t upd_same).cons (t.rp R.ro (fun _ _ z => nomatch z)), t.rp R.rb (fun _ _ z => nomatch z), ?_, ?_, ?_, R.pm, R.gu, ?_⟩
  · have h := R.nd
    simp only [wOf, List.nodup_append, List.nodup_cons, List.mem_append, List.mem_cons] at h nq ⊢
    grind
  · intro a ha
    have h1 := R.fr a
    have h2 := R.free0 h
    simp only [List.mem_append, List.mem_cons] at h1 ha
    grind
  · intro a u e n
    obtain ⟨o', e', f⟩ := R.kp a u e n
    exact ⟨o', by rw [upd_ne (ne_of_none e' h)]; exact e', f⟩
  · exact R.tb.ext fun b u e => by rw [upd_ne (ne_of_none e h)]; exact e
end
/-! ### readings -/
/-- an expression that gives a shared value -/
def rdE (K : PySem.W.Frag) (Γ : Gam) (W : WX) (m : M AV) : TE := fun σ H Q => ∃ st p, Rel K Γ σ H st p ∧ match m st with
  | .ok d st' => ∀ v H', Rel K Γ σ H' st' (p.nob.sh v d) → Q v H'
  | .err c st' => ∀ H', Rel K Γ σ H' st' p.nob → W (.ref (He.ga K c)) none σ H'
  | .bad => False
/-- .. a new one that is owned -/
def rdO (K : PySem.W.Frag) (Γ : Gam) (W : WX) (m : M AV) : TE := fun σ H Q => ∃ st p, Rel K Γ σ H st p ∧ match m st with
  | .ok d st' => ∀ v H', Rel K Γ σ H' st' (p.nob.own v d) → Q v H'
  | .err c st' => ∀ H', Rel K Γ σ H' st' p.nob → W (.ref (He.ga K c)) none σ H'
  | .bad => False
/-- .. that is looked at alone: nothing turns -/
def rdP (K : PySem.W.Frag) (Γ : Gam) (m : Ss → Option AV) : TE := fun σ H Q => ∃ st p d, Rel K Γ σ H st p ∧ m st = some d ∧ ∀ v, Rel K Γ σ H st (p.lk v d) → Q v H
def rdT (K : PySem.W.Frag) (Γ : Gam) (W : WX) (m : M Bool) : TT := fun σ H Q => ∃ st p, Rel K Γ σ H st p ∧ match m st with
  | .ok b st' => ∀ H', Rel K Γ σ H' st' p.nob → Q b H'
  | .err c st' => ∀ H', Rel K Γ σ H' st' p.nob → W (.ref (He.ga K c)) none σ H'
  | .bad => False
def rdA (K : PySem.W.Frag) (Γ : Gam) (W : WX) (m : M (List AV)) : TA := fun σ H Q => ∃ st p, Rel K Γ σ H st p ∧ match m st with
  | .ok ds st' => ∀ vs H', vs.length = ds.length → Rel K Γ σ H' st' { p.nob with iv := vs ++ p.iv, ix := ds ++ p.ix } → Q vs H'
  | .err c st' => ∀ H', Rel K Γ σ H' st' p.nob → W (.ref (He.ga K c)) none σ H'
  | .bad => False
def rdS (K : PySem.W.Frag) (Γ : Gam) (W : WX) (m : M Fl) : TS := fun D σ H => ∃ st p, Rel K Γ σ H st p ∧ p.nob = p ∧ match m st with
  | .ok .nx st' => ∀ σ' H', Rel K Γ σ' H' st' p → D.nx σ' H'
  | .ok (.rt d) st' => ∀ v σ' H', Rel K Γ σ' H' st' (p.sh v d) → D.rt v H'
  | .ok .bk st' => ∀ σ' H', Rel K Γ σ' H' st' p → D.bk σ' H'
  | .ok .ct st' => ∀ σ' H', Rel K Γ σ' H' st' p → D.ct σ' H'
  | .err c st' => ∀ σ' H', Rel K Γ σ' H' st' p → W (.ref (He.ga K c)) none σ' H'
  | .bad => False
def Res.bind {α β γ : Type} (x : Res α γ) (k : α → γ → Res β γ) : Res β γ := match x with
  | .ok a s => k a s
  | .err c s => .err c s
  | .bad => .bad
@[simp] theorem Res.bind_ok {α β γ : Type} (a : α) (s : γ) (k : α → γ → Res β γ) : (Res.ok a s).bind k = k a s := rfl
@[simp] theorem Res.bind_err {α β γ : Type} (c : Str) (s : γ) (k : α → γ → Res β γ) : (Res.err c s : Res α γ).bind k = .err c s := rfl
@[simp] theorem Res.bind_bad {α β γ : Type} (k : α → γ → Res β γ) : (Res.bad : Res α γ).bind k = .bad := rfl
def ofO {α γ : Type} : Option α → γ → Res α γ
  | some d, s => .ok d s
  | none, _ => .bad
@[simp] theorem ofO_some {α γ : Type} (d : α) (s : γ) : ofO (some d) s = .ok d s := rfl
@[simp] theorem ofO_none {α γ : Type} (s : γ) : ofO (none : Option α) s = .bad := rfl
/-! ### terms -/
def eVar (i : Nat) : M AV := fun st => match getSl st.r i with
  | .im d => .ok d st
  | .ow d => match frz d with
    | some d' => .ok d' ⟨setSl st.r i (.im d'), st.s⟩
    | none => .bad
  | .no => .bad
def eC (d : AV) : M AV := fun st => .ok d st
def e1 (f : AV → Option AV) (a : M AV) : M AV := fun st => (a st).bind fun x s1 => ofO (f x) s1
def e2 (f : AV → AV → Option AV) (a b : M AV) : M AV := fun st => (a st).bind fun x s1 => (b s1).bind fun y s2 => ofO (f x y) s2
section
variable {X : Cx} {Γ : Gam} {W : WX} {σ : L2.St} {H H' : Hp} {st : Ss} {p : Pd}
theorem pe_imp {e : Expr} {t t' : TE} (h : PE X e t) (i : ∀ σ H Q, t' σ H Q → t σ H Q) : PE X e t' := ⟨fun pins s σ H Q I q => h.run pins s σ H Q I (i σ H Q q)⟩
theorem pt_imp {e : Expr} {t t' : TT} (h : PT X e t) (i : ∀ σ H Q, t' σ H Q → t σ H Q) : PT X e t' := ⟨fun pins s σ H Q I q => h.run pins s σ H Q I (i σ H Q q)⟩
theorem pw_imp {e : Expr} {t t' : TT} (h : PW X e t) (i : ∀ σ H Q, t' σ H Q → t σ H Q) : PW X e t' := ⟨fun wh pins s σ H Q I q => h.run wh pins s σ H Q I (i σ H Q q)⟩
theorem pa_imp {es : List Expr} {t t' : TA} (h : PA X es t) (i : ∀ σ H Q, t' σ H Q → t σ H Q) : PA X es t' := ⟨fun pos pins s σ H Q I q => h.run pos pins s σ H Q I (i σ H Q q)⟩
theorem ps_imp {s : Stmt} {t t' : TS} (h : PS X s t) (i : ∀ D σ H, t' D σ H → t D σ H) : PS X s t' := ⟨fun pins s σ H D I q => h.run pins s σ H D I (i D σ H q)⟩
theorem pss_imp {s : List Stmt} {t t' : TS} (h : PSs X s t) (i : ∀ D σ H, t' D σ H → t D σ H) : PSs X s t' := ⟨fun pins s σ H D I q => h.run pins s σ H D I (i D σ H q)⟩
variable {K : PySem.W.Frag}
theorem Rel.nob (R : Rel K Γ σ H st p) : Rel K Γ σ H st p.nob := by
  obtain ⟨m, ar, am, ao, ab, R⟩ := R
  exact ⟨m, ar, am, ao, [], R.nob⟩
theorem Rel.shC (R : Rel K Γ σ H st p) {v : V} {d : AV} (h : ∀ W m, Rp K H W m [v] [d] []) : Rel K Γ σ H st (p.sh v d) := by
  obtain ⟨m, ar, am, ao, ab, R⟩ := R
  exact ⟨m, ar, am, ao, ab, R.setI ((h _ _).cons0 R.ri)⟩
theorem Rel.drop {v : V} {d : AV} (R : Rel K Γ σ H st (p.sh v d)) : Rel K Γ σ H st p := by
  obtain ⟨m, ar, am, ao, ab, R⟩ := R
  exact ⟨m, ar, am, ao, ab, R.setI R.ri.head0.2⟩
/-- a name -/
theorem s_var {x : Str} {i : Nat} {pos : Pos} (hN : X.N[i]? = some x) (hv : Vis X.env.scope x) (hd : (x == ("__debug__" : Str)) = false := by decide) (hcd : (x == ("__classdict__" : Str)) = false := by decide) : PE X (.Name x pos) (rdE X.K Γ W (eVar i)) := by
  refine pe_imp (pe_var hN hv hd hcd) fun σ H Q h => ?_
  obtain ⟨st, p, ⟨m, ar, am, ao, ab, R⟩, h⟩ := h
  unfold eVar at h
  cases e : getSl st.r i with
  | no => rw [e] at h; exact h.elim
  | im d =>
    rw [e] at h
    obtain ⟨v, ev, rv⟩ := R.rs.getIm e
    exact ⟨v, ev, h v H ⟨m, ar, am, ao, [], R.nob.setI (rv.cons0 R.ri)⟩⟩
  | ow d =>
    rw [e] at h
    cases ef : frz d with
    | none => simp only [ef] at h
    | some d' =>
      simp only [ef] at h
      obtain ⟨v, a1, b, a2, ev, ea, rv, rn⟩ := R.rs.getOw e
      refine ⟨v, ev, h v H ?_⟩
      have nd := R.nd
      have fr := R.fr
      subst ea
      have t : Tr H H (wOf Γ (a1 ++ (b ++ a2)) am ao) (wOf Γ (a1 ++ a2) am ao) m m [] := Tr.same fun c z => by
        simp only [wOf, List.mem_append] at z ⊢
        grind
      have rd : Rp X.K H (wOf Γ (a1 ++ a2) am ao) m [v] [d'] [] := rv.frz ef (fun c z => by
        simp only [wOf, List.mem_append] at z ⊢
        grind) (fun c z => by
        simp only [wOf, List.nodup_append, List.mem_append] at nd ⊢
        grind)
      have hi : i < st.r.length := getSl_lt (by rw [e]; exact fun z => nomatch z)
      have r2 := (t.rs rn (fun _ _ z => nomatch z)).setNo hi rd
      have es : σ.set i (some v) = σ := by
        apply List.ext_getElem?
        intro j
        by_cases c : i = j
        · subst c
          rw [List.getElem?_set_self (by rw [R.rs.len]; exact hi), ev]
        · rw [List.getElem?_set_ne c]
      rw [es] at r2
      refine ⟨m, a1 ++ a2, am, ao, [], r2, t.rp R.rm (fun _ _ z => nomatch z), rd.cons0 (t.rp0 R.ri), t.rp R.ro (fun _ _ z => nomatch z), .nil, ?_, ?_, R.kp, R.pm, R.gu, R.tb⟩
      · simp only [wOf, List.nodup_append, List.mem_append] at nd ⊢
        grind
      · intro a ha
        have h1 := fr a
        simp only [List.mem_append] at h1 ha
        grind
theorem s_int {i : Int} {j : Nat} {pos : Pos} : PE X (.Constant (.int i) j pos) (rdE X.K Γ W (eC (.int i))) := by
  refine pe_imp pe_int fun σ H Q h => ?_
  obtain ⟨st, p, R, h⟩ := h
  exact h _ _ (R.nob.shC fun _ _ => .int .nil)
theorem s_bl {b : Bool} {j : Nat} {pos : Pos} : PE X (.Constant (.bool b) j pos) (rdE X.K Γ W (eC (.bl b))) := by
  refine pe_imp pe_bl fun σ H Q h => ?_
  obtain ⟨st, p, R, h⟩ := h
  exact h _ _ (R.nob.shC fun _ _ => .bl .nil)
theorem s_non {j : Nat} {pos : Pos} : PE X (.Constant .none j pos) (rdE X.K Γ W (eC .non)) := by
  refine pe_imp pe_non fun σ H Q h => ?_
  obtain ⟨st, p, R, h⟩ := h
  exact h _ _ (R.nob.shC fun _ _ => .non .nil)
theorem s_str {x : Str} {j : Nat} {pos : Pos} : PE X (.Constant (.str x) j pos) (rdE X.K Γ W (eC (.str x))) := by
  refine pe_imp pe_str fun σ H Q h => ?_
  obtain ⟨st, p, R, h⟩ := h
  exact h _ _ (R.nob.shC fun _ _ => .str .nil)
/-- an operator: from two shared values a shared one -/
def Op2 (K : PySem.W.Frag) (r : R2) (f : AV → AV → Option AV) : Prop := ∀ (Γ : Gam) (σ : L2.St) (H : Hp) (st : Ss) (p : Pd) (m ar am ao ab : List Addr) (v1 v2 : V) (x y d : AV) (a1 a2 : List Addr) (Q : VK), Rl K Γ σ H st p m ar am ao ab → Rp K H (wOf Γ ar am ao) m [v1] [x] a1 → Rp K H (wOf Γ ar am ao) m [v2] [y] a2 → f x y = some d → (∀ v H', Rel K Γ σ H' st (p.nob.sh v d) → Q v H') → r v1 v2 H Q
theorem Rel.one {v : V} {x : AV} (R : Rel K Γ σ H st (p.sh v x)) : ∃ m ar am ao ab, Rl K Γ σ H st p m ar am ao ab ∧ Rp K H (wOf Γ ar am ao) m [v] [x] [] := by
  obtain ⟨m, ar, am, ao, ab, R⟩ := R
  exact ⟨m, ar, am, ao, ab, R.setI R.ri.head0.2, R.ri.head0.1⟩
theorem Rel.two {v1 v2 : V} {x y : AV} (R : Rel K Γ σ H st ((p.sh v1 x).sh v2 y)) : ∃ m ar am ao ab, Rl K Γ σ H st p m ar am ao ab ∧ Rp K H (wOf Γ ar am ao) m [v1] [x] [] ∧ Rp K H (wOf Γ ar am ao) m [v2] [y] [] := by
  obtain ⟨m, ar, am, ao, ab, R⟩ := R
  exact ⟨m, ar, am, ao, ab, R.setI R.ri.head0.2.head0.2, R.ri.head0.2.head0.1, R.ri.head0.1⟩
/-- two in a row -/
theorem two_in {ma mb : M AV} {Q : VK} {f : AV → AV → Option AV} {r : R2} (ho : Op2 K r f) (h : rdE K Γ W (e2 f ma mb) σ H Q) : rdE K Γ W ma σ H fun x H1 => rdE K Γ W mb σ H1 fun y H2 => r x y H2 Q := by
  obtain ⟨st, p, R, h⟩ := h
  refine ⟨st, p, R, ?_⟩
  unfold e2 at h
  cases ea : ma st with
  | bad => rw [ea] at h; exact h
  | err c s1 => rw [ea] at h; exact h
  | ok x s1 =>
    rw [ea] at h
    intro v1 H1 R1
    refine ⟨s1, _, R1, ?_⟩
    simp only [Res.bind_ok] at h
    cases eb : mb s1 with
    | bad => rw [eb] at h; exact h
    | err c s2 =>
      rw [eb] at h
      intro H2 R2
      exact h H2 R2.drop
    | ok y s2 =>
      rw [eb] at h
      simp only [Res.bind_ok] at h
      intro v2 H2 R2
      cases ef : f x y with
      | none => simp only [ef, ofO_none] at h
      | some d =>
        simp only [ef, ofO_some] at h
        obtain ⟨m, ar, am, ao, ab, R3, r1, r2⟩ := R2.two
        exact ho Γ σ H2 s2 _ m ar am ao ab v1 v2 x y d _ _ Q R3 r1 r2 ef h
theorem s_op {a b : Expr} {op : Operator} {r : R2} {f : AV → AV → Option AV} {ma mb : M AV} {pos : Pos} (hr : OpR X (binaryOp op) r) (ho : Op2 X.K r f) (ha : PE X a (rdE X.K Γ W ma)) (hb : PE X b (rdE X.K Γ W mb)) : PE X (.BinOp a op b pos) (rdE X.K Γ W (e2 f ma mb)) :=
  pe_imp (pe_op hr ha hb) fun σ H Q h => two_in ho h
theorem s_cmp {a b : Expr} {op : CmpOp} {r : R2} {f : AV → AV → Option AV} {ma mb : M AV} {pos : Pos} (hr : OpR X (compareOp op) r) (ho : Op2 X.K r f) (ha : PE X a (rdE X.K Γ W ma)) (hb : PE X b (rdE X.K Γ W mb)) (hm : behindInMarks op b = false) : PE X (.Compare a [op] [b] pos) (rdE X.K Γ W (e2 f ma mb)) :=
  pe_imp (pe_cmpR hr ha hb hm) fun σ H Q h => two_in ho h
/-- a truth, as a test -/
def tOf (m : M AV) : M Bool := fun st => (m st).bind fun x s1 => match x with
  | .bl b => .ok b s1
  | _ => .bad
theorem rp_bl {b : Bool} {v : V} {W m : List Addr} {as : List Addr} (h : Rp K H W m [v] [.bl b] as) : v = .bl b := by
  cases h
  rfl
theorem tOf_in {m : M AV} {Q : Bool → Hp → Prop} (h : rdT K Γ W (tOf m) σ H Q) : tTest (rdE K Γ W m) σ H Q := by
  obtain ⟨st, p, R, h⟩ := h
  refine ⟨st, p, R, ?_⟩
  unfold tOf at h
  cases e : m st with
  | bad => rw [e] at h; exact h
  | err c s1 => rw [e] at h; exact h
  | ok x s1 =>
    rw [e] at h
    simp only [Res.bind_ok] at h
    intro v H1 R1
    cases x with
    | bl b =>
      obtain ⟨m, ar, am, ao, ab, R2⟩ := id R1
      exact ⟨b, rp_bl R2.ri.head0.1, h H1 R1.drop⟩
    | _ => exact h.elim
theorem s_tval {e : Expr} {m : M AV} (h : PE X e (rdE X.K Γ W m)) (he : ∀ whole, isTrue e X.env whole = (do let v ← whole; standAt e.pos; holding [v] (truthy v)) := by intro _; rfl) : PT X e (rdT X.K Γ W (tOf m)) :=
  pt_imp (pt_val h he) fun σ H Q q => tOf_in q
theorem s_tcmp {a b : Expr} {op : CmpOp} {r : R2} {f : AV → AV → Option AV} {ma mb : M AV} {pos : Pos} (hr : OpR X (compareOp op) r) (ho : Op2 X.K r f) (ha : PE X a (rdE X.K Γ W ma)) (hb : PE X b (rdE X.K Γ W mb)) (hm : behindInMarks op b = false) : PT X (.Compare a [op] [b] pos) (rdT X.K Γ W (tOf (e2 f ma mb))) := by
  refine pt_imp (pt_cmpR hr ha hb hm) fun σ H Q h => ?_
  obtain ⟨st, p, R, h⟩ := tOf_in h
  exact two_in ho ⟨st, p, R, h⟩
end
end Fk
/-! ## operators on plain values -/
namespace Fk
open PySem PySem.Spec PyProof.Rows L2
section
variable {K : PySem.W.Frag} {Γ : Gam} {σ : L2.St} {H : Hp} {st : Ss} {p : Pd} {W m as : List Addr} {v v1 v2 : V} {x y d : AV} {xs ys : List AV} {vs : List V}
theorem Rp.int_i {i : Int} (h : Rp K H W m [v] [.int i] as) : v = .int i := by cases h; rfl
theorem Rp.bl_i {i : Bool} (h : Rp K H W m [v] [.bl i] as) : v = .bl i := by cases h; rfl
theorem Rp.str_i {i : Str} (h : Rp K H W m [v] [.str i] as) : v = .str i := by cases h; rfl
theorem Rp.non_i (h : Rp K H W m [v] [.non] as) : v = .non := by cases h; rfl
theorem Rp.tup_i (h : Rp K H W m [v] [.tup xs] as) : ∃ a us, v = .ref a ∧ SqT K H a us ∧ Rp K H W m us xs [] := by
  cases h with
  | tup h q _ => exact ⟨_, _, rfl, h, q⟩
theorem Rp.lst_i {o : Bool} (h : Rp K H W m [v] [.lst o xs] as) : ∃ a us, v = .ref a ∧ H a = some (.lst us) ∧ Rp K H W m us xs [] := by
  cases h with
  | lsI h _ q _ => exact ⟨_, _, rfl, h, q⟩
  | lsO h q _ => exact ⟨_, _, rfl, h, q⟩
theorem Rp.lsO_i (h : Rp K H W m [v] [.lst true xs] as) : ∃ a us, v = .ref a ∧ as = [a] ∧ H a = some (.lst us) ∧ Rp K H W m us xs [] := by
  cases h with
  | lsO h q r =>
    obtain ⟨_, rfl⟩ := r.nil_inv
    exact ⟨_, _, rfl, rfl, h, q⟩
theorem Rp.dct_i {o : Bool} {ks : List Key} (h : Rp K H W m [v] [.dct o ks xs] as) : ∃ a kvs, v = .ref a ∧ H a = some (.dK kvs) ∧ kvs.map (·.1) = ks ∧ Rp K H W m (kvs.map (·.2)) xs [] := by
  cases h with
  | dcI h _ e q _ => exact ⟨_, _, rfl, h, e, q⟩
  | dcO h e q _ => exact ⟨_, _, rfl, h, e, q⟩
theorem Rp.loc_i {l : Nat} (h : Rp K H W m [v] [.loc l] as) : ∃ a, v = .ref a ∧ m[l]? = some a := by
  cases h with
  | loc h _ => exact ⟨_, rfl, h⟩
theorem Rp.scr_i (h : Rp K H W m [v] [.scr xs] as) : ∃ a us, v = .ref a ∧ Scr K H a us ∧ Rp K H W m us xs [] := by
  cases h with
  | scr h q _ => exact ⟨_, _, rfl, h, q⟩
theorem Rl.rel {ar am ao ab : List Addr} (R : Rl K Γ σ H st p m ar am ao ab) : Rel K Γ σ H st p := ⟨m, ar, am, ao, ab, R⟩
theorem Rl.sh {ar am ao ab : List Addr} (R : Rl K Γ σ H st p m ar am ao ab) (h : Rp K H (wOf Γ ar am ao) m [v] [x] []) : Rel K Γ σ H st (p.sh v x) := ⟨m, ar, am, ao, ab, R.setI (h.cons0 R.ri)⟩
theorem Rel.int (R : Rel K Γ σ H st p) (i : Int) : Rel K Γ σ H st (p.sh (.int i) (.int i)) := R.shC fun _ _ => .int .nil
theorem Rel.bl (R : Rel K Γ σ H st p) (i : Bool) : Rel K Γ σ H st (p.sh (.bl i) (.bl i)) := R.shC fun _ _ => .bl .nil
theorem Rel.str (R : Rel K Γ σ H st p) (i : Str) : Rel K Γ σ H st (p.sh (.str i) (.str i)) := R.shC fun _ _ => .str .nil
theorem Rel.non (R : Rel K Γ σ H st p) : Rel K Γ σ H st (p.sh .non .non) := R.shC fun _ _ => .non .nil
end
/-! ### data -/
mutual
def dat : AV → PyData
  | .non => .none
  | .bl b => .bool b
  | .int i => .int i
  | .str x => .str x
  | .tup xs => .tuple (dats xs)
  | .lst _ xs => .list (dats xs)
  | .nst xs => .list (dats xs)
  | .scr xs => .list (dats xs)
  | _ => .none
def dats : List AV → List PyData
  | [] => []
  | x :: xs => dat x :: dats xs
end
mutual
/-- plain data -/
def pl : AV → Bool
  | .non => true
  | .bl _ => true
  | .int _ => true
  | .str _ => true
  | .tup xs => pls xs
  | .lst _ xs => pls xs
  | .nst xs => pls xs
  | .scr xs => pls xs
  | _ => false
def pls : List AV → Bool
  | [] => true
  | x :: xs => pl x && pls xs
end
theorem Rp.dps {K : PySem.W.Frag} {H : Hp} {W m as : List Addr} {vs : List V} {xs : List AV} (r : Rp K H W m vs xs as) : pls xs = true → DpAll K H vs (dats xs) := by
  have ba : ∀ {a b : Bool}, (a && b) = true → a = true ∧ b = true := fun h => Bool.and_eq_true_iff.mp h
  induction r with
  | nil => intro _; exact .nil
  | non _ i => intro h; exact .cons .non (i (ba h).2)
  | bl _ i => intro h; exact .cons (.bl _) (i (ba h).2)
  | int _ i => intro h; exact .cons (.int _) (i (ba h).2)
  | str _ i => intro h; exact .cons (.str _) (i (ba h).2)
  | tup h _ _ i1 i2 => intro e; exact .cons (.tup h (i1 (ba e).1)) (i2 (ba e).2)
  | lsI h _ _ _ i1 i2 => intro e; exact .cons (.lst (SqL.of h) (i1 (ba e).1)) (i2 (ba e).2)
  | lsO h _ _ i1 i2 => intro e; exact .cons (.lst (SqL.of h) (i1 (ba e).1)) (i2 (ba e).2)
  | nst h _ _ i1 i2 => intro e; exact .cons (.lst (SqL.of h) (i1 (ba e).1)) (i2 (ba e).2)
  | scr h _ _ i1 i2 => intro e; exact .cons (.lst h.sq (i1 (ba e).1)) (i2 (ba e).2)
  | _ => intro h; exact nomatch (ba h).1
theorem Rp.dp {K : PySem.W.Frag} {H : Hp} {W m as : List Addr} {v : V} {x : AV} (r : Rp K H W m [v] [x] as) (h : pl x = true) : Dp K H v (dat x) := by
  have q := r.dps (show (pl x && true) = true by rw [h]; rfl)
  cases q with
  | cons q _ => exact q
/-- data that may be compared -/
def okA (x : AV) : Bool := pl x && SeqAt.shaped (dat x)
theorem mx_eq : sizeLine = 16777216 := by decide
/-! ### the operators' plain meaning -/
def b2I (b : Bool) : Int := if b = true then 1 else 0
def oAdd : AV → AV → Option AV
  | .int a, .int b => some (.int (a + b))
  | .bl a, .int b => some (.int (b2I a + b))
  | .str a, .str b => if a.length + b.length ≤ 16777216 then some (.str (a ++ b)) else none
  | .tup a, .tup b => if a.length + b.length ≤ 16777216 then some (.tup (a ++ b)) else none
  | .lst _ a, .lst _ b => if a.length + b.length ≤ 16777216 then some (.lst false (a ++ b)) else none
  | _, _ => none
def oSub : AV → AV → Option AV
  | .int a, .int b => some (.int (a - b))
  | .bl a, .int b => some (.int (b2I a - b))
  | _, _ => none
def cMul (a b : Int) : Bool := (decide (-(2 ^ 64) < a) && decide (a < 2 ^ 64)) || (decide (-(2 ^ 64) < b) && decide (b < 2 ^ 64))
def repA (k : Int) (xs : List AV) : List AV := (List.replicate k.toNat xs).flatten
def oMul : AV → AV → Option AV
  | .int a, .int b => if cMul a b then some (.int (a * b)) else none
  | .lst _ xs, .int k => if k < 1000000 ∧ -1000000 < k ∧ xs.length * k.toNat ≤ 16777216 then some (.lst false (repA k xs)) else none
  | _, _ => none
def oFdv : AV → AV → Option AV
  | .int a, .int b => if 0 < b ∧ b < 2 ^ 64 then some (.int (a / b)) else none
  | _, _ => none
def oMod : AV → AV → Option AV
  | .int a, .int b => if 0 < b then some (.int (a % b)) else none
  | _, _ => none
def cPow (a b : Int) : Bool := decide (0 ≤ b) && decide (b ≤ 1000000) && decide (a.natAbs < 2 ^ 64)
def oPow : AV → AV → Option AV
  | .int a, .int b => if cPow a b then some (.int (a ^ b.toNat)) else none
  | _, _ => none
def oShl : AV → AV → Option AV
  | .int a, .int b => if cPow a b then some (.int (a * 2 ^ b.toNat)) else none
  | _, _ => none
def oShr : AV → AV → Option AV
  | .int a, .int b => if 0 ≤ b then some (.int (a / 2 ^ b.toNat)) else none
  | _, _ => none
def oAnd : AV → AV → Option AV
  | .int a, .int b => some (.int (Builtin.bitAnd a b))
  | _, _ => none
def oXor : AV → AV → Option AV
  | .int a, .int b => some (.int (Builtin.bitXor a b))
  | _, _ => none
def oLt : AV → AV → Option AV
  | .int a, .int b => some (.bl (decide (a < b)))
  | _, _ => none
def oLe : AV → AV → Option AV
  | .int a, .int b => some (.bl (decide (a ≤ b)))
  | _, _ => none
def oGt : AV → AV → Option AV
  | .int a, .int b => some (.bl (decide (b < a)))
  | _, _ => none
def oGe : AV → AV → Option AV
  | .int a, .int b => some (.bl (decide (b ≤ a)))
  | _, _ => none
def eqA : AV → AV → Option Bool
  | .int a, .int b => some (decide (a = b))
  | .str a, .str b => some (decide (a = b))
  | .bl a, .bl b => some (decide (a = b))
  | x, y => if okA x && okA y then some (PyData.eqv (dat x) (dat y)) else none
def oEq (x y : AV) : Option AV := (eqA x y).map AV.bl
def oNe (x y : AV) : Option AV := (eqA x y).map fun b => AV.bl (!b)
def isN : AV → Bool
  | .non => true
  | _ => false
def oIs : AV → AV → Option AV
  | x, .non => some (.bl (isN x))
  | .bl a, .bl b => some (.bl (decide (a = b)))
  | _, _ => none
def oNis : AV → AV → Option AV
  | x, .non => some (.bl (!isN x))
  | .bl a, .bl b => some (.bl (!decide (a = b)))
  | _, _ => none
section
variable {K : PySem.W.Frag}
theorem p_add : Op2 K (uAddB K) oAdd := by
  intro Γ σ H st p m ar am ao ab v1 v2 x y d a1 a2 Q R0 r1 r2 e h
  replace R0 := R0.nob
  unfold oAdd at e
  split at e
  · cases e
    obtain rfl := r1.int_i
    obtain rfl := r2.int_i
    exact .inl (.inl ⟨_, _, rfl, rfl, h _ _ (R0.rel.int _)⟩)
  · cases e
    obtain rfl := r1.bl_i
    obtain rfl := r2.int_i
    exact .inr ⟨_, _, rfl, rfl, h _ _ (R0.rel.int _)⟩
  · split at e
    · cases e
      obtain rfl := r1.str_i
      obtain rfl := r2.str_i
      exact .inl (.inr (.inl ⟨_, _, rfl, rfl, by rw [mx_eq]; assumption, h _ _ (R0.rel.str _)⟩))
    · cases e
  · split at e
    · cases e
      obtain ⟨a, us, rfl, h1, q1⟩ := r1.tup_i
      obtain ⟨b, ws, rfl, h2, q2⟩ := r2.tup_i
      have l1 := q1.len
      have l2 := q2.len
      have z0 := mx_eq
      refine .inl (.inr (.inr (.inr ⟨a, b, us, ws, rfl, rfl, h1, h2, by omega, fun z => ?_, fun z1 z2 => ?_, fun z1 z2 q hq => ?_⟩)))
      · subst z
        obtain ⟨rfl, _⟩ := q1.nil_inv'
        exact h _ _ (R0.sh (.tup h2 q2 .nil))
      · subst z2
        obtain ⟨rfl, _⟩ := q2.nil_inv'
        rw [List.append_nil] at h
        exact h _ _ (R0.sh (.tup h1 q1 .nil))
      · exact h _ _ (R0.tup hq (q1.app q2)).rel
    · cases e
  · split at e
    · cases e
      obtain ⟨a, us, rfl, h1, q1⟩ := r1.lst_i
      obtain ⟨b, ws, rfl, h2, q2⟩ := r2.lst_i
      have l1 := q1.len
      have l2 := q2.len
      have z0 := mx_eq
      exact .inl (.inr (.inr (.inl ⟨a, b, us, ws, rfl, rfl, h1, h2, by omega, fun q hq => h _ _ (R0.lst hq (q1.app q2)).rel⟩)))
    · cases e
  · cases e
theorem p_sub : Op2 K uSubB oSub := by
  intro Γ σ H st p m ar am ao ab v1 v2 x y d a1 a2 Q R0 r1 r2 e h
  replace R0 := R0.nob
  unfold oSub at e
  split at e
  · cases e
    obtain rfl := r1.int_i
    obtain rfl := r2.int_i
    exact .inl ⟨_, _, rfl, rfl, h _ _ (R0.rel.int _)⟩
  · cases e
    obtain rfl := r1.bl_i
    obtain rfl := r2.int_i
    exact .inr ⟨_, _, rfl, rfl, h _ _ (R0.rel.int _)⟩
  · cases e
theorem cMul_ok {a b : Int} (h : cMul a b = true) : CMul a b := by
  unfold cMul at h
  simp only [Bool.or_eq_true, Bool.and_eq_true, decide_eq_true_eq] at h
  exact h
theorem rep_rp {H : Hp} {W m : List Addr} {us : List V} {xs : List AV} (q : Rp K H W m us xs []) : ∀ n : Nat, Rp K H W m (List.replicate n us).flatten (List.replicate n xs).flatten []
  | 0 => .nil
  | n + 1 => by
    rw [List.replicate_succ, List.replicate_succ, List.flatten_cons, List.flatten_cons]
    exact q.app (rep_rp q n)
theorem p_mul : Op2 K (uMul K) oMul := by
  intro Γ σ H st p m ar am ao ab v1 v2 x y d a1 a2 Q R0 r1 r2 e h
  replace R0 := R0.nob
  unfold oMul at e
  split at e
  · split at e
    · cases e
      obtain rfl := r1.int_i
      obtain rfl := r2.int_i
      rename_i c
      exact .inl ⟨_, _, rfl, rfl, cMul_ok c, h _ _ (R0.rel.int _)⟩
    · cases e
  · split at e
    · cases e
      obtain ⟨a, us, rfl, h1, q1⟩ := r1.lst_i
      obtain rfl := r2.int_i
      rename_i c
      have l1 := q1.len
      exact .inr ⟨a, _, us, rfl, rfl, h1, by omega, by omega, by rw [l1, mx_eq]; exact c.2.2, fun q hq => h _ _ (R0.lst hq (rep_rp q1 _)).rel⟩
    · cases e
  · cases e
/-- operators on two ints -/
theorem p_int {r : R2} {f : AV → AV → Option AV} (C : Int → Int → Prop) (g : Int → Int → Int) (hf : ∀ x y d, f x y = some d → ∃ a b, x = .int a ∧ y = .int b ∧ C a b ∧ d = .int (g a b)) (hr : ∀ a b H Q, C a b → Q (.int (g a b)) H → r (.int a) (.int b) H Q) : Op2 K r f := by
  intro Γ σ H st p m ar am ao ab v1 v2 x y d a1 a2 Q R0 r1 r2 e h
  replace R0 := R0.nob
  obtain ⟨a, b, rfl, rfl, c, rfl⟩ := hf _ _ _ e
  obtain rfl := r1.int_i
  obtain rfl := r2.int_i
  exact hr a b H Q c (h _ _ (R0.rel.int _))
theorem p_cmp {r : R2} {f : AV → AV → Option AV} (g : Int → Int → Bool) (hf : ∀ x y d, f x y = some d → ∃ a b, x = .int a ∧ y = .int b ∧ d = .bl (g a b)) (hr : ∀ a b H Q, Q (.bl (g a b)) H → r (.int a) (.int b) H Q) : Op2 K r f := by
  intro Γ σ H st p m ar am ao ab v1 v2 x y d a1 a2 Q R0 r1 r2 e h
  replace R0 := R0.nob
  obtain ⟨a, b, rfl, rfl, rfl⟩ := hf _ _ _ e
  obtain rfl := r1.int_i
  obtain rfl := r2.int_i
  exact hr a b H Q (h _ _ (R0.rel.bl _))
theorem p_mod : Op2 K uMod oMod := p_int (fun _ b => 0 < b) (· % ·) (fun x y d e => by unfold oMod at e; split at e <;> (try split at e) <;> cases e; exact ⟨_, _, rfl, rfl, by assumption, rfl⟩) fun a b H Q c q => ⟨a, b, rfl, rfl, c, q⟩
theorem p_shr : Op2 K uShr oShr := p_int (fun _ b => 0 ≤ b) (fun a b => a / 2 ^ b.toNat) (fun x y d e => by unfold oShr at e; split at e <;> (try split at e) <;> cases e; exact ⟨_, _, rfl, rfl, by assumption, rfl⟩) fun a b H Q c q => ⟨a, b, rfl, rfl, c, q⟩
theorem cPow_ok {a b : Int} (h : cPow a b = true) : CPow a b := by
  unfold cPow at h
  simp only [Bool.and_eq_true, decide_eq_true_eq] at h
  exact ⟨h.1.1, h.1.2, h.2⟩
theorem p_pow : Op2 K uPow oPow := p_int CPow (fun a b => a ^ b.toNat) (fun x y d e => by unfold oPow at e; split at e <;> (try split at e) <;> cases e; exact ⟨_, _, rfl, rfl, cPow_ok (by assumption), rfl⟩) fun a b H Q c q => ⟨a, b, rfl, rfl, c, q⟩
theorem p_shl : Op2 K uShl oShl := p_int CPow (fun a b => a * 2 ^ b.toNat) (fun x y d e => by unfold oShl at e; split at e <;> (try split at e) <;> cases e; exact ⟨_, _, rfl, rfl, cPow_ok (by assumption), rfl⟩) fun a b H Q c q => ⟨a, b, rfl, rfl, c, q⟩
theorem p_and : Op2 K uAnd oAnd := p_int (fun _ _ => True) Builtin.bitAnd (fun x y d e => by unfold oAnd at e; split at e <;> cases e; exact ⟨_, _, rfl, rfl, trivial, rfl⟩) fun a b H Q _ q => ⟨a, b, rfl, rfl, q⟩
theorem p_xor : Op2 K uXor oXor := p_int (fun _ _ => True) Builtin.bitXor (fun x y d e => by unfold oXor at e; split at e <;> cases e; exact ⟨_, _, rfl, rfl, trivial, rfl⟩) fun a b H Q _ q => ⟨a, b, rfl, rfl, q⟩
theorem p_lt : Op2 K uLt oLt := p_cmp (fun a b => decide (a < b)) (fun x y d e => by unfold oLt at e; split at e <;> cases e; exact ⟨_, _, rfl, rfl, rfl⟩) fun a b H Q q => ⟨a, b, rfl, rfl, q⟩
theorem p_le : Op2 K uLe oLe := p_cmp (fun a b => decide (a ≤ b)) (fun x y d e => by unfold oLe at e; split at e <;> cases e; exact ⟨_, _, rfl, rfl, rfl⟩) fun a b H Q q => ⟨a, b, rfl, rfl, q⟩
theorem p_gt : Op2 K uGt oGt := p_cmp (fun a b => decide (b < a)) (fun x y d e => by unfold oGt at e; split at e <;> cases e; exact ⟨_, _, rfl, rfl, rfl⟩) fun a b H Q q => ⟨a, b, rfl, rfl, q⟩
theorem p_ge : Op2 K uGe oGe := p_cmp (fun a b => decide (b ≤ a)) (fun x y d e => by unfold oGe at e; split at e <;> cases e; exact ⟨_, _, rfl, rfl, rfl⟩) fun a b H Q q => ⟨a, b, rfl, rfl, q⟩
theorem p_fdv : Op2 K uFdv oFdv := p_int (fun _ b => 0 < b ∧ b < 2 ^ 64) (· / ·) (fun x y d e => by unfold oFdv at e; split at e <;> (try split at e) <;> cases e; exact ⟨_, _, rfl, rfl, by assumption, rfl⟩) fun a b H Q c q => by
  exact .inr ⟨a, b, rfl, rfl, wide_div (b := 64) c.1 (by omega) (by decide) (by decide), q⟩
/-- what two values' comparison is -/
theorem eq_sem {Γ : Gam} {σ : L2.St} {H : Hp} {st : Ss} {p : Pd} {v1 v2 : V} {x y : AV} {b : Bool} {r1 r2 : Prop} (W m as bs : List Addr) (q1 : Rp K H W m [v1] [x] as) (q2 : Rp K H W m [v2] [y] bs) (e : eqA x y = some b) :
    (scal v1 v2 = true ∧ decide (v1 = v2) = b) ∨ (∃ d d', Dp K H v1 d ∧ Dp K H v2 d' ∧ SeqAt.shaped d = true ∧ SeqAt.shaped d' = true ∧ PyData.eqv d d' = b) := by
  unfold eqA at e
  split at e
  · cases e
    obtain rfl := q1.int_i
    obtain rfl := q2.int_i
    exact .inl ⟨rfl, by simp⟩
  · cases e
    obtain rfl := q1.str_i
    obtain rfl := q2.str_i
    exact .inl ⟨rfl, by simp⟩
  · cases e
    obtain rfl := q1.bl_i
    obtain rfl := q2.bl_i
    exact .inl ⟨rfl, by simp⟩
  · split at e
    · cases e
      rename_i c
      obtain ⟨c1, c2⟩ := Bool.and_eq_true_iff.mp c
      obtain ⟨c3, c4⟩ := Bool.and_eq_true_iff.mp c1
      obtain ⟨c5, c6⟩ := Bool.and_eq_true_iff.mp c2
      exact .inr ⟨_, _, q1.dp c3, q2.dp c5, c4, c6, rfl⟩
    · cases e
theorem p_eq : Op2 K (uEq K) oEq := by
  intro Γ σ H st p m ar am ao ab v1 v2 x y d a1 a2 Q R0 r1 r2 e h
  replace R0 := R0.nob
  unfold oEq at e
  obtain ⟨b, e1, rfl⟩ := Option.map_eq_some_iff.mp e
  rcases eq_sem (Γ := Γ) (σ := σ) (st := st) (p := p) (r1 := True) (r2 := True) _ _ _ _ r1 r2 e1 with ⟨s, eb⟩ | ⟨d1, d2, h1, h2, s1, s2, eb⟩
  · subst eb
    exact .inl ⟨s, h _ _ (R0.rel.bl _)⟩
  · subst eb
    exact .inr ⟨d1, d2, h1, h2, s1, s2, h _ _ (R0.rel.bl _)⟩
theorem p_ne : Op2 K (uNe K) oNe := by
  intro Γ σ H st p m ar am ao ab v1 v2 x y d a1 a2 Q R0 r1 r2 e h
  replace R0 := R0.nob
  unfold oNe at e
  obtain ⟨b, e1, rfl⟩ := Option.map_eq_some_iff.mp e
  rcases eq_sem (Γ := Γ) (σ := σ) (st := st) (p := p) (r1 := True) (r2 := True) _ _ _ _ r1 r2 e1 with ⟨s, eb⟩ | ⟨d1, d2, h1, h2, s1, s2, eb⟩
  · subst eb
    exact .inl ⟨s, h _ _ (R0.rel.bl _)⟩
  · subst eb
    exact .inr ⟨d1, d2, h1, h2, s1, s2, h _ _ (R0.rel.bl _)⟩
theorem isN_v {H : Hp} {W m as : List Addr} {v : V} {x : AV} (r : Rp K H W m [v] [x] as) : decide (v = .non) = isN x := by
  cases r <;> rfl
theorem p_is : Op2 K uIsN oIs := by
  intro Γ σ H st p m ar am ao ab v1 v2 x y d a1 a2 Q R0 r1 r2 e h
  replace R0 := R0.nob
  unfold oIs at e
  split at e
  · cases e
    obtain rfl := r2.non_i
    rw [← isN_v r1] at h
    exact .inl ⟨rfl, h _ _ (R0.rel.bl _)⟩
  · cases e
    obtain rfl := r1.bl_i
    obtain rfl := r2.bl_i
    exact .inr ⟨_, _, rfl, rfl, h _ _ (R0.rel.bl _)⟩
  · cases e
theorem p_nis : Op2 K uNotN oNis := by
  intro Γ σ H st p m ar am ao ab v1 v2 x y d a1 a2 Q R0 r1 r2 e h
  replace R0 := R0.nob
  unfold oNis at e
  split at e
  · cases e
    obtain rfl := r2.non_i
    rw [← isN_v r1] at h
    exact .inl ⟨rfl, h _ _ (R0.rel.bl _)⟩
  · cases e
    obtain rfl := r1.bl_i
    obtain rfl := r2.bl_i
    exact .inr ⟨_, _, rfl, rfl, h _ _ (R0.rel.bl _)⟩
  · cases e
end
end Fk
/-! ## expressions and statements -/
namespace Fk
open PySem PySem.Spec PyProof.Rows L2
def aNil : M (List AV) := fun st => .ok [] st
def aCons (a : M AV) (r : M (List AV)) : M (List AV) := fun st => (a st).bind fun x s1 => (r s1).bind fun xs s2 => .ok (x :: xs) s2
def eTup (a : M (List AV)) : M AV := fun st => (a st).bind fun xs s1 => if xs.length ≤ 16777216 then .ok (.tup xs) s1 else .bad
def eLst (a : M (List AV)) : M AV := fun st => (a st).bind fun xs s1 => if xs.length ≤ 16777216 then .ok (.lst false xs) s1 else .bad
def eLstO (a : M (List AV)) : M AV := fun st => (a st).bind fun xs s1 => if xs.length ≤ 16777216 then .ok (.lst true xs) s1 else .bad
def tNotM (a : M Bool) : M Bool := fun st => (a st).bind fun x s1 => .ok (!x) s1
def tAndM (a b : M Bool) : M Bool := fun st => (a st).bind fun x s1 => bif x then b s1 else .ok false s1
def tOrM (a b : M Bool) : M Bool := fun st => (a st).bind fun x s1 => bif x then .ok true s1 else b s1
def asB : AV → Option Bool
  | .bl b => some b
  | _ => none
@[simp] theorem asB_bl (b : Bool) : asB (.bl b) = some b := rfl
def eAnd (a b : M AV) : M AV := fun st => (a st).bind fun x s1 => (ofO (asB x) s1).bind fun c s2 => bif c then b s2 else .ok (.bl false) s2
def eOr (a b : M AV) : M AV := fun st => (a st).bind fun x s1 => (ofO (asB x) s1).bind fun c s2 => bif c then .ok (.bl true) s2 else b s2
def oNot (x : AV) : Option AV := (asB x).map fun b => AV.bl (!b)
def eIf (t : M Bool) (a b : M AV) : M AV := fun st => (t st).bind fun c s1 => bif c then a s1 else b s1
def eChn (f g : AV → AV → Option AV) (a b c : M AV) : M AV := fun st => (a st).bind fun x s1 => (b s1).bind fun y s2 => (ofO ((f x y).bind asB) s2).bind fun k s3 => bif k then (c s3).bind fun z s4 => ofO (g y z) s4 else .ok (.bl false) s3
def oNeg : AV → Option AV
  | .int i => some (.int (-i))
  | _ => none
def sNx : M Fl := fun st => .ok .nx st
def sSeq (a b : M Fl) : M Fl := fun st => (a st).bind fun f s1 => match f with
  | .nx => b s1
  | f => .ok f s1
def sAsg (i : Nat) (e : M AV) : M Fl := fun st => (e st).bind fun d s1 => .ok .nx ⟨setSl s1.r i (.im d), s1.s⟩
def sAsgO (i : Nat) (e : M AV) : M Fl := fun st => (e st).bind fun d s1 => .ok .nx ⟨setSl s1.r i (.ow d), s1.s⟩
def sExp (e : M AV) : M Fl := fun st => (e st).bind fun _ s1 => .ok .nx s1
def sRet (e : M AV) : M Fl := fun st => (e st).bind fun d s1 => .ok (.rt d) s1
def sIf (t : M Bool) (a b : M Fl) : M Fl := fun st => (t st).bind fun c s1 => bif c then a s1 else b s1
def sBrk : M Fl := fun st => .ok .bk st
def sCnt : M Fl := fun st => .ok .ct st
section
variable {X : Cx} {Γ : Gam} {W : WX} {σ : L2.St} {H : Hp} {st : Ss} {p : Pd} {K : PySem.W.Frag} {pos : Pos}
theorem Rel.rot {v : V} {x : AV} {vs iv : List V} {xs ix : List AV} (hl : vs.length = xs.length) (R : Rel K Γ σ H st { p with iv := vs ++ v :: iv, ix := xs ++ x :: ix }) : Rel K Γ σ H st { p with iv := v :: vs ++ iv, ix := x :: xs ++ ix } := by
  obtain ⟨m, ar, am, ao, ab, R⟩ := R
  refine ⟨m, ar, am, ao, ab, R.setI (p := { p with iv := vs ++ v :: iv, ix := xs ++ x :: ix }) ?_⟩
  obtain ⟨a1, a2, e, r1, r2⟩ := Rp.app_inv hl R.ri
  obtain ⟨e1, e2⟩ := List.append_eq_nil_iff.mp e.symm
  subst e1 e2
  exact r2.head0.1.cons0 (r1.app r2.head0.2)
theorem s_nil : PA X [] (rdA X.K Γ W aNil) := by
  refine pa_imp pa_nil fun σ H Q h => ?_
  obtain ⟨st, p, R, h⟩ := h
  exact h [] H rfl R.nob
theorem cons_in {ma : M AV} {mr : M (List AV)} {Q : List V → Hp → Prop} (h : rdA K Γ W (aCons ma mr) σ H Q) : tCons (rdE K Γ W ma) (rdA K Γ W mr) σ H Q := by
  obtain ⟨st, p, R, h⟩ := h
  refine ⟨st, p, R, ?_⟩
  unfold aCons at h
  cases ea : ma st with
  | bad => rw [ea] at h; exact h
  | err c s1 => rw [ea] at h; exact h
  | ok x s1 =>
    rw [ea] at h
    simp only [Res.bind_ok] at h
    intro v H1 R1
    refine ⟨s1, _, R1, ?_⟩
    cases er : mr s1 with
    | bad => rw [er] at h; exact h
    | err c s2 =>
      rw [er] at h
      intro H2 R2
      exact h H2 R2.drop
    | ok xs s2 =>
      rw [er] at h
      simp only [Res.bind_ok] at h
      intro vs H2 hl R2
      exact h (v :: vs) H2 (by simp [hl]) (Rel.rot (p := p.nob) hl R2)
theorem s_cons {e : Expr} {es : List Expr} {ma : M AV} {mr : M (List AV)} (ha : PE X e (rdE X.K Γ W ma)) (hr : PA X es (rdA X.K Γ W mr)) (hs : starEach (e :: es) X.env = (false, eval e X.env) :: starEach es X.env := by rfl) : PA X (e :: es) (rdA X.K Γ W (aCons ma mr)) :=
  pa_imp (pa_cons ha hr hs) fun σ H Q h => cons_in h
theorem Rel.args {vs : List V} {xs : List AV} (hl : vs.length = xs.length) (R : Rel K Γ σ H st { p with iv := vs ++ p.iv, ix := xs ++ p.ix }) : ∃ m ar am ao ab, Rl K Γ σ H st p m ar am ao ab ∧ Rp K H (wOf Γ ar am ao) m vs xs [] := by
  obtain ⟨m, ar, am, ao, ab, R⟩ := R
  obtain ⟨a1, a2, e, r1, r2⟩ := Rp.app_inv hl R.ri
  obtain ⟨e1, e2⟩ := List.append_eq_nil_iff.mp e.symm
  subst e1 e2
  exact ⟨m, ar, am, ao, ab, R.setI (p := { p with iv := vs ++ p.iv, ix := xs ++ p.ix }) r2, r1⟩
theorem s_tup {es : List Expr} {k : Nat} {ma : M (List AV)} (h : PA X es (rdA X.K Γ W ma)) : PE X (.Tuple es k pos) (rdE X.K Γ W (eTup ma)) := by
  refine pe_imp (pe_tup h) fun σ H Q h => ?_
  obtain ⟨st, p, R, h⟩ := h
  refine ⟨st, p, R, ?_⟩
  unfold eTup at h
  cases ea : ma st with
  | bad => rw [ea] at h; exact h
  | err c s1 => rw [ea] at h; exact h
  | ok xs s1 =>
    rw [ea] at h
    simp only [Res.bind_ok] at h
    intro vs H1 hl R1
    by_cases c : xs.length ≤ 16777216
    · rw [if_pos c] at h
      obtain ⟨m, ar, am, ao, ab, R2, r⟩ := Rel.args (p := p.nob) hl R1
      exact ⟨by rw [hl, mx_eq]; exact c, fun q hq => h _ _ (R2.tup hq r).rel⟩
    · rw [if_neg c] at h; exact h.elim
theorem s_lst {es : List Expr} {ma : M (List AV)} (h : PA X es (rdA X.K Γ W ma)) : PE X (.List es pos) (rdE X.K Γ W (eLst ma)) := by
  refine pe_imp (pe_lst h) fun σ H Q h => ?_
  obtain ⟨st, p, R, h⟩ := h
  refine ⟨st, p, R, ?_⟩
  unfold eLst at h
  cases ea : ma st with
  | bad => rw [ea] at h; exact h
  | err c s1 => rw [ea] at h; exact h
  | ok xs s1 =>
    rw [ea] at h
    simp only [Res.bind_ok] at h
    intro vs H1 hl R1
    by_cases c : xs.length ≤ 16777216
    · rw [if_pos c] at h
      obtain ⟨m, ar, am, ao, ab, R2, r⟩ := Rel.args (p := p.nob) hl R1
      exact ⟨by rw [hl, mx_eq]; exact c, fun q hq => h _ _ (R2.lst hq r).rel⟩
    · rw [if_neg c] at h; exact h.elim
theorem Rl.newLst {m ar am ao ab : List Addr} (R : Rl K Γ σ H st p m ar am ao ab) {q : Addr} {vs : List V} {xs : List AV} (h : H q = none) (r : Rp K H (wOf Γ ar am ao) m vs xs []) : Rel K Γ σ (upd H q (.lst vs)) st (p.own (.ref q) (.lst true xs)) :=
  ⟨m, ar, am, q :: ao, ab, R.newO (o := .lst vs) h fun t e => .lsO e (t.rp0 r) .nil⟩
theorem s_lstO {es : List Expr} {ma : M (List AV)} (h : PA X es (rdA X.K Γ W ma)) : PE X (.List es pos) (rdO X.K Γ W (eLstO ma)) := by
  refine pe_imp (pe_lst h) fun σ H Q h => ?_
  obtain ⟨st, p, R, h⟩ := h
  refine ⟨st, p, R, ?_⟩
  unfold eLstO at h
  cases ea : ma st with
  | bad => rw [ea] at h; exact h
  | err c s1 => rw [ea] at h; exact h
  | ok xs s1 =>
    rw [ea] at h
    simp only [Res.bind_ok] at h
    intro vs H1 hl R1
    by_cases c : xs.length ≤ 16777216
    · rw [if_pos c] at h
      obtain ⟨m, ar, am, ao, ab, R2, r⟩ := Rel.args (p := p.nob) hl R1
      exact ⟨by rw [hl, mx_eq]; exact c, fun q hq => h _ _ (R2.newLst hq r)⟩
    · rw [if_neg c] at h; exact h.elim
/-! tests -/
theorem s_not {a : Expr} {ma : M Bool} (h : PT X a (rdT X.K Γ W ma)) : PT X (.UnaryOp .Not a pos) (rdT X.K Γ W (tNotM ma)) := by
  refine pt_imp (pt_not h) fun σ H Q h => ?_
  obtain ⟨st, p, R, h⟩ := h
  refine ⟨st, p, R, ?_⟩
  unfold tNotM at h
  cases ea : ma st with
  | bad => rw [ea] at h; exact h
  | err c s1 => rw [ea] at h; exact h
  | ok b s1 => rw [ea] at h; exact h
theorem s_and1 {a : Expr} {ma : M Bool} (h : PT X a (rdT X.K Γ W ma)) : PW X (.BoolOp .And [a] pos) (rdT X.K Γ W ma) := pw_and1 h
theorem s_or1 {a : Expr} {ma : M Bool} (h : PT X a (rdT X.K Γ W ma)) : PW X (.BoolOp .Or [a] pos) (rdT X.K Γ W ma) := pw_or1 h
theorem Rel.nob2 (R : Rel K Γ σ H st p.nob) : Rel K Γ σ H st p.nob.nob := R
theorem s_and {a b : Expr} {rest : List Expr} {ma mb : M Bool} (h : PT X a (rdT X.K Γ W ma)) (h2 : PW X (.BoolOp .And (b :: rest) pos) (rdT X.K Γ W mb)) : PW X (.BoolOp .And (a :: b :: rest) pos) (rdT X.K Γ W (tAndM ma mb)) := by
  refine pw_imp (pw_and h h2) fun σ H Q h => ?_
  obtain ⟨st, p, R, h⟩ := h
  refine ⟨st, p, R, ?_⟩
  unfold tAndM at h
  cases ea : ma st with
  | bad => rw [ea] at h; exact h
  | err c s1 => rw [ea] at h; exact h
  | ok b s1 =>
    rw [ea] at h
    simp only [Res.bind_ok] at h
    intro H1 R1
    cases b with
    | true => rw [if_pos rfl]; exact ⟨s1, p.nob, R1, h⟩
    | false => rw [if_neg Bool.false_ne_true]; exact h H1 R1
theorem s_or {a b : Expr} {rest : List Expr} {ma mb : M Bool} (h : PT X a (rdT X.K Γ W ma)) (h2 : PW X (.BoolOp .Or (b :: rest) pos) (rdT X.K Γ W mb)) : PW X (.BoolOp .Or (a :: b :: rest) pos) (rdT X.K Γ W (tOrM ma mb)) := by
  refine pw_imp (pw_or h h2) fun σ H Q h => ?_
  obtain ⟨st, p, R, h⟩ := h
  refine ⟨st, p, R, ?_⟩
  unfold tOrM at h
  cases ea : ma st with
  | bad => rw [ea] at h; exact h
  | err c s1 => rw [ea] at h; exact h
  | ok b s1 =>
    rw [ea] at h
    simp only [Res.bind_ok] at h
    intro H1 R1
    cases b with
    | true => rw [if_pos rfl]; exact h H1 R1
    | false => rw [if_neg Bool.false_ne_true]; exact ⟨s1, p.nob, R1, h⟩
/-! .. as values -/
theorem asB_v {v : V} {x : AV} {b : Bool} {W m as : List Addr} (r : Rp K H W m [v] [x] as) (e : asB x = some b) : v = .bl b := by
  cases x with
  | bl c =>
    have e2 : c = b := by simpa using e
    rw [r.bl_i, e2]
  | _ => cases e
theorem s_vand {a b : Expr} {rest : List Expr} {ma mb : M AV} (h : PE X a (rdE X.K Γ W ma)) (h2 : PE X (.BoolOp .And (b :: rest) pos) (rdE X.K Γ W mb)) : PE X (.BoolOp .And (a :: b :: rest) pos) (rdE X.K Γ W (eAnd ma mb)) := by
  refine pe_imp (pe_and h h2) fun σ H Q h => ?_
  obtain ⟨st, p, R, h⟩ := h
  refine ⟨st, p, R, ?_⟩
  unfold eAnd at h
  cases ea : ma st with
  | bad => rw [ea] at h; exact h
  | err c s1 => rw [ea] at h; exact h
  | ok x s1 =>
    rw [ea] at h
    simp only [Res.bind_ok] at h
    intro v H1 R1
    cases eb : asB x with
    | none => rw [eb] at h; exact h.elim
    | some c =>
      rw [eb] at h
      simp only [ofO_some, Res.bind_ok] at h
      obtain ⟨m, ar, am, ao, ab, R2, r⟩ := R1.one
      refine ⟨c, asB_v r eb, ?_⟩
      cases c with
      | true => rw [if_pos rfl]; exact ⟨s1, p.nob, R2.rel, h⟩
      | false => rw [if_neg Bool.false_ne_true]; exact h _ _ (R2.rel.bl _)
theorem s_vor {a b : Expr} {rest : List Expr} {ma mb : M AV} (h : PE X a (rdE X.K Γ W ma)) (h2 : PE X (.BoolOp .Or (b :: rest) pos) (rdE X.K Γ W mb)) : PE X (.BoolOp .Or (a :: b :: rest) pos) (rdE X.K Γ W (eOr ma mb)) := by
  refine pe_imp (L2.pe_or h h2) fun σ H Q h => ?_
  obtain ⟨st, p, R, h⟩ := h
  refine ⟨st, p, R, ?_⟩
  unfold eOr at h
  cases ea : ma st with
  | bad => rw [ea] at h; exact h
  | err c s1 => rw [ea] at h; exact h
  | ok x s1 =>
    rw [ea] at h
    simp only [Res.bind_ok] at h
    intro v H1 R1
    cases eb : asB x with
    | none => rw [eb] at h; exact h.elim
    | some c =>
      rw [eb] at h
      simp only [ofO_some, Res.bind_ok] at h
      obtain ⟨m, ar, am, ao, ab, R2, r⟩ := R1.one
      refine ⟨c, asB_v r eb, ?_⟩
      cases c with
      | true => rw [if_pos rfl]; exact h _ _ (R2.rel.bl _)
      | false => rw [if_neg Bool.false_ne_true]; exact ⟨s1, p.nob, R2.rel, h⟩
theorem s_vone {op : BoolOp} {a : Expr} {ma : M AV} (h : PE X a (rdE X.K Γ W ma)) : PE X (.BoolOp op [a] pos) (rdE X.K Γ W ma) := pe_one h
/-- one value turned into another -/
def Op1 (K : PySem.W.Frag) (r : V → Hp → VK → Prop) (f : AV → Option AV) : Prop := ∀ (Γ : Gam) (σ : L2.St) (H : Hp) (st : Ss) (p : Pd) (v1 : V) (x d : AV) (Q : VK), Rel K Γ σ H st (p.sh v1 x) → f x = some d → (∀ v H', Rel K Γ σ H' st (p.sh v d) → Q v H') → r v1 H Q
theorem one_in {ma : M AV} {Q : VK} {f : AV → Option AV} {r : V → Hp → VK → Prop} (ho : Op1 K r f) (h : rdE K Γ W (e1 f ma) σ H Q) : rdE K Γ W ma σ H fun x H1 => r x H1 Q := by
  obtain ⟨st, p, R, h⟩ := h
  refine ⟨st, p, R, ?_⟩
  unfold e1 at h
  cases ea : ma st with
  | bad => rw [ea] at h; exact h
  | err c s1 => rw [ea] at h; exact h
  | ok x s1 =>
    rw [ea] at h
    simp only [Res.bind_ok] at h
    intro v1 H1 R1
    cases ef : f x with
    | none => simp only [ef, ofO_none] at h
    | some d =>
      simp only [ef, ofO_some] at h
      exact ho Γ σ H1 s1 _ v1 x d Q R1 ef h
theorem s_vnot {a : Expr} {ma : M AV} (h : PE X a (rdE X.K Γ W ma)) : PE X (.UnaryOp .Not a pos) (rdE X.K Γ W (e1 oNot ma)) := by
  refine pe_imp (pe_not h) fun σ H Q h => ?_
  refine one_in (r := fun x H1 Q => ∃ c, x = .bl c ∧ Q (.bl (!c)) H1) ?_ h
  intro Γ σ H st p v1 x d Q R e h
  obtain ⟨m, ar, am, ao, ab, R2, r⟩ := R.one
  unfold oNot at e
  obtain ⟨b, eb, rfl⟩ := Option.map_eq_some_iff.mp e
  exact ⟨b, asB_v r eb, h _ _ (R2.rel.bl _)⟩
theorem s_neg {a : Expr} {ma : M AV} (h : PE X a (rdE X.K Γ W ma)) : PE X (.UnaryOp .USub a pos) (rdE X.K Γ W (e1 oNeg ma)) := by
  refine pe_imp (pe_un un_neg h) fun σ H Q h => ?_
  refine one_in (r := fun x H1 Q => (rU fun i => .int (-i)) x H1 Q) ?_ h
  intro Γ σ H st p v1 x d Q R e h
  obtain ⟨m, ar, am, ao, ab, R2, r⟩ := R.one
  unfold oNeg at e
  split at e
  · cases e
    exact ⟨_, r.int_i, h _ _ (R2.rel.int _)⟩
  · cases e
theorem s_ife {c a b : Expr} {mc : M Bool} {ma mb : M AV} (hc : PT X c (rdT X.K Γ W mc)) (ha : PE X a (rdE X.K Γ W ma)) (hb : PE X b (rdE X.K Γ W mb)) : PE X (.IfExp c a b pos) (rdE X.K Γ W (eIf mc ma mb)) := by
  refine pe_imp (pe_ifExp hc ha hb) fun σ H Q h => ?_
  obtain ⟨st, p, R, h⟩ := h
  refine ⟨st, p, R, ?_⟩
  unfold eIf at h
  cases ea : mc st with
  | bad => rw [ea] at h; exact h
  | err c s1 => rw [ea] at h; exact h
  | ok b s1 =>
    rw [ea] at h
    simp only [Res.bind_ok] at h
    intro H1 R1
    cases b with
    | true => rw [if_pos rfl]; exact ⟨s1, p.nob, R1, h⟩
    | false => rw [if_neg Bool.false_ne_true]; exact ⟨s1, p.nob, R1, h⟩
theorem chn_in {r r' : R2} {f g : AV → AV → Option AV} {ma mb mc : M AV} {Q : VK} (ho : Op2 K r f) (ho' : Op2 K r' g) (h : rdE K Γ W (eChn f g ma mb mc) σ H Q) : tChain r r' (rdE K Γ W ma) (rdE K Γ W mb) (rdE K Γ W mc) σ H Q := by
  obtain ⟨st, p, R, h⟩ := h
  refine ⟨st, p, R, ?_⟩
  unfold eChn at h
  cases ea : ma st with
  | bad => rw [ea] at h; exact h
  | err c s1 => rw [ea] at h; exact h
  | ok x s1 =>
    rw [ea] at h
    simp only [Res.bind_ok] at h
    intro v1 H1 R1
    refine ⟨s1, _, R1, ?_⟩
    cases eb : mb s1 with
    | bad => rw [eb] at h; exact h
    | err c s2 =>
      rw [eb] at h
      intro H2 R2
      exact h H2 R2.drop
    | ok y s2 =>
      rw [eb] at h
      simp only [Res.bind_ok] at h
      intro v2 H2 R2
      cases ef : f x y with
      | none => simp only [ef, Option.bind_none, ofO_none, Res.bind_bad] at h
      | some d =>
        simp only [ef, Option.bind_some] at h
        cases ek : asB d with
        | none => simp only [ek, ofO_none, Res.bind_bad] at h
        | some k =>
          simp only [ek, ofO_some, Res.bind_ok] at h
          obtain ⟨m, ar, am, ao, ab, R3, r1, r2⟩ := R2.two
          refine ho Γ σ H2 s2 (p.nob.sh v2 y) m ar am ao ab v1 v2 x y d _ _ _ (R3.setI (r2.cons0 R3.ri)) r1 r2 ef ?_
          intro v H3 R4
          obtain ⟨m, ar, am, ao, ab, R5, r⟩ := R4.one
          refine ⟨k, asB_v r ek, ?_⟩
          cases k with
          | false =>
            rw [if_neg Bool.false_ne_true]
            exact h _ _ (R5.rel.drop.bl _)
          | true =>
            rw [if_pos rfl]
            simp only [cond_true] at h
            refine ⟨s2, _, R5.rel, ?_⟩
            cases ec : mc s2 with
            | bad => rw [ec] at h; exact h
            | err c s3 =>
              rw [ec] at h
              intro H4 R6
              exact h H4 R6.drop
            | ok z s3 =>
              rw [ec] at h
              simp only [Res.bind_ok] at h
              intro v3 H4 R6
              cases eg : g y z with
              | none => simp only [eg, ofO_none] at h
              | some d2 =>
                simp only [eg, ofO_some] at h
                obtain ⟨m, ar, am, ao, ab, R7, r1, r2⟩ := R6.two
                exact ho' Γ σ H4 s3 _ m ar am ao ab v2 v3 y z d2 _ _ Q R7 r1 r2 eg h
theorem s_chn {a b c : Expr} {op op' : CmpOp} {r r' : R2} {f g : AV → AV → Option AV} {ma mb mc : M AV} (hr : OpR X (compareOp op) r) (hr' : OpR X (compareOp op') r') (ho : Op2 X.K r f) (ho' : Op2 X.K r' g) (ha : PE X a (rdE X.K Γ W ma)) (hb : PE X b (rdE X.K Γ W mb)) (hc : PE X c (rdE X.K Γ W mc))
    (hp : ∀ {t t' : R2} {u1 u2 u3 : TE}, OpR X (compareOp op) t → OpR X (compareOp op') t' → PE X a u1 → PE X b u2 → PE X c u3 → PE X (.Compare a [op, op'] [b, c] pos) (tChain t t' u1 u2 u3)) : PE X (.Compare a [op, op'] [b, c] pos) (rdE X.K Γ W (eChn f g ma mb mc)) :=
  pe_imp (hp hr hr' ha hb hc) fun σ H Q h => chn_in ho ho' h
end
section
variable {X : Cx} {Γ : Gam} {W : WX} {σ : L2.St} {H : Hp} {st : Ss} {p : Pd} {K : PySem.W.Frag} {pos : Pos}
theorem s_tchn {a b c : Expr} {op op' : CmpOp} {r r' : R2} {f g : AV → AV → Option AV} {ma mb mc : M AV} (hr : OpR X (compareOp op) r) (hr' : OpR X (compareOp op') r') (ho : Op2 X.K r f) (ho' : Op2 X.K r' g) (ha : PE X a (rdE X.K Γ W ma)) (hb : PE X b (rdE X.K Γ W mb)) (hc : PE X c (rdE X.K Γ W mc))
    (hp : ∀ {t t' : R2} {u1 u2 u3 : TE}, OpR X (compareOp op) t → OpR X (compareOp op') t' → PE X a u1 → PE X b u2 → PE X c u3 → PT X (.Compare a [op, op'] [b, c] pos) (tTest (tChain t t' u1 u2 u3))) : PT X (.Compare a [op, op'] [b, c] pos) (rdT X.K Γ W (tOf (eChn f g ma mb mc))) :=
  pt_imp (hp hr hr' ha hb hc) fun σ H Q h => by
    obtain ⟨st, p, R, h⟩ := tOf_in h
    exact chn_in ho ho' ⟨st, p, R, h⟩
/-! statements -/
theorem s_end : PSs X [] (rdS X.K Γ W sNx) := by
  refine pss_imp pss_nil fun D σ H h => ?_
  obtain ⟨st, p, R, hp, h⟩ := h
  exact h σ H R
theorem s_seq {s : Stmt} {r : List Stmt} {ma mb : M Fl} (h1 : PS X s (rdS X.K Γ W ma)) (h2 : PSs X r (rdS X.K Γ W mb)) : PSs X (s :: r) (rdS X.K Γ W (sSeq ma mb)) := by
  refine pss_imp (pss_cons h1 h2) fun D σ H h => ?_
  obtain ⟨st, p, R, hp, h⟩ := h
  refine ⟨st, p, R, hp, ?_⟩
  unfold sSeq at h
  cases ea : ma st with
  | bad => rw [ea] at h; exact h
  | err c s1 => rw [ea] at h; exact h
  | ok f s1 =>
    rw [ea] at h
    simp only [Res.bind_ok] at h
    cases f with
    | nx => exact fun σ' H' R' => ⟨s1, p, R', hp, h⟩
    | rt d => exact h
    | bk => exact h
    | ct => exact h
theorem s_one {s : Stmt} {ma : M Fl} (h1 : PS X s (rdS X.K Γ W ma)) : PSs X [s] (rdS X.K Γ W ma) := pss_one h1
theorem s_pass : PS X (.Pass pos) (rdS X.K Γ W sNx) := by
  refine ps_imp ps_pass fun D σ H h => ?_
  obtain ⟨st, p, R, hp, h⟩ := h
  exact h σ H R
theorem s_brk : PS X (.Break pos) (rdS X.K Γ W sBrk) := by
  refine ps_imp ps_break fun D σ H h => ?_
  obtain ⟨st, p, R, hp, h⟩ := h
  exact h σ H R
theorem s_cnt : PS X (.Continue pos) (rdS X.K Γ W sCnt) := by
  refine ps_imp ps_continue fun D σ H h => ?_
  obtain ⟨st, p, R, hp, h⟩ := h
  exact h σ H R
theorem nob_sh {v : V} {d : AV} (hp : p.nob = p) : p.nob.sh v d = p.sh v d := by rw [hp]
theorem s_ret {e : Expr} {m : M AV} (h : PE X e (rdE X.K Γ W m)) : PS X (.Return (some e) pos) (rdS X.K Γ W (sRet m)) := by
  refine ps_imp (ps_ret h) fun D σ H h => ?_
  obtain ⟨st, p, R, hp, h⟩ := h
  refine ⟨st, p, R, ?_⟩
  unfold sRet at h
  cases ea : m st with
  | bad => rw [ea] at h; exact h
  | err c s1 => rw [ea] at h; exact fun H' R' => h σ H' (hp ▸ R')
  | ok d s1 =>
    rw [ea] at h
    simp only [Res.bind_ok] at h
    exact fun v H' R' => h v σ H' (nob_sh hp ▸ R')
theorem s_retN : PS X (.Return none pos) (rdS X.K Γ W (sRet (eC .non))) := by
  refine ps_imp ps_retN fun D σ H h => ?_
  obtain ⟨st, p, R, hp, h⟩ := h
  exact h .non σ H R.non
theorem s_exp {e : Expr} {m : M AV} (h : PE X e (rdE X.K Γ W m)) (hs : swapsWith e none pos.line X.env = pure false := by rfl) : PS X (.Expr e pos) (rdS X.K Γ W (sExp m)) := by
  refine ps_imp (ps_expr h hs) fun D σ H h => ?_
  obtain ⟨st, p, R, hp, h⟩ := h
  refine ⟨st, p, R, ?_⟩
  unfold sExp at h
  cases ea : m st with
  | bad => rw [ea] at h; exact h
  | err c s1 => rw [ea] at h; exact fun H' R' => h σ H' (hp ▸ R')
  | ok d s1 =>
    rw [ea] at h
    simp only [Res.bind_ok] at h
    exact fun v H' R' => h σ H' (nob_sh hp ▸ R').drop
theorem s_if {c : Expr} {a b : List Stmt} {mc : M Bool} {ma mb : M Fl} (hc : PT X c (rdT X.K Γ W mc)) (ha : PSs X a (rdS X.K Γ W ma)) (hb : PSs X b (rdS X.K Γ W mb)) : PS X (.If c a b pos) (rdS X.K Γ W (sIf mc ma mb)) := by
  refine ps_imp (ps_if hc ha hb) fun D σ H h => ?_
  obtain ⟨st, p, R, hp, h⟩ := h
  refine ⟨st, p, R, ?_⟩
  unfold sIf at h
  cases ea : mc st with
  | bad => rw [ea] at h; exact h
  | err c s1 => rw [ea] at h; exact fun H' R' => h σ H' (hp ▸ R')
  | ok k s1 =>
    rw [ea] at h
    simp only [Res.bind_ok] at h
    intro H1 R1
    rw [hp] at R1
    cases k with
    | true => rw [if_pos rfl]; exact ⟨s1, p, R1, hp, h⟩
    | false => rw [if_neg Bool.false_ne_true]; exact ⟨s1, p, R1, hp, h⟩
/-- a value goes into a slot -/
theorem Rel.put {v : V} {d : AV} (R : Rel K Γ σ H st (p.sh v d)) (i : Nat) : Rel K Γ (σ.set i (some v)) H ⟨setSl st.r i (.im d), st.s⟩ p := by
  obtain ⟨m, ar, am, ao, ab, R⟩ := R
  obtain ⟨ar', h1, h2, h3⟩ := R.rs.drop i
  have nd := R.nd
  have fr := R.fr
  have t : Tr H H (wOf Γ ar am ao) (wOf Γ ar' am ao) m m [] := Tr.same fun c z => by
    simp only [wOf, List.mem_append] at z ⊢
    grind
  have rs : Rs K H (wOf Γ ar' am ao) m (σ.set i (some v)) (setSl st.r i (.im d)) ar' := by
    by_cases hi : i < st.r.length
    · exact (t.rs h3 (fun _ _ z => nomatch z)).setNo hi (t.rp0 R.ri.head0.1)
    · have e1 : ∀ (r : List Sl) (y : Sl) (i : Nat), ¬ i < r.length → setSl r i y = r := fun r y => by
        induction r with
        | nil => intro i _; rfl
        | cons x r ih => intro i hi; cases i with
          | zero => exact absurd (by simp) hi
          | succ i => rw [setSl_s, ih i (by simpa using hi)]
      have e2 : σ.set i (some v) = σ := List.set_eq_of_length_le (by rw [R.rs.len]; omega)
      rw [e1 _ _ i hi, e2]
      rw [e1 _ _ i hi] at h3
      exact t.rs h3 (fun _ _ z => nomatch z)
  refine ⟨m, ar', am, ao, ab, rs, t.rp R.rm (fun _ _ z => nomatch z), t.rp0 R.ri.head0.2, t.rp R.ro (fun _ _ z => nomatch z), t.rp R.rb (fun _ _ z => nomatch z), ?_, ?_, R.kp, R.pm, R.gu, R.tb⟩
  · simp only [wOf, List.nodup_append, List.mem_append] at nd ⊢
    grind
  · intro a ha
    have z := fr a
    simp only [List.mem_append] at z ha
    grind
theorem s_asg {i : Nat} {x : Str} {e : Expr} {m : M AV} {pos' : Pos} (hN : X.N.Nodup) (hi : X.N[i]? = some x) (hx : Loc X.env.scope x) (he : PE X e (rdE X.K Γ W m)) (hs : swapsWith e (some (.Name x pos')) pos.line X.env = pure false := by rfl) (hf : X.fn x = true ∨ X.env.scope.names.lookup x = some .local := by first | exact .inl rfl | exact .inr rfl | assumption) :
    PS X (.Assign [.Name x pos'] e pos) (rdS X.K Γ W (sAsg i m)) := by
  refine ps_imp (ps_set hN hi hx he hs hf) fun D σ H h => ?_
  obtain ⟨st, p, R, hp, h⟩ := h
  refine ⟨st, p, R, ?_⟩
  unfold sAsg at h
  cases ea : m st with
  | bad => rw [ea] at h; exact h
  | err c s1 => rw [ea] at h; exact fun H' R' => h σ H' (hp ▸ R')
  | ok d s1 =>
    rw [ea] at h
    simp only [Res.bind_ok] at h
    exact fun v H' R' => h _ H' (Rel.put (nob_sh hp ▸ R') i)
/-- an owned thing goes into a slot -/
theorem Rel.putO {v : V} {d : AV} (R : Rel K Γ σ H st (p.own v d)) (i : Nat) (hi : i < st.r.length) : Rel K Γ (σ.set i (some v)) H ⟨setSl st.r i (.ow d), st.s⟩ p := by
  obtain ⟨m, ar, am, ao, ab, R⟩ := R
  obtain ⟨ar', h1, h2, h3⟩ := R.rs.drop i
  obtain ⟨b, ao', eo, r1, r2⟩ := R.ro.head
  have nd := R.nd
  have fr := R.fr
  subst eo
  have t0 : Tr H H (wOf Γ ar am (b ++ ao')) (wOf Γ ar' am (b ++ ao')) m m [] := Tr.same fun c z => by
    simp only [wOf, List.mem_append] at z ⊢
    grind
  obtain ⟨a1, a2, ea, rs⟩ := (t0.rs h3 (fun _ _ z => nomatch z)).setOw hi (t0.rp r1 (fun _ _ z => nomatch z))
  subst ea
  have t : Tr H H (wOf Γ ar am (b ++ ao')) (wOf Γ (a1 ++ (b ++ a2)) am ao') m m [] := Tr.same fun c z => by
    simp only [wOf, List.mem_append] at z h1 ⊢
    grind
  have t1 : Tr H H (wOf Γ (a1 ++ a2) am (b ++ ao')) (wOf Γ (a1 ++ (b ++ a2)) am ao') m m [] := Tr.same fun c z => by
    simp only [wOf, List.mem_append] at z ⊢
    grind
  refine ⟨m, a1 ++ (b ++ a2), am, ao', ab, t1.rs rs (fun _ _ z => nomatch z), t.rp R.rm (fun _ _ z => nomatch z), t.rp0 R.ri, t.rp r2 (fun _ _ z => nomatch z), t.rp R.rb (fun _ _ z => nomatch z), ?_, ?_, R.kp, R.pm, R.gu, R.tb⟩
  · simp only [wOf, List.nodup_append, List.mem_append] at nd h1 h2 ⊢
    grind
  · intro a ha
    have z := fr a
    simp only [List.mem_append] at z ha h1
    grind
def sAsgOw (i : Nat) (e : M AV) : M Fl := fun st => (e st).bind fun d s1 => if i < s1.r.length then .ok .nx ⟨setSl s1.r i (.ow d), s1.s⟩ else .bad
theorem s_asgO {i : Nat} {x : Str} {e : Expr} {m : M AV} {pos' : Pos} (hN : X.N.Nodup) (hi : X.N[i]? = some x) (hx : Loc X.env.scope x) (he : PE X e (rdO X.K Γ W m)) (hs : swapsWith e (some (.Name x pos')) pos.line X.env = pure false := by rfl) (hf : X.fn x = true ∨ X.env.scope.names.lookup x = some .local := by first | exact .inl rfl | exact .inr rfl | assumption) :
    PS X (.Assign [.Name x pos'] e pos) (rdS X.K Γ W (sAsgOw i m)) := by
  refine ps_imp (ps_set hN hi hx he hs hf) fun D σ H h => ?_
  obtain ⟨st, p, R, hp, h⟩ := h
  refine ⟨st, p, R, ?_⟩
  unfold sAsgOw at h
  cases ea : m st with
  | bad => rw [ea] at h; exact h
  | err c s1 => rw [ea] at h; exact fun H' R' => h σ H' (hp ▸ R')
  | ok d s1 =>
    rw [ea] at h
    simp only [Res.bind_ok] at h
    by_cases c : i < s1.r.length
    · rw [if_pos c] at h
      intro v H' R'
      have e : p.nob.own v d = p.own v d := by rw [hp]
      rw [e] at R'
      exact h _ H' (Rel.putO R' i c)
    · rw [if_neg c] at h; exact h.elim
end
end Fk
/-! ## defs and their calls -/
namespace Fk
open PySem PySem.Spec PyProof.Rows L2
/-- what a def leaves: U is not touched, objects stand at m, own am -/
def Pst (K : PySem.W.Frag) (T : List (Addr × Str)) (U m am : List Addr) (H : Hp) (vs : List V) (xs S : List AV) (H' : Hp) : Prop := ∃ m' am', Rp K H' (U ++ am') m' vs xs [] ∧ Rp K H' (U ++ am') m' (m'.map V.ref) S am' ∧ (U ++ am').Nodup ∧
  (∀ a ∈ am', a ∈ am ∨ H a = none) ∧ (∀ a o, H a = some o → a ∉ am → ∃ o', H' a = some o' ∧ (NoTbl o → o' = o)) ∧ (∀ (l : Nat) a, m[l]? = some a → m'[l]? = some a) ∧ LamX.Tabs T H'
abbrev Fn := List AV → List AV → Res AV (List AV)
/-- a def that is worth f -/
def spM (K : PySem.W.Frag) (T : List (Addr × Str)) (n : Nat) (f : Fn) : Sp := fun vs H Q E => vs.length = n ∧ ∃ U m am xs S, Rp K H (U ++ am) m vs xs [] ∧ Rp K H (U ++ am) m (m.map V.ref) S am ∧ (U ++ am).Nodup ∧ (∀ a ∈ U, ∃ o, H a = some o ∧ mutO o = true) ∧ LamX.Tabs T H ∧
  match f xs S with
  | .ok d S' => ∀ v H', Pst K T U m am H [v] [d] S' H' → Q v H'
  | .err c S' => ∀ H', Pst K T U m am H [] [] S' H' → E (.ref (He.ga K c)) none H'
  | .bad => False
def fnM (n : Nat) (body : M Fl) : Fn := fun xs S => match body ⟨xs.map Sl.im ++ List.replicate n .no, S⟩ with
  | .ok (.rt d) st => .ok d st.s
  | .ok .nx st => .ok .non st.s
  | .err c st => .err c st.s
  | _ => .bad
section
variable {K : PySem.W.Frag} {Γ : Gam} {σ : L2.St} {H H' : Hp} {st : Ss} {p : Pd} {m ar am ao ab : List Addr} {vs : List V} {xs S : List AV}
theorem rs_args {W : List Addr} : ∀ {vs : List V} {xs : List AV} (n : Nat), Rp K H W m vs xs [] → Rs K H W m (vs.map some ++ List.replicate n none) (xs.map Sl.im ++ List.replicate n .no) []
  | [], xs, n, r => by
    obtain ⟨rfl, _⟩ := r.nil_inv'
    induction n with
    | zero => exact .nil
    | succ n ih => exact .no ih
  | v :: vs, [], n, r => by cases r.nil_inv.1
  | v :: vs, x :: xs, n, r => .im r.head0.1 (rs_args n r.head0.2)
/-- a def's entry -/
theorem ent {T : List (Addr × Str)} {U : List Addr} {n : Nat} (r1 : Rp K H (U ++ am) m vs xs []) (r2 : Rp K H (U ++ am) m (m.map V.ref) S am) (nd : (U ++ am).Nodup) (hu : ∀ a ∈ U, ∃ o, H a = some o ∧ mutO o = true) (tb : LamX.Tabs T H) :
    Rel K ⟨U, H, am, m, T⟩ (vs.map some ++ List.replicate n none) H ⟨xs.map Sl.im ++ List.replicate n .no, S⟩ {} := by
  have e : U ++ am = wOf ⟨U, H, am, m, T⟩ [] am [] := by simp [wOf]
  rw [e] at r1 r2 nd
  refine ⟨m, [], am, [], [], rs_args n r1, r2, .nil, .nil, .nil, nd, fun a ha => .inl (by simpa using ha), fun a o h _ => ⟨o, h, fun _ => rfl⟩, fun _ _ h => h, fun a ha => ⟨hu a ha, fun z => ?_⟩, tb⟩
  rw [← e] at nd
  exact (List.nodup_append.mp nd).2.2 a ha a z rfl
/-- .. and its end -/
theorem ext_ {U A0 m0 : List Addr} {H0 : Hp} {T : List (Addr × Str)} (R : Rel K ⟨U, H0, A0, m0, T⟩ σ H st p) (hv : p.iv = vs) (hx : p.ix = xs) : Pst K T U m0 A0 H0 vs xs st.s H := by
  obtain ⟨m, ar, am, ao, ab, R⟩ := R
  subst hv hx
  have h1 : ∀ b, b ∈ U ++ am → b ∈ wOf ⟨U, H0, A0, m0, T⟩ ar am ao := fun b z => by
    simp only [wOf, List.mem_append] at z ⊢
    grind
  refine ⟨m, am, R.ri.perm h1, R.rm.perm h1, ?_, fun a ha => R.fr a (by simp [ha]), R.kp, R.pm, R.tb⟩
  have nd := R.nd
  simp only [wOf, List.nodup_append, List.mem_append] at nd ⊢
  grind
/-- what is handed to a def -/
theorem Rl.enter (R : Rl K Γ σ H st p m ar am ao ab) (r : Rp K H (wOf Γ ar am ao) m vs xs []) : Rp K H ((Γ.U ++ (ar ++ ao)) ++ am) m vs xs [] ∧ Rp K H ((Γ.U ++ (ar ++ ao)) ++ am) m (m.map V.ref) st.s am ∧ ((Γ.U ++ (ar ++ ao)) ++ am).Nodup ∧
    (∀ a ∈ Γ.U ++ (ar ++ ao), ∃ o, H a = some o ∧ mutO o = true) ∧ LamX.Tabs Γ.T H := by
  have h1 : ∀ b, b ∈ (Γ.U ++ (ar ++ ao)) ++ am → b ∈ wOf Γ ar am ao := fun b z => by
    simp only [wOf, List.mem_append] at z ⊢
    grind
  refine ⟨r.perm h1, R.rm.perm h1, ?_, fun a ha => R.own a ?_, R.tb⟩
  · have nd := R.nd
    simp only [wOf, List.nodup_append, List.mem_append] at nd ⊢
    grind
  · simp only [wOf, List.mem_append] at ha ⊢
    grind
/-- back from it -/
theorem Rl.back (R : Rl K Γ σ H st p m ar am ao ab) {U : List Addr} (hU : U = Γ.U ++ (ar ++ ao)) (h : Pst K Γ.T U m am H vs xs S H') : ∃ m' am', Rl K Γ σ H' ⟨st.r, S⟩ p.nob m' ar am' ao [] ∧ Rp K H' (wOf Γ ar am' ao) m' vs xs [] := by
  subst hU
  obtain ⟨m', am', r1, r2, nd, fr, kp, pm, tb⟩ := h
  have w1 : ∀ b, b ∈ wOf Γ ar am' ao → b ∈ (Γ.U ++ (ar ++ ao)) ++ am' := fun b z => by
    simp only [wOf, List.mem_append] at z ⊢
    grind
  have k : Kp H H' am := ⟨fun b o e n t => by
    obtain ⟨o', e', f⟩ := kp b o e n
    rw [f t] at e'
    exact e', fun b hb => R.rm.there b hb⟩
  have t : Tr H H' (wOf Γ ar am ao) (wOf Γ ar am' ao) m m' am := by
    refine ⟨k, fun b hb => by simp only [wOf, List.mem_append]; grind, fun b ⟨o, e⟩ n z => ?_, pm⟩
    have f := fr b
    simp only [wOf, List.mem_append] at n z
    grind
  have dr : ∀ b ∈ ar, b ∉ am := fun b hb z => by
    have n := R.nd
    simp only [wOf, List.nodup_append, List.mem_append] at n
    grind
  have dq : ∀ b ∈ ao, b ∉ am := fun b hb z => by
    have n := R.nd
    simp only [wOf, List.nodup_append, List.mem_append] at n
    grind
  refine ⟨m', am', ⟨t.rs R.rs dr, r2.perm w1, t.rp0 R.ri, t.rp R.ro dq, .nil, ?_, fun a ha => ?_, fun a o e n => ?_, fun l a h => pm l a (R.pm l a h), R.gu, tb⟩, r1.perm w1⟩
  · simp only [wOf, List.nodup_append, List.mem_append] at nd ⊢
    grind
  · have f := fr a
    have g := R.fr a
    simp only [List.mem_append] at ha f g
    rcases ha with ha | ha | ha
    · exact g (.inl ha)
    · rcases f ha with z | z
      · exact g (.inr (.inl z))
      · exact R.free0 z
    · exact g (.inr (.inr ha))
  · obtain ⟨o1, e1, f1⟩ := R.kp a o e n
    by_cases c : a ∈ am
    · have g := R.fr a (by simp [c])
      rcases g with g | g
      · exact absurd g n
      · rw [e] at g; cases g
    · obtain ⟨o2, e2, f2⟩ := kp a o1 e1 c
      refine ⟨o2, e2, fun z => ?_⟩
      have z1 := f1 z
      subst z1
      exact f2 z
end
/-! ### a def of the text -/
structure FnN (P : Program) (w : World) (K : PySem.W.Frag) (mg : Str → Option Value) (base : Heap) (k : Nat) (f : Addr) (fd : FuncData) (ps : List Str) (sp : Sp) : Prop where
  len : ∀ vs H Q E, sp vs H Q E → vs.length = ps.length
  run : ∀ (A : Around) (outer : List Env) (s : Shared) (H : Hp) (args : Args) (us : List Value) (vs : List V) (Q : VK) (E : XK), A.guards = some [] → Room k A → Env0 P w K mg base A outer s H →
    BindsTo s fd args (ps.zip us) → Vals vs us → sp vs H Q E → codeAny (model P w) A (.call (.ref f) args) (CR (L2N.CX P w) outer P w H s Q E) s
abbrev cxN (P : Program) (w : World) (K : PySem.W.Frag) (mg : Str → Option Value) (base : Heap) (N : List Str) (qual : Str) (scope : Scope) (f : Addr) (cd : Value) (A : Around) (outer : List Env) (s : Shared) (H : Hp) (E : XK) : Cx :=
  cxOf (L2N.CX P w) P w K mg base N qual scope f cd A outer s H E
section
variable {P : Program} {w : World} {K : PySem.W.Frag} {mg : Str → Option Value} {base : Heap} {k : Nat} {f : Addr} {fd : FuncData} {ps N : List Str} {sp : Sp} {x qual : Str} {params : Arguments} {body : List Stmt} {scope : Scope} {dvs : List V} {kws : List (Str × V)} {T : List (Addr × Str)}
theorem okN (F : FunD K x qual params body scope dvs kws f fd) (S : FnScope N ps scope) (len : ∀ vs H Q E, sp vs H Q E → vs.length = ps.length)
    (hb : ∀ (cdv : Value) (A : Around) (outer : List Env) (s : Shared) (H : Hp) (vs : List V) (Q : VK) (E : XK), A.guards = some [] → Room k (A.deeper (envOfC qual scope s.heap.objs.size f cdv)) → sp vs H Q E →
      ∃ t, PSs (cxN P w K mg base N qual scope f cdv A outer s H E) body t ∧ t { nx := fun _ H' => Q .non H', rt := Q } (start N vs) H) : FnN P w K mg base (k + 1) f fd ps sp := by
  obtain ⟨oc, od, dV, kV, doc, pm, an, cdv, ct, osl, rfl, lk, hcd, _, _⟩ := F.ex
  refine ⟨len, ?_⟩
  intro A outer s H args us vs Q E hG hr e0 hbi r hsp
  have inK : K.In s.heap := e0.mod.kin.keeps fun b o e => (e0.bs b o e).1
  have lim : s.heap.NoLimit := e0.mod.nolimit.keeps fun b o e => (e0.bs b o e).1
  refine codeAny_call_function hr.depth (inK _ _ lk) rfl S.co S.gen rfl (PySem.W.codeRec_of inK hcd) (hbi _ _ _ _ ?_)
  refine wpAny_newFunctionEnv_cells S.kind ?_ ?_
  · rintro ⟨n, v⟩ hy
    rcases S.par n (List.of_mem_zip hy).1 with z | z
    · exact .inl z
    · exact .inr ⟨z, PySem.W.cellsFrom_some _ _ _ (.inl z)⟩
  intro env he s1 y
  subst he
  refine ⟨lim.keeps y.toInCall.keep, codeAny_func ?_⟩
  obtain ⟨t, ht, hq⟩ := hb cdv A outer s H vs Q E hG (hr.deeper _) hsp
  have I := inv_start (CX := L2N.CX P w) (E := E) S hr.hd e0 (len _ _ _ _ hsp) r y
  refine wpAny_mono (ht.run [] s1 (start N vs) H _ I hq) ?_ (fun e s' z => z)
  intro fl s' z
  cases fl with
  | ret u =>
    obtain ⟨v, σ', H', J, rv, q⟩ := z
    exact ⟨v, H', J.os, J.bare, J.base, J.hok, rv, q⟩
  | next =>
    obtain ⟨σ', H', J, q⟩ := z
    exact ⟨V.non, H', J.os, J.bare, J.base, J.hok, rfl, q⟩
  | brk => obtain ⟨_, _, _, q⟩ := z; exact q.elim
  | cont => obtain ⟨_, _, _, q⟩ := z; exact q.elim
theorem takes_N {cd : Value} {A : Around} {outer : List Env} {s : Shared} {H : Hp} {E : XK} : L2N.Takes (cxN P w K mg base N qual scope f cd A outer s H E) (fun cls d _ H => E cls d H) := L2N.takes_of rfl rfl rfl rfl
/-- a def by its body's plain meaning -/
theorem okM {mb : M Fl} {n : Nat} (F : FunD K x qual params body scope dvs kws f fd) (S : FnScope N ps scope) (hn : N.length - ps.length = n)
    (hb : ∀ (cdv : Value) (A : Around) (outer : List Env) (s : Shared) (H : Hp) (E : XK) (Γ : Gam), Γ.T = T → A.guards = some [] → Room k (A.deeper (envOfC qual scope s.heap.objs.size f cdv)) →
      PSs (cxN P w K mg base N qual scope f cdv A outer s H E) body (rdS K Γ (fun cls d _ H => E cls d H) mb)) : FnN P w K mg base (k + 1) f fd ps (spM K T ps.length (fnM n mb)) := by
  refine okN F S (fun vs H Q E h => h.1) ?_
  intro cdv A outer s H vs Q E hG hr hsp
  obtain ⟨hl, U, m, am, xs, S0, r1, r2, nd, hu, tb, h⟩ := hsp
  refine ⟨_, hb cdv A outer s H E ⟨U, H, am, m, T⟩ rfl hG hr, ?_⟩
  have e : L2.start N vs = vs.map some ++ List.replicate n none := by unfold L2.start; rw [hl, hn]
  rw [e]
  refine ⟨_, _, ent (n := n) r1 r2 nd hu tb, rfl, ?_⟩
  unfold fnM at h
  cases em : mb ⟨xs.map Sl.im ++ List.replicate n .no, S0⟩ with
  | bad => rw [em] at h; exact h
  | err c st => rw [em] at h; exact fun σ' H' R' => h H' (ext_ R' rfl rfl)
  | ok fl st =>
    rw [em] at h
    cases fl with
    | nx => exact fun σ' H' R' => h .non H' (ext_ R'.non rfl rfl)
    | rt d => exact fun v σ' H' R' => h v H' (ext_ R' rfl rfl)
    | bk => exact h.elim
    | ct => exact h.elim
end
/-- a function of the text that stands behind its name -/
structure CalN (P : Program) (w : World) (K : PySem.W.Frag) (mg : Str → Option Value) (base : Heap) (T : List (Addr × Str)) (k : Nat) (x : Str) (ps : List Str) (ds : List AV) (f : Fn) : Prop where
  ex : ∃ (a : Addr) (fd : FuncData) (dvs : List V) (us : List Value), FnN P w K mg base k a fd ps (spM K T ps.length f) ∧ mg x = some (.ref a) ∧ PySem.W.keepIn K (.ref a) = true ∧ Binds K fd ps us ∧ Vals dvs us ∧ ∀ H W m, Rp K H W m dvs ds []
/-- what a def leaves, taken over -/
def back (r : List Sl) : Res AV (List AV) → Res AV Ss
  | .ok d S => .ok d ⟨r, S⟩
  | .err c S => .err c ⟨r, S⟩
  | .bad => .bad
@[simp] theorem back_ok (r : List Sl) (d : AV) (S : List AV) : back r (.ok d S) = .ok d ⟨r, S⟩ := rfl
@[simp] theorem back_err (r : List Sl) (c : Str) (S : List AV) : back r (.err c S) = .err c ⟨r, S⟩ := rfl
@[simp] theorem back_bad (r : List Sl) : back r .bad = .bad := rfl
def eCall (n : Nat) (f : Fn) (ds : List AV) (a : M (List AV)) : M AV := fun st => (a st).bind fun xs s1 => if xs.length + ds.length = n then back s1.r (f (xs ++ ds) s1.s) else .bad
section
variable {X : Cx} {Γ : Gam} {W : WX} {σ : L2.St} {H : Hp} {st : Ss} {p : Pd} {K : PySem.W.Frag} {pos q : Pos} {k j : Nat} {x : Str} {ps : List Str} {ds : List AV} {f : Fn} {e : Expr} {es : List Expr} {ma : M (List AV)}
theorem run_N {pins : List (Addr × Obj)} {s : Shared} {Q : VK} {us ws : List Value} {vs dvs : List V} {a : Addr} {fd : FuncData} {sp : Sp} {E : XK} (F : FnN X.prog X.w X.K X.mg X.base k a fd ps sp) (hG : X.A.guards = some []) (hr : Room k X.A) (hb : Binds X.K fd ps ws) (hd : Vals dvs ws)
    (hx : PassesAt (L2N.CX X.prog X.w) X σ E) (I : Inv X pins σ H s) (r : Vals vs us) (h : sp (vs ++ dvs) H Q E) : wpAny (model X.prog X.w) X.A (call (.ref a) us) (EP X pins σ Q) X.xe s := by
  have r2 := r.append hd
  have hl : (us ++ ws).length = ps.length := r2.length.symm.trans (F.len _ _ _ _ h)
  refine wpAny_call (codeAny_mono (F.run X.A X.stack s H ⟨us, []⟩ (us ++ ws) (vs ++ dvs) Q E hG hr I.env0 (hb s us I.kIn hl) r2 h) ?_)
  intro r s' z
  cases r with
  | error e => exact hx pins H s e s' I z
  | ok fl => cases fl with
    | ret u => exact I.after z
    | next => exact z.elim
    | brk => exact z.elim
    | cont => exact z.elim
/-- arguments, then the def -/
theorem call_in {n : Nat} {dvs : List V} {Q : VK} (hd : ∀ H W m, Rp K H W m dvs ds []) (h : rdE K Γ W (eCall n f ds ma) σ H Q) : rdA K Γ W ma σ H fun vs H1 => spM K Γ.T n f (vs ++ dvs) H1 Q (WE W σ) := by
  obtain ⟨st, p, R, h⟩ := h
  refine ⟨st, p, R, ?_⟩
  unfold eCall at h
  cases ea : ma st with
  | bad => rw [ea] at h; exact h
  | err c s1 => rw [ea] at h; exact h
  | ok xs s1 =>
    rw [ea] at h
    simp only [Res.bind_ok] at h
    by_cases cn : xs.length + ds.length = n
    · rw [if_pos cn] at h
      intro vs H1 hl R1
      obtain ⟨m, ar, am, ao, ab, R2, r⟩ := Rel.args (p := p.nob) hl R1
      obtain ⟨c1, c2, c3, c4, c5⟩ := R2.enter (r.app (hd _ _ _))
      have l2 := (hd H1 [] []).len
      refine ⟨by rw [List.length_append]; omega, _, m, am, xs ++ ds, s1.s, c1, c2, c3, c4, c5, ?_⟩
      cases ef : f (xs ++ ds) s1.s with
      | bad => rw [ef] at h; exact h
      | err c S' =>
        rw [ef] at h
        intro H2 hp
        obtain ⟨m', am', R3, _⟩ := R2.back rfl hp
        exact h H2 R3.rel
      | ok d S' =>
        rw [ef] at h
        intro v H2 hp
        obtain ⟨m', am', R3, r3⟩ := R2.back rfl hp
        exact h v H2 (R3.sh r3)
    · rw [if_neg cn] at h
      exact h.elim
theorem s_call (F : CalN X.prog X.w X.K X.mg X.base Γ.T k x ps ds f) (hG : X.A.guards = some []) (hr : Room j X.A) (hk : k ≤ j) (hg : Gl X x) (tk : L2N.Takes X W) (ha : PA X (e :: es) (rdA X.K Γ W ma))
    (hdb : (x == ("__debug__" : Str)) = false := by decide) (he : starEach (e :: es) X.env = (false, eval e X.env) :: starEach es X.env := by rfl) (hpl : (backTo pos (starEach es X.env)).any (·.1) = false := by rfl) :
    PE X (.Call (.Name x q) (e :: es) [] pos) (rdE X.K Γ W (eCall ps.length f ds ma)) := by
  obtain ⟨a, fd, dvs, us, G, gm, kp, b, v, hd⟩ := F.ex
  refine ⟨fun pins s σ H Q I h => wpAny_Call_Name_kw (ld_glob I hg gm ?_ hdb)⟩
  refine PySem.W.callWith_K (h₀ := X.base) I.ok.mod.kin kp (thn (ha.run pos pins s σ H _ I (call_in hd h)) ?_) he hpl
  rintro us s1 ⟨vs, H1, I1, r, q⟩
  exact ⟨I1.kIn, run_N G hG (hr.mono hk) b v (L2N.passAt tk σ) I1 r q⟩
theorem s_call0 (F : CalN X.prog X.w X.K X.mg X.base Γ.T k x ps ds f) (hG : X.A.guards = some []) (hr : Room j X.A) (hk : k ≤ j) (hg : Gl X x) (tk : L2N.Takes X W)
    (hdb : (x == ("__debug__" : Str)) = false := by decide) : PE X (.Call (.Name x q) [] [] pos) (rdE X.K Γ W (eCall ps.length f ds aNil)) := by
  obtain ⟨a, fd, dvs, us, G, gm, kp, b, v, hd⟩ := F.ex
  refine ⟨fun pins s σ H Q I h => wpAny_Call_Name_kw (ld_glob I hg gm ?_ hdb)⟩
  obtain ⟨st, p, R, h2⟩ := call_in hd h
  exact PySem.W.callWith_K0 I.kIn kp (run_N (us := []) G hG (hr.mono hk) b v (L2N.passAt tk σ) I .nil (h2 [] H rfl R.nob))
/-! ### raise -/
def sRaise (c : Str) : M Fl := fun st => .err c st
theorem s_raise {mt : Str} {i : Nat} {p1 p2 pos' : Pos} (F : ExcF X.K X.mg x) (hc : X.calm = true) (tk : L2N.Takes X W) (hg : Gl X x) (hdb : (x == ("__debug__" : Str)) = false := by decide) :
    PS X (.Raise (some (.Call (.Name x p1) [.Constant (.str mt) i p2] [] pos)) none pos') (rdS X.K Γ W (sRaise x)) := by
  refine ps_imp (L2N.ps_raise hc tk (L2N.pmk_own PySem.F.excBase_ValueError F.ex F.gl F.kp (raises_own F.sub F.ty) hg hdb)) fun D σ H h => ?_
  obtain ⟨st, p, R, hp, h⟩ := h
  exact h σ H R
end
end Fk
/-! ## targets, loops, comprehensions -/
namespace Fk
open PySem PySem.Spec PyProof.Rows L2
abbrev Tg := AV → Ss → Option Ss
/-- a target: ns are the slots that it stores to -/
def rdG (K : PySem.W.Frag) (Γ : Gam) (ns : List Nat) (t : Tg) : TG := fun v σ H Q => ∃ st p d st', Rel K Γ σ H st (p.sh v d) ∧ t d st = some st' ∧ ∀ σ' H', wipe σ' ns = wipe σ ns → Rel K Γ σ' H' st' p → Q σ' H'
def rdGs (K : PySem.W.Frag) (Γ : Gam) (ns : List Nat) (t : List AV → Ss → Option Ss) : TGs := fun vs σ H Q => ∃ st p ds st', vs.length = ds.length ∧ Rel K Γ σ H st { p with iv := vs ++ p.iv, ix := ds ++ p.ix } ∧ t ds st = some st' ∧ ∀ σ' H', wipe σ' ns = wipe σ ns → Rel K Γ σ' H' st' p → Q σ' H'
def gN (i : Nat) : Tg := fun d st => some ⟨setSl st.r i (.im d), st.s⟩
def gNil' : List AV → Ss → Option Ss
  | [], st => some st
  | _ :: _, _ => none
def gCons' (t : Tg) (u : List AV → Ss → Option Ss) : List AV → Ss → Option Ss
  | d :: ds, st => (t d st).bind fun s1 => u ds s1
  | [], _ => none
def gT (n : Nat) (u : List AV → Ss → Option Ss) : Tg := fun d st => match d with
  | .tup xs => if xs.length = n then u xs st else none
  | _ => none
theorem wipe_sub {σ σ' : L2.St} {ns ms : List Nat} (h : wipe σ' ns = wipe σ ns) (hs : ∀ i ∈ ns, i ∈ ms) : wipe σ' ms = wipe σ ms := by
  have len : σ'.length = σ.length := by rw [← wipe_length σ' ns, h, wipe_length]
  apply List.ext_getElem?
  intro i
  by_cases c : i ∈ ms
  · have z : ∀ (τ : L2.St) (l : List Nat), i ∈ l → (wipe τ l)[i]? = if i < τ.length then some none else none := fun τ l => by
      induction l with
      | nil => intro z; cases z
      | cons a l ih =>
        intro z
        unfold wipe
        by_cases e : a = i
        · subst e
          by_cases hl : a < τ.length
          · rw [if_pos hl, List.getElem?_set_self (by rw [wipe_length]; exact hl)]
          · rw [if_neg hl, List.getElem?_eq_none (by rw [List.length_set, wipe_length]; omega)]
        · rw [List.getElem?_set_ne e]
          exact ih (by
            rcases List.mem_cons.mp z with z | z
            · exact absurd z.symm e
            · exact z)
    rw [z _ _ c, z _ _ c, len]
  · rw [wipe_out c, wipe_out c]
    have c2 : i ∉ ns := fun z => c (hs i z)
    have e1 := wipe_out (σ := σ') c2
    have e2 := wipe_out (σ := σ) c2
    rw [← e1, ← e2, h]
theorem wipe_set {σ : L2.St} {i : Nat} {o : Option V} : wipe (σ.set i o) [i] = wipe σ [i] := by
  show ((σ.set i o).set i none) = σ.set i none
  rw [List.set_set]
section
variable {X : Cx} {Γ : Gam} {W : WX} {σ : L2.St} {H : Hp} {st : Ss} {p : Pd} {K : PySem.W.Frag} {pos : Pos}
theorem pg_imp {e : Expr} {t t' : TG} (h : PG X e t) (i : ∀ v σ H Q, t' v σ H Q → t v σ H Q) : PG X e t' := ⟨fun pins s σ H v u Q I r q => h.run pins s σ H v u Q I r (i v σ H Q q)⟩
theorem pgs_imp {e : List Expr} {t t' : TGs} (h : PGs X e t) (i : ∀ v σ H Q, t' v σ H Q → t v σ H Q) : PGs X e t' := ⟨fun pins s σ H v u Q I r q => h.run pins s σ H v u Q I r (i v σ H Q q)⟩
theorem s_gn {i : Nat} {x : Str} (hN : X.N.Nodup) (hi : X.N[i]? = some x) (hx : Loc X.env.scope x) (hf : X.fn x = true ∨ X.env.scope.names.lookup x = some .local := by first | exact .inl rfl | exact .inr rfl | assumption) : PG X (.Name x pos) (rdG X.K Γ [i] (gN i)) := by
  refine pg_imp (pg_name hN hi hx hf) fun v σ H Q h => ?_
  obtain ⟨st, p, d, st', R, e, h⟩ := h
  cases e
  exact h _ _ wipe_set (R.put i)
theorem s_gnil : PGs X [] (rdGs X.K Γ [] gNil') := by
  refine pgs_imp pgs_nil fun vs σ H Q h => ?_
  obtain ⟨st, p, ds, st', hl, R, e, h⟩ := h
  cases ds with
  | nil =>
    cases e
    cases vs with
    | nil => exact ⟨rfl, h _ _ rfl R⟩
    | cons _ _ => cases hl
  | cons _ _ => cases e
theorem s_gcons {e : Expr} {es : List Expr} {ns ms : List Nat} {t : Tg} {u : List AV → Ss → Option Ss} (h1 : PG X e (rdG X.K Γ ns t)) (h2 : PGs X es (rdGs X.K Γ ms u))
    (hs : (assignEach (e :: es) X.env).map (·.2) = assign e X.env :: (assignEach es X.env).map (·.2) := by rfl) : PGs X (e :: es) (rdGs X.K Γ (ns ++ ms) (gCons' t u)) := by
  refine pgs_imp (pgs_cons h1 h2 hs) fun vs σ H Q h => ?_
  obtain ⟨st, p, ds, st', hl, R, e, h⟩ := h
  cases ds with
  | nil => cases e
  | cons d ds =>
    cases vs with
    | nil => cases hl
    | cons v vs =>
      have e2 : (t d st).bind (fun s1 => u ds s1) = some st' := e
      cases et : t d st with
      | none => rw [et] at e2; cases e2
      | some s1 =>
        rw [et] at e2
        refine ⟨v, vs, rfl, st, { p with iv := vs ++ p.iv, ix := ds ++ p.ix }, d, s1, R, et, fun σ' H' w1 R1 => ⟨s1, p, ds, st', by simpa using hl, R1, e2, fun σ2 H2 w2 R2 => h σ2 H2 ?_ R2⟩⟩
        exact (wipe_sub w2 (fun i hi => by simp [hi])).trans (wipe_sub w1 (fun i hi => by simp [hi]))
theorem s_gt {es : List Expr} {k n : Nat} {ns : List Nat} {u : List AV → Ss → Option Ss} (hc : X.calm = true) (h : PGs X es (rdGs X.K Γ ns u)) (hn : (assignEach es X.env).length = n := by rfl) (hst : (assignEach es X.env).findIdx? (·.1) = none := by rfl) :
    PG X (.Tuple es k pos) (rdG X.K Γ ns (gT n u)) := by
  refine pg_imp (pg_tup hc h hn hst) fun v σ H Q h => ?_
  obtain ⟨st, p, d, st', R, e, h⟩ := h
  unfold gT at e
  cases d with
  | tup xs =>
    obtain ⟨m, ar, am, ao, ab, R0, r⟩ := R.one
    obtain ⟨a, us, rfl, hs, q⟩ := r.tup_i
    by_cases c : xs.length = n
    · simp only [c, if_true] at e
      exact ⟨a, us, rfl, hs, by rw [q.len]; exact c, st, p, xs, st', q.len, ⟨m, ar, am, ao, ab, R0.setI (q.app R0.ri)⟩, e, h⟩
    · simp only [c, if_false] at e
      cases e
  | _ => cases e
/-! ### what is walked -/
abbrev Pd.shs (p : Pd) (vs : List V) (xs : List AV) : Pd := { p with iv := vs ++ p.iv, ix := xs ++ p.ix }
theorem Rel.dropL {vs : List V} {xs : List AV} (hl : vs.length = xs.length) (R : Rel K Γ σ H st (p.shs vs xs)) : Rel K Γ σ H st p := by
  obtain ⟨m, ar, am, ao, ab, R, _⟩ := Rel.args hl R
  exact R.rel
theorem Rel.dropL1 {vs : List V} {xs : List AV} {v : V} {d : AV} (hl : vs.length = xs.length) (R : Rel K Γ σ H st ((p.shs vs xs).sh v d)) : Rel K Γ σ H st (p.sh v d) := by
  obtain ⟨m, ar, am, ao, ab, R, r⟩ := R.one
  obtain ⟨a1, a2, e, r1, r2⟩ := Rp.app_inv hl R.ri
  obtain ⟨e1, e2⟩ := List.append_eq_nil_iff.mp e.symm
  subst e1 e2
  exact ⟨m, ar, am, ao, ab, R.setI (p := p.shs vs xs) (r.cons0 r2)⟩
/-- J walks ds as long as what is pending stands -/
def ItR (K : PySem.W.Frag) (Γ : Gam) (J : It) (p : Pd) (ds : List AV) : Prop :=
  (∀ (i : Nat) d σ H st ov ox, ds[i]? = some d → Rel K Γ σ H st { p with ov := ov, ox := ox } → J.go i H ∧ ∀ x H', J.yld i H x H' → Rel K Γ σ H' st ({ p with ov := ov, ox := ox }.sh x d)) ∧ ∀ σ H st ov ox, Rel K Γ σ H st { p with ov := ov, ox := ox } → J.stop ds.length H
def rdI (K : PySem.W.Frag) (Γ : Gam) (W : WX) (m : M (List AV)) : TI := fun σ H R => ∃ st p, Rel K Γ σ H st p ∧ match m st with
  | .ok ds st' => ∀ J H' vs xs, vs.length = xs.length → Rel K Γ σ H' st' (p.nob.shs vs xs) → ItR K Γ J (p.nob.shs vs xs) ds → R J H'
  | .err c st' => ∀ H', Rel K Γ σ H' st' p.nob → W (.ref (He.ga K c)) none σ H'
  | .bad => False
theorem pi_imp {tg it : Expr} {t t' : TI} (h : PI X tg it t) (i : ∀ σ H R, t' σ H R → t σ H R) : PI X tg it t' := ⟨fun pins s σ H R I q => h.run pins s σ H R I (i σ H R q)⟩
/-- a list's, a tuple's items -/
def itemsOf : AV → Option (List AV)
  | .lst _ xs => some xs
  | .tup xs => some xs
  | .scr xs => some xs
  | _ => none
def iOf (m : M AV) : M (List AV) := fun st => (m st).bind fun x s1 => ofO (itemsOf x) s1
theorem s_it {tg e : Expr} {m : M AV} (h : PE X e (rdE X.K Γ W m)) : PI X tg e (rdI X.K Γ W (iOf m)) := by
  refine pi_imp (pi_or (pi_list h) (pi_tup h)) fun σ H R q => ?_
  obtain ⟨st, p, R0, q⟩ := q
  unfold iOf at q
  cases ea : m st with
  | bad => rw [ea] at q; exact q.elim
  | err c s1 =>
    rw [ea] at q
    exact .inl ⟨st, p, R0, by rw [ea]; exact q⟩
  | ok d s1 =>
    rw [ea] at q
    simp only [Res.bind_ok] at q
    cases d with
    | lst o xs =>
      refine .inl ⟨st, p, R0, ?_⟩
      rw [ea]
      intro v H1 R1
      obtain ⟨mm, ar, am, ao, ab, R2, r⟩ := R1.one
      obtain ⟨a, us, rfl, hs, _⟩ := r.lst_i
      refine ⟨a, rfl, ⟨us, SqL.of hs⟩, q (Itl X.K a) H1 [.ref a] [(.lst o xs)] rfl R1 ⟨fun i d σ H st ov ox e R3 => ?_, fun σ H st ov ox R3 => ?_⟩⟩
      · obtain ⟨m3, ar3, am3, ao3, ab3, R4, r4⟩ := Rel.one (p := { p.nob with ov := ov, ox := ox }) R3
        obtain ⟨a2, us2, e2, hs2, q2⟩ := r4.lst_i
        cases e2
        obtain ⟨u, eu, ru⟩ := q2.get0 e
        refine ⟨⟨us2, u, SqL.of hs2, eu⟩, fun x H' y => ?_⟩
        obtain ⟨eh, y⟩ := y
        subst eh
        have z := y us2 (SqL.of hs2)
        rw [eu] at z
        cases z
        exact ⟨m3, ar3, am3, ao3, ab3, R4.setI (ru.cons0 (r4.cons0 R4.ri))⟩
      · obtain ⟨m3, ar3, am3, ao3, ab3, R4, r4⟩ := Rel.one (p := { p.nob with ov := ov, ox := ox }) R3
        obtain ⟨a2, us2, e2, hs2, q2⟩ := r4.lst_i
        cases e2
        exact ⟨us2, SqL.of hs2, Nat.le_of_eq q2.len⟩
    | scr xs =>
      refine .inl ⟨st, p, R0, ?_⟩
      rw [ea]
      intro v H1 R1
      obtain ⟨mm, ar, am, ao, ab, R2, r⟩ := R1.one
      obtain ⟨a, us, rfl, hs, _⟩ := r.scr_i
      refine ⟨a, rfl, ⟨us, hs.sq⟩, q (Itl X.K a) H1 [.ref a] [(.scr xs)] rfl R1 ⟨fun i d σ H st ov ox e R3 => ?_, fun σ H st ov ox R3 => ?_⟩⟩
      · obtain ⟨m3, ar3, am3, ao3, ab3, R4, r4⟩ := Rel.one (p := { p.nob with ov := ov, ox := ox }) R3
        obtain ⟨a2, us2, e2, hs2, q2⟩ := r4.scr_i
        cases e2
        obtain ⟨u, eu, ru⟩ := q2.get0 e
        refine ⟨⟨us2, u, hs2.sq, eu⟩, fun x H' y => ?_⟩
        obtain ⟨eh, y⟩ := y
        subst eh
        have z := y us2 hs2.sq
        rw [eu] at z
        cases z
        exact ⟨m3, ar3, am3, ao3, ab3, R4.setI (ru.cons0 (r4.cons0 R4.ri))⟩
      · obtain ⟨m3, ar3, am3, ao3, ab3, R4, r4⟩ := Rel.one (p := { p.nob with ov := ov, ox := ox }) R3
        obtain ⟨a2, us2, e2, hs2, q2⟩ := r4.scr_i
        cases e2
        exact ⟨us2, hs2.sq, Nat.le_of_eq q2.len⟩
    | tup xs =>
      refine .inr ⟨st, p, R0, ?_⟩
      rw [ea]
      intro v H1 R1
      obtain ⟨mm, ar, am, ao, ab, R2, r⟩ := R1.one
      obtain ⟨a, us, rfl, hs, _⟩ := r.tup_i
      refine ⟨a, rfl, ⟨us, hs⟩, q (Itt X.K a) H1 [.ref a] [(.tup xs)] rfl R1 ⟨fun i d σ H st ov ox e R3 => ?_, fun σ H st ov ox R3 => ?_⟩⟩
      · obtain ⟨m3, ar3, am3, ao3, ab3, R4, r4⟩ := Rel.one (p := { p.nob with ov := ov, ox := ox }) R3
        obtain ⟨a2, us2, e2, hs2, q2⟩ := r4.tup_i
        cases e2
        obtain ⟨u, eu, ru⟩ := q2.get0 e
        refine ⟨⟨us2, u, hs2, eu⟩, fun x H' y => ?_⟩
        obtain ⟨eh, y⟩ := y
        subst eh
        have z := y us2 hs2
        rw [eu] at z
        cases z
        exact ⟨m3, ar3, am3, ao3, ab3, R4.setI (ru.cons0 (r4.cons0 R4.ri))⟩
      · obtain ⟨m3, ar3, am3, ao3, ab3, R4, r4⟩ := Rel.one (p := { p.nob with ov := ov, ox := ox }) R3
        obtain ⟨a2, us2, e2, hs2, q2⟩ := r4.tup_i
        cases e2
        exact ⟨us2, hs2, Nat.le_of_eq q2.len⟩
    | _ => exact q.elim
/-- range -/
def rngL (lo hi : Int) : List AV := (List.range (hi - lo).toNat).map fun (i : Nat) => AV.int (lo + i)
def rng1 : List AV → Option (List AV)
  | [.int n] => if -(2 ^ 62) ≤ n ∧ n < 2 ^ 62 then some (rngL 0 n) else none
  | _ => none
def rng2 : List AV → Option (List AV)
  | [.int a, .int b] => if (-(2 ^ 62) ≤ a ∧ a < 2 ^ 62) ∧ (-(2 ^ 62) ≤ b ∧ b < 2 ^ 62) then some (rngL a b) else none
  | _ => none
def iArg (f : List AV → Option (List AV)) (m : M (List AV)) : M (List AV) := fun st => (m st).bind fun xs s1 => ofO (f xs) s1
theorem itr_r {lo : Int} {n : Nat} : ItR K Γ (Itr lo n) p ((List.range n).map fun (i : Nat) => AV.int (lo + i)) := by
  refine ⟨fun i d σ H st ov ox e R => ?_, fun σ H st ov ox R => by rw [List.length_map, List.length_range]; exact Nat.le_refl _⟩
  rw [List.getElem?_map] at e
  by_cases c : i < n
  · rw [List.getElem?_range c] at e
    cases e
    refine ⟨c, fun x H' y => ?_⟩
    obtain ⟨eh, ex⟩ := y
    subst eh ex
    exact R.int _
  · rw [List.getElem?_eq_none (by rw [List.length_range]; omega)] at e
    cases e
theorem s_rng1 {tg a : Expr} {ma : M (List AV)} {q : Pos} (hg : Gl X "range") (hm : X.mg "range" = none) (ha : PA X [a] (rdA X.K Γ W ma)) (hs : starEach [a] X.env = [(false, eval a X.env)] := by rfl) : PI X tg (.Call (.Name "range" q) [a] [] pos) (rdI X.K Γ W (iArg rng1 ma)) := by
  refine pi_imp (pi_range1 hg hm ha hs) fun σ H R h => ?_
  obtain ⟨st, p, R0, h⟩ := h
  refine ⟨st, p, R0, ?_⟩
  unfold iArg at h
  cases ea : ma st with
  | bad => rw [ea] at h; exact h
  | err c s1 => rw [ea] at h; exact h
  | ok xs s1 =>
    rw [ea] at h
    simp only [Res.bind_ok] at h
    intro vs H1 hl R1
    obtain ⟨m, ar, am, ao, ab, R2, r⟩ := Rel.args (p := p.nob) hl R1
    cases e : rng1 xs with
    | none => rw [e] at h; exact h.elim
    | some ds =>
      rw [e] at h
      unfold rng1 at e
      split at e
      · split at e
        · cases e
          rename_i n c
          obtain ⟨v, vs', rfl⟩ : ∃ v vs', vs = v :: vs' := by
            cases vs with
            | nil => cases hl
            | cons v vs' => exact ⟨v, vs', rfl⟩
          have e1 := r.head0.1.int_i
          have e2 := (r.head0.2.nil_inv).1
          subst e1 e2
          refine ⟨n, rfl, c.1, c.2, h _ H1 [] [] rfl R2.rel ?_⟩
          have e3 : n.toNat = (n - 0).toNat := by omega
          unfold rngL
          rw [← e3]
          exact itr_r
        · cases e
      · cases e
theorem s_rng2 {tg a b : Expr} {ma : M (List AV)} {q : Pos} (hg : Gl X "range") (hm : X.mg "range" = none) (ha : PA X [a, b] (rdA X.K Γ W ma)) (hs : starEach [a, b] X.env = [(false, eval a X.env), (false, eval b X.env)] := by rfl) (hs2 : starEach [b] X.env = [(false, eval b X.env)] := by rfl) : PI X tg (.Call (.Name "range" q) [a, b] [] pos) (rdI X.K Γ W (iArg rng2 ma)) := by
  refine pi_imp (pi_range2 hg hm ha hs hs2) fun σ H R h => ?_
  obtain ⟨st, p, R0, h⟩ := h
  refine ⟨st, p, R0, ?_⟩
  unfold iArg at h
  cases ea : ma st with
  | bad => rw [ea] at h; exact h
  | err c s1 => rw [ea] at h; exact h
  | ok xs s1 =>
    rw [ea] at h
    simp only [Res.bind_ok] at h
    intro vs H1 hl R1
    obtain ⟨m, ar, am, ao, ab, R2, r⟩ := Rel.args (p := p.nob) hl R1
    cases e : rng2 xs with
    | none => rw [e] at h; exact h.elim
    | some ds =>
      rw [e] at h
      unfold rng2 at e
      split at e
      · split at e
        · cases e
          rename_i i j c
          match vs, hl with
          | [v, w'], _ =>
            have e1 := r.head0.1.int_i
            have e2 := r.head0.2.head0.1.int_i
            subst e1 e2
            exact ⟨i, j, rfl, ⟨c.1.1, c.1.2, c.2.1, c.2.2⟩, h _ H1 [] [] rfl R2.rel itr_r⟩
        · cases e
      · cases e
/-! ### for -/
def forM (t : Tg) (body : M Fl) : List AV → M Fl
  | [], st => .ok .nx st
  | d :: ds, st => match t d st with
    | none => .bad
    | some s0 => match body s0 with
      | .ok .nx s1 => forM t body ds s1
      | .ok .ct s1 => forM t body ds s1
      | .ok .bk s1 => .ok .nx s1
      | .ok (.rt d) s1 => .ok (.rt d) s1
      | .err c s1 => .err c s1
      | .bad => .bad
def sFor (mi : M (List AV)) (t : Tg) (body : M Fl) : M Fl := fun st => (mi st).bind fun ds s1 => forM t body ds s1
def Pos_ (K : PySem.W.Frag) (Γ : Gam) (W : WX) (D : Ends) (p : Pd) (r : Res Fl Ss) : Prop := match r with
  | .ok .nx st' => ∀ σ' H', Rel K Γ σ' H' st' p → D.nx σ' H'
  | .ok (.rt d) st' => ∀ v σ' H', Rel K Γ σ' H' st' (p.sh v d) → D.rt v H'
  | .ok .bk st' => ∀ σ' H', Rel K Γ σ' H' st' p → D.bk σ' H'
  | .ok .ct st' => ∀ σ' H', Rel K Γ σ' H' st' p → D.ct σ' H'
  | .err c st' => ∀ σ' H', Rel K Γ σ' H' st' p → W (.ref (He.ga K c)) none σ' H'
  | .bad => False
theorem s_for {tg iter : Expr} {body : List Stmt} {mi : M (List AV)} {ns : List Nat} {t : Tg} {mb : M Fl} (hp : PassesOwn (model X.prog X.w) X.A X.env X.xe) (hc : X.calm = true) (hi : PI X tg iter (rdI X.K Γ W mi)) (hg : PG X tg (rdG X.K Γ ns t)) (hb : PSs X body (rdS X.K Γ W mb))
    (hs : ∀ x, foldedSetIterable iter X.env x = pure x := by intro _; rfl) : PS X (.For tg iter body [] pos) (rdS X.K Γ W (sFor mi t mb)) := by
  refine ps_imp (ps_for hp hc hi hg hb hs) fun D σ H h => ?_
  obtain ⟨st, p, R, hp, h⟩ := h
  refine ⟨st, p, R, ?_⟩
  unfold sFor at h
  cases ea : mi st with
  | bad => rw [ea] at h; exact h
  | err c s1 => rw [ea] at h; exact fun H' R' => h σ H' (hp ▸ R')
  | ok ds s1 =>
    rw [ea] at h
    simp only [Res.bind_ok] at h
    have h : Pos_ X.K Γ W D p (forM t mb ds s1) := h
    intro J H1 vs xs hl R1 J1
    rw [hp] at R1 J1
    have hw : ∀ σ H st, Rel X.K Γ σ H st (p.shs vs xs) → Rel X.K Γ σ H st p := fun _ _ _ z => z.dropL hl
    have np : (p.shs vs xs).nob = p.shs vs xs := by
      have e := hp
      have e1 : p.bv = [] := by rw [← hp]
      have e2 : p.bx = [] := by rw [← hp]
      show { p.shs vs xs with bv := [], bx := [] } = p.shs vs xs
      rw [← e1, ← e2]
    refine ⟨fun i n σ H => n = ds.length - i ∧ i ≤ ds.length ∧ ∃ st, Rel X.K Γ σ H st (p.shs vs xs) ∧ Pos_ X.K Γ W D p (forM t mb (ds.drop i) st), ⟨_, rfl, Nat.zero_le _, s1, R1, h⟩, ?_⟩
    rintro i n σ H ⟨rfl, hi, st, R2, h2⟩
    by_cases c : i < ds.length
    · rw [List.drop_eq_getElem_cons c] at h2
      unfold forM at h2
      cases et : t ds[i] st with
      | none => rw [et] at h2; exact h2.elim
      | some s0 =>
        rw [et] at h2
        have h2 : Pos_ X.K Γ W D p (match mb s0 with
          | .ok .nx s1 => forM t mb (ds.drop (i + 1)) s1
          | .ok .ct s1 => forM t mb (ds.drop (i + 1)) s1
          | .ok .bk s1 => .ok .nx s1
          | .ok (.rt d) s1 => .ok (.rt d) s1
          | .err c s1 => .err c s1
          | .bad => .bad) := h2
        obtain ⟨go, yl⟩ := J1.1 i ds[i] σ H st p.ov p.ox (by simp [c]) R2
        refine .inr ⟨go, fun σ' H' => ∃ st, Rel X.K Γ σ' H' st (p.shs vs xs) ∧ Pos_ X.K Γ W D p (forM t mb (ds.drop (i + 1)) st), fun σ' H' ⟨st, R3, h3⟩ => ⟨_, by omega, rfl, c, st, R3, h3⟩, fun x H' y => ?_⟩
        refine ⟨st, p.shs vs xs, ds[i], s0, yl x H' y, et, fun σ2 H2 _ R3 => ⟨s0, p.shs vs xs, R3, np, ?_⟩⟩
        cases em : mb s0 with
        | bad => rw [em] at h2; exact h2
        | err c s2 => rw [em] at h2; exact fun σ3 H3 R4 => h2 σ3 H3 (hw _ _ _ R4)
        | ok f s2 =>
          rw [em] at h2
          cases f with
          | nx => exact fun σ3 H3 R4 => ⟨s2, R4, h2⟩
          | ct => exact fun σ3 H3 R4 => ⟨s2, R4, h2⟩
          | bk => exact fun σ3 H3 R4 => h2 σ3 H3 (hw _ _ _ R4)
          | rt d => exact fun v σ3 H3 R4 => h2 v σ3 H3 (R4.dropL1 hl)
    · have e : i = ds.length := by omega
      subst e
      rw [List.drop_length] at h2
      exact .inl ⟨J1.2 σ H st p.ov p.ox R2, h2 σ H (hw _ _ _ R2)⟩
/-! ### while -/
def whM (c : M Bool) (body : M Fl) : Nat → M Fl
  | 0, _ => .bad
  | n + 1, st => match c st with
    | .ok true s0 => (match body s0 with
      | .ok .nx s1 => whM c body n s1
      | .ok .ct s1 => whM c body n s1
      | .ok .bk s1 => .ok .nx s1
      | .ok (.rt d) s1 => .ok (.rt d) s1
      | .err c s1 => .err c s1
      | .bad => .bad)
    | .ok false s0 => .ok .nx s0
    | .err e s0 => .err e s0
    | .bad => .bad
theorem s_while {c : Expr} {body : List Stmt} {mc : M Bool} {mb : M Fl} (n : Nat) (hp : PassesOwn (model X.prog X.w) X.A X.env X.xe) (hc : PT X c (rdT X.K Γ W mc)) (hb : PSs X body (rdS X.K Γ W mb)) : PS X (.While c body [] pos) (rdS X.K Γ W (whM mc mb n)) := by
  refine ps_imp (ps_while hp hc hb) fun D σ H h => ?_
  obtain ⟨st, p, R, hp, h⟩ := h
  have h : Pos_ X.K Γ W D p (whM mc mb n st) := h
  refine ⟨fun n σ H => ∃ st, Rel X.K Γ σ H st p ∧ Pos_ X.K Γ W D p (whM mc mb n st), ⟨n, st, R, h⟩, ?_⟩
  rintro n σ H ⟨st, R, h⟩
  cases n with
  | zero => exact h.elim
  | succ n =>
    unfold whM at h
    refine ⟨st, p, R, ?_⟩
    cases ec : mc st with
    | bad => rw [ec] at h; exact h
    | err e s0 => rw [ec] at h; exact fun H' R' => h σ H' (hp ▸ R')
    | ok b s0 =>
      rw [ec] at h
      intro H1 R1
      rw [hp] at R1
      cases b with
      | false =>
        rw [if_neg Bool.false_ne_true]
        exact h σ H1 R1
      | true =>
        rw [if_pos rfl]
        have h : Pos_ X.K Γ W D p (match mb s0 with
          | .ok .nx s1 => whM mc mb n s1
          | .ok .ct s1 => whM mc mb n s1
          | .ok .bk s1 => .ok .nx s1
          | .ok (.rt d) s1 => .ok (.rt d) s1
          | .err c s1 => .err c s1
          | .bad => .bad) := h
        refine ⟨fun σ' H' => ∃ st, Rel X.K Γ σ' H' st p ∧ Pos_ X.K Γ W D p (whM mc mb n st), fun σ' H' ⟨st, R3, h3⟩ => ⟨n, Nat.lt_succ_self n, st, R3, h3⟩, s0, p, R1, hp, ?_⟩
        cases em : mb s0 with
        | bad => rw [em] at h; exact h
        | err c s2 => rw [em] at h; exact h
        | ok f s2 =>
          rw [em] at h
          cases f with
          | nx => exact fun σ3 H3 R4 => ⟨s2, R4, h⟩
          | ct => exact fun σ3 H3 R4 => ⟨s2, R4, h⟩
          | bk => exact h
          | rt d => exact h
end
end Fk
/-! ## list comprehensions -/
namespace Fk
open PySem PySem.Spec PyProof.Rows L2
def wipeSl (r : List Sl) : List Nat → List Sl
  | [] => r
  | v :: vs => setSl (wipeSl r vs) v .no
abbrev Ss.wipe (st : Ss) (vs : List Nat) : Ss := ⟨wipeSl st.r vs, st.s⟩
def noX : WX := fun _ _ _ _ => False
def compM (t : Tg) (tt : M Bool) (te : M AV) (vs : List Nat) : List AV → List AV → Ss → Res (List AV) Ss
  | [], acc, st => .ok acc st
  | d :: ds, acc, st => match t d st with
    | none => .bad
    | some s0 => match tt s0 with
      | .ok true s1 => (match te s1 with
        | .ok y s2 => if acc.length < 16777216 then compM t tt te vs ds (acc ++ [y]) (s2.wipe vs) else .bad
        | _ => .bad)
      | .ok false s1 => compM t tt te vs ds acc (s1.wipe vs)
      | _ => .bad
theorem wipe_wipe {σ : L2.St} {vs : List Nat} : L2.wipe (L2.wipe σ vs) vs = L2.wipe σ vs := by
  apply List.ext_getElem?
  intro i
  by_cases c : i ∈ vs
  · have z : ∀ (τ : L2.St) (l : List Nat), i ∈ l → (L2.wipe τ l)[i]? = if i < τ.length then some none else none := fun τ l => by
      induction l with
      | nil => intro z; cases z
      | cons a l ih =>
        intro z
        unfold L2.wipe
        by_cases e : a = i
        · subst e
          by_cases hl : a < τ.length
          · rw [if_pos hl, List.getElem?_set_self (by rw [wipe_length]; exact hl)]
          · rw [if_neg hl, List.getElem?_eq_none (by rw [List.length_set, wipe_length]; omega)]
        · rw [List.getElem?_set_ne e]
          exact ih (by
            rcases List.mem_cons.mp z with z | z
            · exact absurd z.symm e
            · exact z)
    rw [z _ _ c, z _ _ c, wipe_length]
  · rw [wipe_out c]
def tTrue : M Bool := fun st => .ok true st
def lcM (mi : M (List AV)) (t : Tg) (tt : M Bool) (te : M AV) (vs : List Nat) : M (List AV) := fun st => (mi st).bind fun ds s1 => compM t tt te vs ds [] (s1.wipe vs)
def eLc (o : Bool) (m : M (List AV)) : M AV := fun st => (m st).bind fun xs s1 => .ok (.lst o xs) s1
section
variable {K : PySem.W.Frag} {H H' : Hp} {W m : List Addr} {as : List Addr} {σ : L2.St} {r : List Sl}
theorem Rs.wipe1 (q : Rs K H W m σ r as) (i : Nat) : ∃ as', (∀ b ∈ as', b ∈ as) ∧ (as.Nodup → as'.Nodup) ∧ Rs K H W m (σ.set i none) (setSl r i .no) as' := by
  obtain ⟨as', h1, h2, h3⟩ := q.drop i
  refine ⟨as', h1, h2, ?_⟩
  clear h1 h2 q
  induction r generalizing i σ as' with
  | nil =>
    cases h3
    exact .nil
  | cons x r ih => cases i with
    | zero =>
      cases h3 with
      | no q => exact .no q
    | succ i =>
      cases h3 with
      | no q => exact .no (ih _ _ q)
      | im h0 q => exact .im h0 (ih _ _ q)
      | ow h0 q => exact .ow h0 (ih _ _ q)
theorem Rs.wipes (q : Rs K H W m σ r as) : ∀ vs : List Nat, ∃ as', (∀ b ∈ as', b ∈ as) ∧ (as.Nodup → as'.Nodup) ∧ Rs K H W m (L2.wipe σ vs) (wipeSl r vs) as'
  | [] => ⟨as, fun _ z => z, fun z => z, q⟩
  | v :: vs => by
    obtain ⟨a1, h1, h2, h3⟩ := q.wipes vs
    obtain ⟨a2, g1, g2, g3⟩ := h3.wipe1 v
    exact ⟨a2, fun b z => h1 b (g1 b z), fun z => g2 (h2 z), g3⟩
/-- a slot that tells nothing may hold anything -/
theorem Rs.any1 {i : Nat} {o : Option V} (q : Rs K H W m (σ.set i o) (setSl r i .no) as) : Rs K H W m σ (setSl r i .no) as := by
  induction r generalizing i σ as with
  | nil =>
    cases σ with
    | nil => exact q
    | cons a b =>
      have l := q.len
      simp [setSl] at l
  | cons x r ih => cases i with
    | zero =>
      cases σ with
      | nil => exact q
      | cons a b =>
        cases q with
        | no q => exact .no q
    | succ i =>
      cases σ with
      | nil => exact q
      | cons a b =>
        cases q with
        | no q => exact .no (ih q)
        | im h0 q => exact .im h0 (ih q)
        | ow h0 q => exact .ow h0 (ih q)
theorem setSl_comm : ∀ (r : List Sl) (i j : Nat), setSl (setSl r i .no) j .no = setSl (setSl r j .no) i .no
  | [], _, _ => rfl
  | _ :: _, 0, 0 => rfl
  | _ :: _, 0, _ + 1 => rfl
  | _ :: _, _ + 1, 0 => rfl
  | x :: r, i + 1, j + 1 => by simp [setSl_comm r i j]
theorem setSl_idem : ∀ (r : List Sl) (i : Nat), setSl (setSl r i .no) i .no = setSl r i .no
  | [], _ => rfl
  | _ :: _, 0 => rfl
  | x :: r, i + 1 => by simp [setSl_idem r i]
theorem wipeSl_set : ∀ (vs : List Nat) (r : List Sl) (i : Nat), wipeSl (setSl r i .no) vs = setSl (wipeSl r vs) i .no
  | [], _, _ => rfl
  | v :: vs, r, i => by
    show setSl (wipeSl (setSl r i .no) vs) v .no = setSl (setSl (wipeSl r vs) v .no) i .no
    rw [wipeSl_set vs r i, setSl_comm]
theorem wipeSl_idem : ∀ (vs : List Nat) (r : List Sl), wipeSl (wipeSl r vs) vs = wipeSl r vs
  | [], _ => rfl
  | v :: vs, r => by
    show setSl (wipeSl (setSl (wipeSl r vs) v .no) vs) v .no = setSl (wipeSl r vs) v .no
    rw [wipeSl_set, wipeSl_idem vs r, setSl_idem]
theorem Rs.any : ∀ (vs : List Nat) {σ : L2.St} {r : List Sl} {as : List Addr}, Rs K H W m (L2.wipe σ vs) (wipeSl r vs) as → Rs K H W m σ (wipeSl r vs) as
  | [], _, _, _, q => q
  | v :: vs, σ, r, as, q => by
    have q1 : Rs K H W m (L2.wipe σ vs) (setSl (wipeSl r vs) v .no) as := Rs.any1 (show Rs K H W m ((L2.wipe σ vs).set v none) (setSl (wipeSl r vs) v .no) as from q)
    rw [← wipeSl_set] at q1
    have q2 := Rs.any vs q1
    rw [wipeSl_set] at q2
    exact q2
end
section
variable {X : Cx} {Γ : Gam} {W : WX} {σ : L2.St} {H : Hp} {st : Ss} {p : Pd} {K : PySem.W.Frag} {pos : Pos}
theorem Rel.wipe (R : Rel K Γ σ H st p) (vs : List Nat) : Rel K Γ (L2.wipe σ vs) H (st.wipe vs) p := by
  obtain ⟨m, ar, am, ao, ab, R⟩ := R
  obtain ⟨ar', h1, h2, h3⟩ := R.rs.wipes vs
  have nd := R.nd
  have fr := R.fr
  have t : Tr H H (wOf Γ ar am ao) (wOf Γ ar' am ao) m m [] := Tr.same fun c z => by
    simp only [wOf, List.mem_append] at z ⊢
    grind
  refine ⟨m, ar', am, ao, ab, t.rs h3 (fun _ _ z => nomatch z), t.rp R.rm (fun _ _ z => nomatch z), t.rp0 R.ri, t.rp R.ro (fun _ _ z => nomatch z), t.rp R.rb (fun _ _ z => nomatch z), ?_, ?_, R.kp, R.pm, R.gu, R.tb⟩
  · simp only [wOf, List.nodup_append, List.mem_append] at nd ⊢
    grind
  · intro a ha
    have z := fr a
    simp only [List.mem_append] at z ha
    grind
theorem Rel.unwipe {vs : List Nat} {s0 : Ss} (R : Rel K Γ (L2.wipe σ vs) H (s0.wipe vs) p) : Rel K Γ σ H (s0.wipe vs) p := by
  obtain ⟨m, ar, am, ao, ab, R⟩ := R
  exact ⟨m, ar, am, ao, ab, Rs.any vs R.rs, R.rm, R.ri, R.ro, R.rb, R.nd, R.fr, R.kp, R.pm, R.gu, R.tb⟩
/-- the owned list that is pending gets an item more -/
theorem Rel.appO {D : Addr} {acc : List AV} {y : V} {d : AV} (R : Rel K Γ σ H st ((p.own (.ref D) (.lst true acc)).sh y d)) : ∃ us, H D = some (.lst us) ∧ us.length = acc.length ∧ Rel K Γ σ (upd H D (.lst (us ++ [y]))) st (p.own (.ref D) (.lst true (acc ++ [d]))).nob := by
  obtain ⟨m, ar, am, ao, ab, R⟩ := R
  have ry := R.ri.head0.1
  have ri := R.ri.head0.2
  obtain ⟨b, ao', eo, r1, r2⟩ := R.ro.head
  obtain ⟨_, us, e0, rfl, h, q⟩ := r1.lsO_i
  cases e0
  · subst eo
    have nd := R.nd
    have hD : D ∈ wOf Γ ar am ([D] ++ ao') := by simp [wOf]
    have t : Tr H (upd H D (.lst (us ++ [y]))) (wOf Γ ar am ([D] ++ ao')) (wOf Γ ar am ([D] ++ ao')) m m [D] := Tr.put h rfl hD fun _ z => z
    have n1 : ∀ b ∈ ar, b ∉ [D] := fun b hb z => by
      simp only [wOf, List.nodup_append, List.mem_append, List.mem_singleton] at nd z
      grind
    have n2 : ∀ b ∈ am, b ∉ [D] := fun b hb z => by
      simp only [wOf, List.nodup_append, List.mem_append, List.mem_singleton] at nd z
      grind
    have n3 : ∀ b ∈ ao', b ∉ [D] := fun b hb z => by
      simp only [wOf, List.nodup_append, List.mem_append, List.mem_singleton] at nd z
      grind
    refine ⟨us, h, q.len, m, ar, am, [D] ++ ao', [], t.rs R.rs n1, t.rp R.rm n2, t.rp0 ri, (Rp.lsO upd_same ((t.rp0 q).app (t.rp0 ry)) .nil).cons (t.rp r2 n3), .nil, nd, R.fr, fun a o e n => ?_, R.pm, R.gu, tabs_put R.tb h rfl⟩
    obtain ⟨o', e', f⟩ := R.kp a o e n
    have ne : a ≠ D := by
      rintro rfl
      rcases R.fr a (by simp) with z | z
      · exact n z
      · rw [e] at z; cases z
    exact ⟨o', by rw [upd_ne ne]; exact e', f⟩
/-- what is owned and pending is given up -/
theorem Rel.frzO {v : V} {x d : AV} (R : Rel K Γ σ H st (p.own v x)) (e : Fk.frz x = some d) : Rel K Γ σ H st (p.sh v d) := by
  obtain ⟨m, ar, am, ao, ab, R⟩ := R
  obtain ⟨b, ao', eo, r1, r2⟩ := R.ro.head
  subst eo
  have nd := R.nd
  have fr := R.fr
  have hw : ∀ c, c ∈ wOf Γ ar am ao' → c ∈ wOf Γ ar am (b ++ ao') := fun c z => by
    simp only [wOf, List.mem_append] at z ⊢
    grind
  have t : Tr H H (wOf Γ ar am (b ++ ao')) (wOf Γ ar am ao') m m [] := Tr.same hw
  have rd := r1.frz e hw (fun c z => by
    simp only [wOf, List.nodup_append, List.mem_append] at nd ⊢
    grind)
  refine ⟨m, ar, am, ao', ab, t.rs R.rs (fun _ _ z => nomatch z), t.rp R.rm (fun _ _ z => nomatch z), rd.cons0 (t.rp0 R.ri), t.rp r2 (fun _ _ z => nomatch z), t.rp R.rb (fun _ _ z => nomatch z), ?_, ?_, R.kp, R.pm, R.gu, R.tb⟩
  · simp only [wOf, List.nodup_append, List.mem_append] at nd ⊢
    grind
  · intro a ha
    have z := fr a
    simp only [List.mem_append] at z ha
    grind
theorem pts_imp {es : List Expr} {t t' : TT} (h : PTs X es t) (i : ∀ σ H Q, t' σ H Q → t σ H Q) : PTs X es t' := ⟨fun pins s σ H Q I q => h.run pins s σ H Q I (i σ H Q q)⟩
theorem s_ts0 : PTs X [] (rdT X.K Γ W tTrue) := by
  refine pts_imp pts_nil fun σ H Q h => ?_
  obtain ⟨st, p, R, h⟩ := h
  exact h H R.nob
theorem s_ts1 {c : Expr} {m : M Bool} (h : PT X c (rdT X.K Γ W m)) : PTs X [c] (rdT X.K Γ W m) := pts_one h
/-- the comprehension's reading, the list that comes owned -/
theorem lc_in {mi : M (List AV)} {ns vs : List Nat} {t : Tg} {mt : M Bool} {me : M AV} {Q : VK} (hns : ∀ i ∈ ns, i ∈ vs) (h : rdO K Γ W (eLc true (lcM mi t mt me vs)) σ H Q) : tLc (rdI K Γ W mi) (rdG K Γ ns t) (rdT K Γ noX mt) (rdE K Γ noX me) vs σ H Q := by
  obtain ⟨st, p, R, h⟩ := h
  refine ⟨st, p, R, ?_⟩
  unfold eLc lcM at h
  cases ea : mi st with
  | bad => rw [ea] at h; exact h
  | err c s1 => rw [ea] at h; exact h
  | ok ds s1 =>
    rw [ea] at h
    simp only [Res.bind_ok] at h
    have h : match compM t mt me vs ds [] (s1.wipe vs) with
      | .ok xs st' => ∀ v H', Rel K Γ σ H' st' (p.nob.own v (.lst true xs)) → Q v H'
      | _ => False := by
      cases ec : compM t mt me vs ds [] (s1.wipe vs) with
      | bad => rw [ec] at h; exact h
      | err c s => 
        exfalso
        have noerr : ∀ (ds acc : List AV) (st : Ss) (c : Str) (s : Ss), compM t mt me vs ds acc st ≠ .err c s := fun ds => by
          induction ds with
          | nil => intro acc st c s z; cases z
          | cons d ds ih =>
            intro acc st c s z
            unfold compM at z
            cases e1 : t d st with
            | none => rw [e1] at z; cases z
            | some s0 =>
              rw [e1] at z
              cases e2 : mt s0 with
              | bad => simp only [e2] at z; cases z
              | err _ _ => simp only [e2] at z; cases z
              | ok b s1 =>
                cases b with
                | false => simp only [e2] at z; exact ih _ _ _ _ z
                | true =>
                  simp only [e2] at z
                  cases e3 : me s1 with
                  | bad => simp only [e3] at z; cases z
                  | err _ _ => simp only [e3] at z; cases z
                  | ok y s2 =>
                    simp only [e3] at z
                    split at z
                    · exact ih _ _ _ _ z
                    · cases z
        exact noerr _ _ _ _ _ ec
      | ok xs s => rw [ec] at h; exact h
    intro J H1 pv px hl R1 J1 D hD
    refine ⟨fun i n H => n = ds.length - i ∧ i ≤ ds.length ∧ ∃ (s0 : Ss) (acc : List AV), Rel K Γ (L2.wipe σ vs) H (s0.wipe vs) ((p.nob.shs pv px).own (.ref D) (.lst true acc)) ∧ (match compM t mt me vs (ds.drop i) acc (s0.wipe vs) with
      | .ok xs st' => ∀ v H', Rel K Γ σ H' st' (p.nob.own v (.lst true xs)) → Q v H'
      | _ => False), ⟨_, rfl, Nat.zero_le _, s1, [], ?_, h⟩, ?_⟩
    · obtain ⟨m, ar, am, ao, ab, R2⟩ := R1.wipe vs
      exact R2.newLst hD .nil
    rintro i n H ⟨rfl, hi, s0, acc, R2, h2⟩
    by_cases c : i < ds.length
    · rw [List.drop_eq_getElem_cons c] at h2
      unfold compM at h2
      cases et : t ds[i] (s0.wipe vs) with
      | none => rw [et] at h2; exact h2.elim
      | some s2 =>
        rw [et] at h2
        obtain ⟨go, yl⟩ := J1.1 i ds[i] (L2.wipe σ vs) H (s0.wipe vs) _ _ (by simp [c]) R2
        refine .inr ⟨go, fun H' => ∃ (s0 : Ss) (acc : List AV), Rel K Γ (L2.wipe σ vs) H' (s0.wipe vs) ((p.nob.shs pv px).own (.ref D) (.lst true acc)) ∧ (match compM t mt me vs (ds.drop (i + 1)) acc (s0.wipe vs) with
          | .ok xs st' => ∀ v H', Rel K Γ σ H' st' (p.nob.own v (.lst true xs)) → Q v H'
          | _ => False), fun H' ⟨s3, acc3, R3, h3⟩ => ⟨_, by omega, rfl, c, s3, acc3, R3, h3⟩, fun x H' y => ?_⟩
        refine ⟨_, _, ds[i], s2, yl x H' y, et, fun σ2 H2 w1 R3 => ⟨?_, s2, _, R3, ?_⟩⟩
        · have w2 := wipe_sub w1 hns
          have w3 : L2.wipe (L2.wipe σ vs) vs = L2.wipe σ vs := wipe_wipe
          exact w2.trans w3
        have back : ∀ {H : Hp} {st : Ss} {q : Pd}, Rel K Γ σ2 H st q → Rel K Γ (L2.wipe σ vs) H (st.wipe vs) q := fun z => by
          have z1 := z.wipe vs
          have w2 := wipe_sub w1 hns
          have w3 : L2.wipe (L2.wipe σ vs) vs = L2.wipe σ vs := wipe_wipe
          rw [w2.trans w3] at z1
          exact z1
        cases em : mt s2 with
        | bad => simp only [em] at h2
        | err _ _ => simp only [em] at h2
        | ok b s3 =>
          intro H3 R4
          cases b with
          | false =>
            simp only [em] at h2
            rw [if_neg Bool.false_ne_true]
            exact ⟨s3, acc, back R4, h2⟩
          | true =>
            simp only [em] at h2
            rw [if_pos rfl]
            refine ⟨s3, _, R4, ?_⟩
            cases ee : me s3 with
            | bad => simp only [ee] at h2
            | err _ _ => simp only [ee] at h2
            | ok d s4 =>
              simp only [ee] at h2
              intro y H4 R5
              obtain ⟨us, e1, e2, R6⟩ := Rel.appO (p := p.nob.shs pv px) R5
              by_cases cz : acc.length < 16777216
              · simp only [cz, if_true] at h2
                exact ⟨us, e1, by rw [e2, mx_eq]; exact cz, s4, acc ++ [d], back R6, h2⟩
              · simp only [cz, if_false] at h2
    · have e : i = ds.length := by omega
      subst e
      rw [List.drop_length] at h2
      refine .inl ⟨J1.2 _ H _ _ _ R2, ?_⟩
      have R3 := R2.unwipe
      exact h2 (.ref D) H (Rel.dropL (p := p.nob.own (.ref D) (.lst true acc)) hl R3)
theorem s_lcO {elt tg iter : Expr} {ifs : List Expr} {scope : Scope} {own : List (Str × Nat)} {mi : M (List AV)} {ns : List Nat} {t : Tg} {mt : M Bool} {me : M AV} (hc : X.calm = true) (hN : X.N.Nodup) (hi : PI X tg iter (rdI X.K Γ W mi)) (ok : BlkOk X.N X.env.scope scope own)
    (hg : ∀ (s : Shared) (H : Hp) (C : Addr) (cl : List (Str × Addr)) (fp : List Addr), PG (X.blk s H scope (compEnvC scope cl C X.env) fp) tg (rdG X.K Γ ns t)) (ht : ∀ (s : Shared) (H : Hp) (C : Addr) (cl : List (Str × Addr)) (fp : List Addr), PTs (X.blk s H scope (compEnvC scope cl C X.env) fp) ifs (rdT X.K Γ noX mt))
    (he : ∀ (s : Shared) (H : Hp) (C : Addr) (cl : List (Str × Addr)) (fp : List Addr), PE (X.blk s H scope (compEnvC scope cl C X.env) fp) elt (rdE X.K Γ noX me)) (hns : ∀ i ∈ ns, i ∈ own.map (·.2) := by decide) (hs : ∀ x, foldedSetIterable iter X.env x = pure x := by intro _; rfl) :
    PE X (.ListComp elt [⟨tg, iter, ifs, 0⟩] scope pos) (rdO X.K Γ W (eLc true (lcM mi t mt me (own.map (·.2))))) :=
  pe_imp (pe_lc hc hN hi ok hg ht he hs) fun σ H Q h => lc_in hns h
theorem frz_in {m : M (List AV)} {Q : VK} (h : rdE K Γ W (eLc false m) σ H Q) : rdO K Γ W (eLc true m) σ H Q := by
  obtain ⟨st, p, R, h⟩ := h
  refine ⟨st, p, R, ?_⟩
  unfold eLc at h ⊢
  cases ea : m st with
  | bad => rw [ea] at h; exact h
  | err c s1 => rw [ea] at h; exact h
  | ok xs s1 => rw [ea] at h; exact fun v H' R' => h v H' (R'.frzO rfl)
theorem s_lc {elt tg iter : Expr} {ifs : List Expr} {scope : Scope} {own : List (Str × Nat)} {mi : M (List AV)} {ns : List Nat} {t : Tg} {mt : M Bool} {me : M AV} (hc : X.calm = true) (hN : X.N.Nodup) (hi : PI X tg iter (rdI X.K Γ W mi)) (ok : BlkOk X.N X.env.scope scope own)
    (hg : ∀ (s : Shared) (H : Hp) (C : Addr) (cl : List (Str × Addr)) (fp : List Addr), PG (X.blk s H scope (compEnvC scope cl C X.env) fp) tg (rdG X.K Γ ns t)) (ht : ∀ (s : Shared) (H : Hp) (C : Addr) (cl : List (Str × Addr)) (fp : List Addr), PTs (X.blk s H scope (compEnvC scope cl C X.env) fp) ifs (rdT X.K Γ noX mt))
    (he : ∀ (s : Shared) (H : Hp) (C : Addr) (cl : List (Str × Addr)) (fp : List Addr), PE (X.blk s H scope (compEnvC scope cl C X.env) fp) elt (rdE X.K Γ noX me)) (hns : ∀ i ∈ ns, i ∈ own.map (·.2) := by decide) (hs : ∀ x, foldedSetIterable iter X.env x = pure x := by intro _; rfl) :
    PE X (.ListComp elt [⟨tg, iter, ifs, 0⟩] scope pos) (rdE X.K Γ W (eLc false (lcM mi t mt me (own.map (·.2))))) :=
  pe_imp (s_lcO hc hN hi ok hg ht he hns hs) fun σ H Q h => frz_in h
/-- name = [..] on one line -/
theorem s_asgLc {i : Nat} {y : Str} {py spos : Pos} {elt tg iter : Expr} {ifs : List Expr} {scope : Scope} {own : List (Str × Nat)} {mi : M (List AV)} {ns : List Nat} {t : Tg} {mt : M Bool} {me : M AV} (hc : X.calm = true) (hN : X.N.Nodup) (hy : X.N[i]? = some y) (hyl : X.env.scope.names.lookup y = some .local)
    (hsw : swapsWith (.ListComp elt [⟨tg, iter, ifs, 0⟩] scope pos) (some (.Name y py)) spos.line X.env = pure true) (hi : PI X tg iter (rdI X.K Γ W mi)) (ok : BlkOk X.N X.env.scope scope own)
    (hg : ∀ (s : Shared) (H : Hp) (C : Addr) (cl : List (Str × Addr)) (fp : List Addr), PG (X.blk s H scope (compEnvC scope cl C X.env) fp) tg (rdG X.K Γ ns t)) (ht : ∀ (s : Shared) (H : Hp) (C : Addr) (cl : List (Str × Addr)) (fp : List Addr), PTs (X.blk s H scope (compEnvC scope cl C X.env) fp) ifs (rdT X.K Γ noX mt))
    (he : ∀ (s : Shared) (H : Hp) (C : Addr) (cl : List (Str × Addr)) (fp : List Addr), PE (X.blk s H scope (compEnvC scope cl C X.env) fp) elt (rdE X.K Γ noX me)) (hns : ∀ i ∈ ns, i ∈ own.map (·.2) := by decide) (hs : ∀ x, foldedSetIterable iter X.env x = pure x := by intro _; rfl) :
    PS X (.Assign [.Name y py] (.ListComp elt [⟨tg, iter, ifs, 0⟩] scope pos) spos) (rdS X.K Γ W (sAsg i (eLc false (lcM mi t mt me (own.map (·.2)))))) := by
  refine ps_imp (ps_setLc hc hN hy hyl hsw hi ok hg ht he hs) fun D σ H h => ?_
  obtain ⟨st, p, R, hp, h⟩ := h
  refine lc_in hns (frz_in ⟨st, p, R, ?_⟩)
  unfold sAsg at h
  cases ea : eLc false (lcM mi t mt me (own.map (·.2))) st with
  | bad => rw [ea] at h; exact h
  | err c s1 => rw [ea] at h; exact fun H' R' => h σ H' (hp ▸ R')
  | ok d s1 =>
    rw [ea] at h
    simp only [Res.bind_ok] at h
    exact fun v H' R' => h _ H' (Rel.put (nob_sh hp ▸ R') i)
theorem takes_noX : L2N.Takes X noX := fun u s' x => by
  obtain ⟨_, _, _, _, _, _, _, _, _, _, _, _, _, _, _, _, w⟩ := x
  exact w.elim
end
end Fk
/-! ## built-ins, subscripts, what is looked at alone -/
namespace Fk
open PySem PySem.Spec PyProof.Rows L2
/-- from values (the objects told) a shared one -/
def OpA (K : PySem.W.Frag) (r : List V → Hp → VK → Prop) (f : List AV → List AV → Option AV) : Prop := ∀ (Γ : Gam) (σ : L2.St) (H : Hp) (st : Ss) (p : Pd) (m ar am ao ab : List Addr) (vs : List V) (xs : List AV) (as : List Addr) (d : AV) (Q : VK),
  Rl K Γ σ H st p m ar am ao ab → Rp K H (wOf Γ ar am ao) m vs xs as → f st.s xs = some d → (∀ v H', Rel K Γ σ H' st (p.nob.sh v d) → Q v H') → r vs H Q
/-- .. a new list -/
def OpL (K : PySem.W.Frag) (r : List V → Hp → VK → Prop) (f : List AV → List AV → Option (List AV)) : Prop := ∀ (Γ : Gam) (σ : L2.St) (H : Hp) (st : Ss) (p : Pd) (m ar am ao ab : List Addr) (vs : List V) (xs : List AV) (as : List Addr) (ys : List AV) (Q : VK),
  Rl K Γ σ H st p m ar am ao ab → Rp K H (wOf Γ ar am ao) m vs xs as → f st.s xs = some ys → (∀ q us, H q = none → Rp K H (wOf Γ ar am ao) m us ys [] → Q (.ref q) (upd H q (.lst us))) → r vs H Q
def eB (f : List AV → List AV → Option AV) (a : M (List AV)) : M AV := fun st => (a st).bind fun xs s1 => ofO (f s1.s xs) s1
def fL (o : Bool) (f : List AV → List AV → Option (List AV)) : List AV → List AV → Option AV := fun S xs => (f S xs).map (AV.lst o)
/-- arguments that are looked at alone -/
def rdAP (K : PySem.W.Frag) (Γ : Gam) (m : Ss → Option (List AV)) : TA := fun σ H Q => ∃ st p ds, Rel K Γ σ H st p ∧ m st = some ds ∧ ∀ vs, vs.length = ds.length → Rel K Γ σ H st { p with bv := vs ++ p.bv, bx := ds ++ p.bx } → Q vs H
def eBP (f : List AV → List AV → Option AV) (a : Ss → Option (List AV)) : M AV := fun st => match a st with
  | some xs => ofO (f st.s xs) st
  | none => .bad
def pNil : Ss → Option (List AV) := fun _ => some []
def pCons (a : Ss → Option AV) (r : Ss → Option (List AV)) : Ss → Option (List AV) := fun st => (a st).bind fun x => (r st).map (x :: ·)
def pVar (i : Nat) : Ss → Option AV := fun st => match getSl st.r i with
  | .im d => some d
  | .ow d => some d
  | .no => none
def pC (d : AV) : Ss → Option AV := fun _ => some d
def p2 (f : AV → AV → Option AV) (a b : Ss → Option AV) : Ss → Option AV := fun st => (a st).bind fun x => (b st).bind fun y => f x y
def imm : AV → Bool
  | .lst o _ => !o
  | .dct o _ _ => !o
  | .nst _ => false
  | .ndc _ _ => false
  | .ins _ _ _ => false
  | _ => true
def eP (m : Ss → Option AV) : M AV := fun st => match m st with
  | some d => bif imm d then .ok d st else .bad
  | none => .bad
section
variable {X : Cx} {Γ : Gam} {W : WX} {σ : L2.St} {H : Hp} {st : Ss} {p : Pd} {K : PySem.W.Frag} {pos q : Pos} {e : Expr} {es : List Expr} {ma : M (List AV)} {mp : Ss → Option (List AV)}
theorem Rl.freshL {m ar am ao ab : List Addr} (R : Rl K Γ σ H st p m ar am ao ab) {q : Addr} {us : List V} {ys : List AV} (h : H q = none) (r : Rp K H (wOf Γ ar am ao) m us ys []) (o : Bool) : (o = false → Rel K Γ σ (upd H q (.lst us)) st (p.nob.sh (.ref q) (.lst o ys))) ∧ (o = true → Rel K Γ σ (upd H q (.lst us)) st (p.nob.own (.ref q) (.lst o ys))) :=
  ⟨fun e => by subst e; exact (R.nob.lst h r).rel, fun e => by subst e; exact R.nob.newLst h r⟩
theorem OpL.a {r : List V → Hp → VK → Prop} {f : List AV → List AV → Option (List AV)} (h : OpL K r f) : OpA K r (fL false f) := by
  intro Γ σ H st p m ar am ao ab vs xs as d Q R r1 e q
  obtain ⟨ys, ey, rfl⟩ := Option.map_eq_some_iff.mp e
  exact h Γ σ H st p m ar am ao ab vs xs as ys Q R r1 ey fun a us ha ru => q _ _ ((R.freshL ha ru false).1 rfl)
theorem callB_in {r : List V → Hp → VK → Prop} {f : List AV → List AV → Option AV} {Q : VK} (ho : OpA K r f) (h : rdE K Γ W (eB f ma) σ H Q) : rdA K Γ W ma σ H fun vs H1 => r vs H1 Q := by
  obtain ⟨st, p, R, h⟩ := h
  refine ⟨st, p, R, ?_⟩
  unfold eB at h
  cases ea : ma st with
  | bad => rw [ea] at h; exact h
  | err c s1 => rw [ea] at h; exact h
  | ok xs s1 =>
    rw [ea] at h
    simp only [Res.bind_ok] at h
    intro vs H1 hl R1
    obtain ⟨m, ar, am, ao, ab, R2, r1⟩ := Rel.args (p := p.nob) hl R1
    cases ef : f s1.s xs with
    | none => simp only [ef, ofO_none] at h
    | some d =>
      simp only [ef, ofO_some] at h
      exact ho Γ σ H1 s1 _ m ar am ao ab vs xs _ d Q R2 r1 ef h
theorem callBP_in {r : List V → Hp → VK → Prop} {f : List AV → List AV → Option AV} {Q : VK} (ho : OpA K r f) (h : rdE K Γ W (eBP f mp) σ H Q) : rdAP K Γ mp σ H fun vs H1 => r vs H1 Q := by
  obtain ⟨st, p, R, h⟩ := h
  unfold eBP at h
  cases ea : mp st with
  | none => simp only [ea] at h
  | some xs =>
    simp only [ea] at h
    cases ef : f st.s xs with
    | none => simp only [ef, ofO_none] at h
    | some d =>
      simp only [ef, ofO_some] at h
      refine ⟨st, p, xs, R, ea, fun vs hl R1 => ?_⟩
      obtain ⟨m, ar, am, ao, ab, R1⟩ := R1
      obtain ⟨a1, a2, _, r1, r2⟩ := Rp.app_inv hl R1.rb
      exact ho Γ σ H st p m ar am ao a2 vs xs _ d Q (R1.setB (p := { p with bv := vs ++ p.bv, bx := xs ++ p.bx }) r2) r1 ef h
/-- .. an owned list -/
theorem callO_in {r : List V → Hp → VK → Prop} {f : List AV → List AV → Option (List AV)} {Q : VK} (ho : OpL K r f) (h : rdO K Γ W (eB (fL true f) ma) σ H Q) : rdA K Γ W ma σ H fun vs H1 => r vs H1 Q := by
  obtain ⟨st, p, R, h⟩ := h
  refine ⟨st, p, R, ?_⟩
  unfold eB at h
  cases ea : ma st with
  | bad => rw [ea] at h; exact h
  | err c s1 => rw [ea] at h; exact h
  | ok xs s1 =>
    rw [ea] at h
    simp only [Res.bind_ok, fL] at h
    intro vs H1 hl R1
    obtain ⟨m, ar, am, ao, ab, R2, r1⟩ := Rel.args (p := p.nob) hl R1
    cases ef : f s1.s xs with
    | none => simp only [ef, Option.map_none, ofO_none] at h
    | some ys =>
      simp only [ef, Option.map_some, ofO_some] at h
      exact ho Γ σ H1 s1 _ m ar am ao ab vs xs _ ys Q R2 r1 ef fun a us ha ru => h _ _ ((R2.freshL ha ru true).2 rfl)
theorem callOP_in {r : List V → Hp → VK → Prop} {f : List AV → List AV → Option (List AV)} {Q : VK} (ho : OpL K r f) (h : rdO K Γ W (eBP (fL true f) mp) σ H Q) : rdAP K Γ mp σ H fun vs H1 => r vs H1 Q := by
  obtain ⟨st, p, R, h⟩ := h
  unfold eBP at h
  cases ea : mp st with
  | none => simp only [ea] at h
  | some xs =>
    simp only [ea, fL] at h
    cases ef : f st.s xs with
    | none => simp only [ef, Option.map_none, ofO_none] at h
    | some ys =>
      simp only [ef, Option.map_some, ofO_some] at h
      refine ⟨st, p, xs, R, ea, fun vs hl R1 => ?_⟩
      obtain ⟨m, ar, am, ao, ab, R1⟩ := R1
      obtain ⟨a1, a2, _, r1, r2⟩ := Rp.app_inv hl R1.rb
      have R2 := R1.setB (p := { p with bv := vs ++ p.bv, bx := xs ++ p.bx }) r2
      exact ho Γ σ H st p m ar am ao a2 vs xs _ ys Q R2 r1 ef fun a us ha ru => h _ _ ((R2.freshL ha ru true).2 rfl)
/-! calls by name -/
variable {id : String} {x : Str} {r : List V → Hp → VK → Prop} {f : List AV → List AV → Option AV} {fl : List AV → List AV → Option (List AV)} {T : String}
theorem s_cb (hc : CallR X (.builtin id) r) (ho : OpA X.K r f) (hg : Gl X x) (hm : X.mg x = none) (hv : bootBuiltins x = some (.builtin id)) (ha : PA X (e :: es) (rdA X.K Γ W ma)) (hn : x ≠ "__name__" := by decide) (hdb : (x == ("__debug__" : Str)) = false := by decide)
    (he : starEach (e :: es) X.env = (false, eval e X.env) :: starEach es X.env := by rfl) (hpl : (backTo pos (starEach es X.env)).any (·.1) = false := by rfl) : PE X (.Call (.Name x q) (e :: es) [] pos) (rdE X.K Γ W (eB f ma)) :=
  pe_imp (pe_callB hc hg hm hv ha hn hdb he hpl) fun σ H Q h => callB_in ho h
theorem s_cbP (hc : CallR X (.builtin id) r) (ho : OpA X.K r f) (hg : Gl X x) (hm : X.mg x = none) (hv : bootBuiltins x = some (.builtin id)) (ha : PA X (e :: es) (rdAP X.K Γ mp)) (hn : x ≠ "__name__" := by decide) (hdb : (x == ("__debug__" : Str)) = false := by decide)
    (he : starEach (e :: es) X.env = (false, eval e X.env) :: starEach es X.env := by rfl) (hpl : (backTo pos (starEach es X.env)).any (·.1) = false := by rfl) : PE X (.Call (.Name x q) (e :: es) [] pos) (rdE X.K Γ W (eBP f mp)) :=
  pe_imp (pe_callB hc hg hm hv ha hn hdb he hpl) fun σ H Q h => callBP_in ho h
theorem s_cbO (hc : CallR X (.builtin id) r) (ho : OpL X.K r fl) (hg : Gl X x) (hm : X.mg x = none) (hv : bootBuiltins x = some (.builtin id)) (ha : PA X (e :: es) (rdA X.K Γ W ma)) (hn : x ≠ "__name__" := by decide) (hdb : (x == ("__debug__" : Str)) = false := by decide)
    (he : starEach (e :: es) X.env = (false, eval e X.env) :: starEach es X.env := by rfl) (hpl : (backTo pos (starEach es X.env)).any (·.1) = false := by rfl) : PE X (.Call (.Name x q) (e :: es) [] pos) (rdO X.K Γ W (eB (fL true fl) ma)) :=
  pe_imp (pe_callB hc hg hm hv ha hn hdb he hpl) fun σ H Q h => callO_in ho h
theorem s_cbOP (hc : CallR X (.builtin id) r) (ho : OpL X.K r fl) (hg : Gl X x) (hm : X.mg x = none) (hv : bootBuiltins x = some (.builtin id)) (ha : PA X (e :: es) (rdAP X.K Γ mp)) (hn : x ≠ "__name__" := by decide) (hdb : (x == ("__debug__" : Str)) = false := by decide)
    (he : starEach (e :: es) X.env = (false, eval e X.env) :: starEach es X.env := by rfl) (hpl : (backTo pos (starEach es X.env)).any (·.1) = false := by rfl) : PE X (.Call (.Name x q) (e :: es) [] pos) (rdO X.K Γ W (eBP (fL true fl) mp)) :=
  pe_imp (pe_callB hc hg hm hv ha hn hdb he hpl) fun σ H Q h => callOP_in ho h
theorem s_ct (hc : CallR X (.type T) r) (ho : OpA X.K r f) (hg : Gl X x) (hm : X.mg x = none) (hv : bootBuiltins x = some (.type T)) (ha : PA X (e :: es) (rdA X.K Γ W ma)) (hn : x ≠ "__name__" := by decide) (hdb : (x == ("__debug__" : Str)) = false := by decide)
    (he : starEach (e :: es) X.env = (false, eval e X.env) :: starEach es X.env := by rfl) (hpl : (backTo pos (starEach es X.env)).any (·.1) = false := by rfl) : PE X (.Call (.Name x q) (e :: es) [] pos) (rdE X.K Γ W (eB f ma)) :=
  pe_imp (pe_callTy hc hg hm hv ha hn hdb he hpl) fun σ H Q h => callB_in ho h
theorem s_ctP (hc : CallR X (.type T) r) (ho : OpA X.K r f) (hg : Gl X x) (hm : X.mg x = none) (hv : bootBuiltins x = some (.type T)) (ha : PA X (e :: es) (rdAP X.K Γ mp)) (hn : x ≠ "__name__" := by decide) (hdb : (x == ("__debug__" : Str)) = false := by decide)
    (he : starEach (e :: es) X.env = (false, eval e X.env) :: starEach es X.env := by rfl) (hpl : (backTo pos (starEach es X.env)).any (·.1) = false := by rfl) : PE X (.Call (.Name x q) (e :: es) [] pos) (rdE X.K Γ W (eBP f mp)) :=
  pe_imp (pe_callTy hc hg hm hv ha hn hdb he hpl) fun σ H Q h => callBP_in ho h
theorem s_ctO (hc : CallR X (.type T) r) (ho : OpL X.K r fl) (hg : Gl X x) (hm : X.mg x = none) (hv : bootBuiltins x = some (.type T)) (ha : PA X (e :: es) (rdA X.K Γ W ma)) (hn : x ≠ "__name__" := by decide) (hdb : (x == ("__debug__" : Str)) = false := by decide)
    (he : starEach (e :: es) X.env = (false, eval e X.env) :: starEach es X.env := by rfl) (hpl : (backTo pos (starEach es X.env)).any (·.1) = false := by rfl) : PE X (.Call (.Name x q) (e :: es) [] pos) (rdO X.K Γ W (eB (fL true fl) ma)) :=
  pe_imp (pe_callTy hc hg hm hv ha hn hdb he hpl) fun σ H Q h => callO_in ho h
theorem s_ctOP (hc : CallR X (.type T) r) (ho : OpL X.K r fl) (hg : Gl X x) (hm : X.mg x = none) (hv : bootBuiltins x = some (.type T)) (ha : PA X (e :: es) (rdAP X.K Γ mp)) (hn : x ≠ "__name__" := by decide) (hdb : (x == ("__debug__" : Str)) = false := by decide)
    (he : starEach (e :: es) X.env = (false, eval e X.env) :: starEach es X.env := by rfl) (hpl : (backTo pos (starEach es X.env)).any (·.1) = false := by rfl) : PE X (.Call (.Name x q) (e :: es) [] pos) (rdO X.K Γ W (eBP (fL true fl) mp)) :=
  pe_imp (pe_callTy hc hg hm hv ha hn hdb he hpl) fun σ H Q h => callOP_in ho h
/-! looked at alone -/
theorem Rel.lkC {v : V} {d : AV} (R : Rel K Γ σ H st p) (h : ∀ W m, Rp K H W m [v] [d] []) : Rel K Γ σ H st (p.lk v d) := by
  obtain ⟨m, ar, am, ao, ab, R⟩ := R
  exact ⟨m, ar, am, ao, ab, R.setB ((h _ _).cons0 R.rb)⟩
theorem q_var {i : Nat} (hN : X.N[i]? = some x) (hv : Vis X.env.scope x) (hd : (x == ("__debug__" : Str)) = false := by decide) (hcd : (x == ("__classdict__" : Str)) = false := by decide) : PE X (.Name x pos) (rdP X.K Γ (pVar i)) := by
  refine pe_imp (pe_var hN hv hd hcd) fun σ H Q h => ?_
  obtain ⟨st, p, d, R, e, h⟩ := h
  obtain ⟨m, ar, am, ao, ab, R⟩ := R
  unfold pVar at e
  cases eg : getSl st.r i with
  | no => rw [eg] at e; cases e
  | im d' =>
    rw [eg] at e
    cases e
    obtain ⟨v, ev, rv⟩ := R.rs.getIm eg
    exact ⟨v, ev, h v ⟨m, ar, am, ao, ab, R.setB (rv.cons0 R.rb)⟩⟩
  | ow d' =>
    rw [eg] at e
    cases e
    obtain ⟨v, a1, b, a2, ev, _, rv, _⟩ := R.rs.getOw eg
    exact ⟨v, ev, h v ⟨m, ar, am, ao, b ++ ab, R.setB (rv.cons R.rb)⟩⟩
theorem q_int {i : Int} {j : Nat} : PE X (.Constant (.int i) j pos) (rdP X.K Γ (pC (.int i))) := by
  refine pe_imp pe_int fun σ H Q h => ?_
  obtain ⟨st, p, d, R, e, h⟩ := h
  cases e
  exact h _ (R.lkC fun _ _ => .int .nil)
theorem q_str {i : Str} {j : Nat} : PE X (.Constant (.str i) j pos) (rdP X.K Γ (pC (.str i))) := by
  refine pe_imp pe_str fun σ H Q h => ?_
  obtain ⟨st, p, d, R, e, h⟩ := h
  cases e
  exact h _ (R.lkC fun _ _ => .str .nil)
theorem q_non {j : Nat} : PE X (.Constant .none j pos) (rdP X.K Γ (pC .non)) := by
  refine pe_imp pe_non fun σ H Q h => ?_
  obtain ⟨st, p, d, R, e, h⟩ := h
  cases e
  exact h _ (R.lkC fun _ _ => .non .nil)
theorem q_bl {i : Bool} {j : Nat} : PE X (.Constant (.bool i) j pos) (rdP X.K Γ (pC (.bl i))) := by
  refine pe_imp pe_bl fun σ H Q h => ?_
  obtain ⟨st, p, d, R, e, h⟩ := h
  cases e
  exact h _ (R.lkC fun _ _ => .bl .nil)
theorem imm_nil {v : V} {d : AV} {W m as : List Addr} (r : Rp K H W m [v] [d] as) (h : imm d = true) : as = [] := by
  cases r with
  | non r => exact r.nil_inv.2
  | bl r => exact r.nil_inv.2
  | int r => exact r.nil_inv.2
  | str r => exact r.nil_inv.2
  | tup _ _ r => exact r.nil_inv.2
  | lsI _ _ _ r => exact r.nil_inv.2
  | lsO _ _ r => cases h
  | dcI _ _ _ _ r => exact r.nil_inv.2
  | dcO _ _ _ r => cases h
  | scr _ _ r => exact r.nil_inv.2
  | nst _ _ r => cases h
  | ndc _ _ _ r => cases h
  | ins _ _ _ r => cases h
  | loc _ r => exact r.nil_inv.2
theorem s_ofP {m : Ss → Option AV} (h : PE X e (rdP X.K Γ m)) : PE X e (rdE X.K Γ W (eP m)) := by
  refine pe_imp h fun σ H Q h => ?_
  obtain ⟨st, p, R, h⟩ := h
  unfold eP at h
  cases em : m st with
  | none => simp only [em] at h
  | some d =>
    simp only [em] at h
    refine ⟨st, p, d, R, em, fun v R1 => ?_⟩
    cases ei : imm d with
    | false => simp only [ei, cond_false] at h
    | true =>
      simp only [ei, cond_true] at h
      obtain ⟨m, ar, am, ao, ab, R1⟩ := R1
      obtain ⟨a1, a2, _, r1, r2⟩ := R1.rb.head
      rw [imm_nil r1 ei] at r1
      exact h v H ⟨m, ar, am, ao, [], (R1.setB (p := p.lk v d) .nil).setI (r1.cons0 R1.ri)⟩
theorem q_nil : PA X [] (rdAP X.K Γ pNil) := by
  refine pa_imp pa_nil fun σ H Q h => ?_
  obtain ⟨st, p, ds, R, e, h⟩ := h
  cases e
  exact h [] rfl R
theorem q_cons {m : Ss → Option AV} {mr : Ss → Option (List AV)} (ha : PE X e (rdP X.K Γ m)) (hr : PA X es (rdAP X.K Γ mr)) (hs : starEach (e :: es) X.env = (false, eval e X.env) :: starEach es X.env := by rfl) : PA X (e :: es) (rdAP X.K Γ (pCons m mr)) := by
  refine pa_imp (pa_cons ha hr hs) fun σ H Q h => ?_
  obtain ⟨st, p, ds, R, e, h⟩ := h
  unfold pCons at e
  cases em : m st with
  | none => rw [em] at e; cases e
  | some d =>
    rw [em] at e
    obtain ⟨xs, er, rfl⟩ := Option.map_eq_some_iff.mp e
    refine ⟨st, p, d, R, em, fun v R1 => ⟨st, _, xs, R1, er, fun vs hl R2 => h (v :: vs) (by simp [hl]) ?_⟩⟩
    obtain ⟨m, ar, am, ao, ab, R2⟩ := R2
    obtain ⟨a1, a2, _, r1, r2⟩ := Rp.app_inv hl R2.rb
    obtain ⟨b1, b2, _, r3, r4⟩ := r2.head
    exact ⟨m, ar, am, ao, _, R2.setB (p := { p.lk v d with bv := vs ++ v :: p.bv, bx := xs ++ d :: p.bx }) (r3.cons (r1.app r4))⟩
/-- two that are looked at, an operator -/
theorem p2_in {r : R2} {f : AV → AV → Option AV} {a b : Ss → Option AV} {Q : VK} (ho : Op2 K r f) (h : rdE K Γ W (fun st => match p2 f a b st with | some d => .ok d st | none => .bad) σ H Q) : tOp r (rdP K Γ a) (rdP K Γ b) σ H Q := by
  obtain ⟨st, p, R, h⟩ := h
  unfold p2 at h
  cases ea : a st with
  | none => simp only [ea, Option.bind_none] at h
  | some x =>
    cases eb : b st with
    | none => simp only [ea, eb, Option.bind_some, Option.bind_none] at h
    | some y =>
      simp only [ea, eb, Option.bind_some] at h
      cases ef : f x y with
      | none => simp only [ef] at h
      | some d =>
        simp only [ef] at h
        refine ⟨st, p, x, R, ea, fun v1 R1 => ⟨st, _, y, R1, eb, fun v2 R2 => ?_⟩⟩
        obtain ⟨m, ar, am, ao, ab, R2⟩ := R2
        obtain ⟨c1, c2, _, r1, r2⟩ := R2.rb.head
        obtain ⟨c3, c4, _, r3, r4⟩ := r2.head
        exact ho Γ σ H st p m ar am ao _ v1 v2 x y d _ _ Q (R2.setB (p := (p.lk v1 x).lk v2 y) r4) r3 r1 ef h
def e2P (f : AV → AV → Option AV) (a b : Ss → Option AV) : M AV := fun st => match p2 f a b st with
  | some d => .ok d st
  | none => .bad
theorem s_opP {a b : Expr} {op : Operator} {r : R2} {f : AV → AV → Option AV} {ma mb : Ss → Option AV} (hr : OpR X (binaryOp op) r) (ho : Op2 X.K r f) (ha : PE X a (rdP X.K Γ ma)) (hb : PE X b (rdP X.K Γ mb)) : PE X (.BinOp a op b pos) (rdE X.K Γ W (e2P f ma mb)) :=
  pe_imp (pe_op hr ha hb) fun σ H Q h => p2_in ho h
theorem s_cmpP {a b : Expr} {op : CmpOp} {r : R2} {f : AV → AV → Option AV} {ma mb : Ss → Option AV} (hr : OpR X (compareOp op) r) (ho : Op2 X.K r f) (ha : PE X a (rdP X.K Γ ma)) (hb : PE X b (rdP X.K Γ mb)) (hm : behindInMarks op b = false) : PE X (.Compare a [op] [b] pos) (rdE X.K Γ W (e2P f ma mb)) :=
  pe_imp (pe_cmpR hr ha hb hm) fun σ H Q h => p2_in ho h
theorem s_tcmpP {a b : Expr} {op : CmpOp} {r : R2} {f : AV → AV → Option AV} {ma mb : Ss → Option AV} (hr : OpR X (compareOp op) r) (ho : Op2 X.K r f) (ha : PE X a (rdP X.K Γ ma)) (hb : PE X b (rdP X.K Γ mb)) (hm : behindInMarks op b = false) : PT X (.Compare a [op] [b] pos) (rdT X.K Γ W (tOf (e2P f ma mb))) := by
  refine pt_imp (pt_cmpR hr ha hb hm) fun σ H Q h => ?_
  obtain ⟨st, p, R, h⟩ := tOf_in h
  exact p2_in ho ⟨st, p, R, h⟩
end
end Fk
/-! ## what the built-ins are worth -/
namespace Fk
open PySem PySem.Spec PyProof.Rows L2
theorem CallR.or {X : Cx} {f : Value} {r r' : List V → Hp → VK → Prop} (h : CallR X f r) (h' : CallR X f r') : CallR X f (fun xs H Q => r xs H Q ∨ r' xs H Q) := by
  intro pins s σ H xs us Q I rv q
  rcases q with q | q
  · exact h pins s σ H xs us Q I rv q
  · exact h' pins s σ H xs us Q I rv q
/-- an object looked up -/
def deref (S : List AV) : AV → Option AV
  | .loc l => S[l]?
  | x => some x
def lenA : AV → Option Nat
  | .lst _ xs => some xs.length
  | .tup xs => some xs.length
  | .scr xs => some xs.length
  | .nst xs => some xs.length
  | .str z => if z.length ≤ 16777216 then some z.length else none
  | .dct _ ks _ => some ks.length
  | .ndc ks _ => some ks.length
  | _ => none
def fLen (S : List AV) : List AV → Option AV
  | [x] => ((deref S x).bind lenA).map fun n => .int (n : Nat)
  | _ => none
def fInt (_ : List AV) : List AV → Option AV
  | [.int i] => some (.int i)
  | [.bl b] => some (.int (if b then 1 else 0))
  | _ => none
def fMax2 (_ : List AV) : List AV → Option AV
  | [.int i, .int j] => some (.int (if j > i then j else i))
  | _ => none
def fMin2 (_ : List AV) : List AV → Option AV
  | [.int i, .int j] => some (.int (if j < i then j else i))
  | _ => none
def asBs : List AV → Option (List Bool)
  | [] => some []
  | .bl b :: xs => (asBs xs).map (b :: ·)
  | _ :: _ => none
def asIs : List AV → Option (List Int)
  | [] => some []
  | .int b :: xs => (asIs xs).map (b :: ·)
  | _ :: _ => none
def lsOf : AV → Option (List AV)
  | .lst _ xs => some xs
  | _ => none
def fAll (_ : List AV) : List AV → Option AV
  | [x] => ((lsOf x).bind asBs).map fun bs => .bl (bs.all id)
  | _ => none
def fAny (_ : List AV) : List AV → Option AV
  | [x] => ((lsOf x).bind asBs).map fun bs => .bl (bs.any id)
  | _ => none
def fSum (_ : List AV) : List AV → Option AV
  | [x] => ((lsOf x).bind asIs).map fun bs => .int bs.sum
  | _ => none
def mxI : List Int → Option Int
  | [] => none
  | x :: xs => some (xs.foldl max x)
def mnI : List Int → Option Int
  | [] => none
  | x :: xs => some (xs.foldl min x)
def fMaxL (_ : List AV) : List AV → Option AV
  | [x] => (((lsOf x).bind asIs).bind mxI).map .int
  | _ => none
def fMinL (_ : List AV) : List AV → Option AV
  | [x] => (((lsOf x).bind asIs).bind mnI).map .int
  | _ => none
def fTup (_ : List AV) : List AV → Option AV
  | [.lst _ xs] => some (.tup xs)
  | [.tup xs] => some (.tup xs)
  | _ => none
def fList (_ : List AV) : List AV → Option (List AV)
  | [.lst _ xs] => some xs
  | [.tup xs] => some xs
  | [.scr xs] => some xs
  | _ => none
/-- ints in order -/
def insI (x : Int) : List Int → List Int
  | [] => [x]
  | y :: ys => if x ≤ y then x :: y :: ys else y :: insI x ys
def srtI : List Int → List Int
  | [] => []
  | x :: xs => insI x (srtI xs)
def keysI : List Key → Option (List Int)
  | [] => some []
  | .inl i :: ks => (keysI ks).map (i :: ·)
  | .inr _ :: _ => none
def fSrt (_ : List AV) : List AV → Option (List AV)
  | [.lst _ xs] => (asIs xs).map fun ns => (srtI ns).map .int
  | [.dct _ ks _] => (keysI ks).bind fun ns => if ns.length < 64 then some ((srtI ns).map .int) else none
  | _ => none
def fRepr (_ : List AV) : List AV → Option AV
  | [x] => if pl x && (dat x).showable && decide ((dat x).depth ≤ 60) && !(dat x).hasDict && decide ((dat x).shown.length ≤ 16777216) then some (.str (dat x).shown) else none
  | _ => none
def isT (n : String) : AV → Bool
  | .bl _ => n == "bool" || n == "int"
  | .int _ => n == "int"
  | .str _ => n == "str"
  | .tup _ => n == "tuple"
  | .lst _ _ => n == "list"
  | .dct _ _ _ => n == "dict"
  | _ => false
def okT : AV → Bool
  | .non => true
  | .bl _ => true
  | .int _ => true
  | .str _ => true
  | .tup _ => true
  | .lst _ _ => true
  | .dct _ _ _ => true
  | _ => false
def eIsi (n : String) (m : M AV) : M AV := fun st => (m st).bind fun x s1 => bif okT x then .ok (.bl (isT n x)) s1 else .bad
section
variable {K : PySem.W.Frag} {H : Hp} {W m as : List Addr} {v : V} {vs : List V} {xs : List AV} {x : AV} {Γ : Gam} {σ : L2.St} {st : Ss} {p : Pd} {ar am ao ab : List Addr}
theorem Rp.one (r : Rp K H W m vs [x] as) : ∃ v, vs = [v] ∧ Rp K H W m [v] [x] as := by
  cases vs with
  | nil => cases r.nil_inv'.1
  | cons v vs =>
    obtain ⟨a1, a2, e, r1, r2⟩ := r.head
    obtain ⟨rfl, rfl⟩ := r2.nil_inv
    rw [List.append_nil] at e
    subst e
    exact ⟨v, rfl, r1⟩
theorem Rp.twoL {y : AV} (r : Rp K H W m vs [x, y] as) : ∃ v w' a1 a2, vs = [v, w'] ∧ Rp K H W m [v] [x] a1 ∧ Rp K H W m [w'] [y] a2 := by
  cases vs with
  | nil => cases r.nil_inv'.1
  | cons v vs =>
    obtain ⟨a1, a2, e, r1, r2⟩ := r.head
    obtain ⟨w', rfl, r3⟩ := r2.one
    exact ⟨v, w', a1, a2, rfl, r1, r3⟩
theorem Rl.deref (R : Rl K Γ σ H st p m ar am ao ab) {z : AV} (r : Rp K H (wOf Γ ar am ao) m [v] [x] as) (e : Fk.deref st.s x = some z) : ∃ as', Rp K H (wOf Γ ar am ao) m [v] [z] as' := by
  cases x with
  | loc l =>
    obtain ⟨a, rfl, hm⟩ := r.loc_i
    obtain ⟨v', a1, b, a2, e1, e2, _, r2, _⟩ := R.rm.at_ e
    rw [List.getElem?_map, hm] at e1
    cases e1
    exact ⟨b, r2⟩
  | _ =>
    cases e
    exact ⟨as, r⟩
/-- what stands behind a list's, a tuple's .. value -/
theorem Rp.sq {n : Nat} (r : Rp K H W m [v] [x] as) (e : lenA x = some n) : LenV K v H n ∨ ∃ a kvs, v = .ref a ∧ H a = some (.dK kvs) ∧ n = kvs.length := by
  cases r with
  | @str z _ _ _ _ =>
    have e2 : (if z.length ≤ 16777216 then some z.length else none) = some n := e
    by_cases c : z.length ≤ 16777216
    · rw [if_pos c] at e2
      cases e2
      exact .inl ⟨by rw [mx_eq]; exact c, rfl⟩
    · rw [if_neg c] at e2
      cases e2
  | tup h q _ => cases e; exact .inl (.inr ⟨_, h, q.len.symm⟩)
  | lsI h _ q _ => cases e; exact .inl (.inl ⟨_, SqL.of h, q.len.symm⟩)
  | lsO h q _ => cases e; exact .inl (.inl ⟨_, SqL.of h, q.len.symm⟩)
  | nst h q _ => cases e; exact .inl (.inl ⟨_, SqL.of h, q.len.symm⟩)
  | scr h q _ => cases e; exact .inl (.inl ⟨_, h.sq, q.len.symm⟩)
  | dcI h _ ek q _ => cases e; exact .inr ⟨_, _, rfl, h, by rw [← ek]; simp⟩
  | dcO h ek q _ => cases e; exact .inr ⟨_, _, rfl, h, by rw [← ek]; simp⟩
  | ndc h ek q _ => cases e; exact .inr ⟨_, _, rfl, h, by rw [← ek]; simp⟩
  | _ => cases e
def uLen (K : PySem.W.Frag) : List V → Hp → VK → Prop := fun xs H Q => (∃ x n, xs = [x] ∧ LenV K x H n ∧ Q (.int n) H) ∨ ∃ d kvs, xs = [.ref d] ∧ H d = some (.dK kvs) ∧ Q (.int kvs.length) H
theorem o_len : OpA K (uLen K) fLen := by
  intro Γ σ H st p m ar am ao ab vs xs as d Q R r e h
  unfold fLen at e
  split at e
  · obtain ⟨v, rfl, r1⟩ := r.one
    obtain ⟨n, en, rfl⟩ := Option.map_eq_some_iff.mp e
    obtain ⟨z, ez, el⟩ := Option.bind_eq_some_iff.mp en
    obtain ⟨as', r2⟩ := R.deref r1 ez
    rcases r2.sq el with q | ⟨a, kvs, rfl, q1, rfl⟩
    · exact .inl ⟨v, n, rfl, q, h _ _ (R.nob.rel.int _)⟩
    · exact .inr ⟨a, kvs, rfl, q1, h _ _ (R.nob.rel.int _)⟩
  · cases e
theorem o_int : OpA K uInt fInt := by
  intro Γ σ H st p m ar am ao ab vs xs as d Q R r e h
  unfold fInt at e
  split at e
  · cases e
    obtain ⟨v, rfl, r1⟩ := r.one
    obtain rfl := r1.int_i
    exact .inl ⟨_, rfl, h _ _ (R.nob.rel.int _)⟩
  · cases e
    obtain ⟨v, rfl, r1⟩ := r.one
    obtain rfl := r1.bl_i
    exact .inr ⟨_, rfl, h _ _ (R.nob.rel.int _)⟩
  · cases e
theorem o_max2 : OpA K uMax2 fMax2 := by
  intro Γ σ H st p m ar am ao ab vs xs as d Q R r e h
  unfold fMax2 at e
  split at e
  · cases e
    obtain ⟨v, w', a1, a2, rfl, r1, r2⟩ := r.twoL
    obtain rfl := r1.int_i
    obtain rfl := r2.int_i
    exact ⟨_, _, rfl, h _ _ (R.nob.rel.int _)⟩
  · cases e
theorem o_min2 : OpA K uMin2 fMin2 := by
  intro Γ σ H st p m ar am ao ab vs xs as d Q R r e h
  unfold fMin2 at e
  split at e
  · cases e
    obtain ⟨v, w', a1, a2, rfl, r1, r2⟩ := r.twoL
    obtain rfl := r1.int_i
    obtain rfl := r2.int_i
    exact ⟨_, _, rfl, h _ _ (R.nob.rel.int _)⟩
  · cases e
theorem asBs_v : ∀ {xs : List AV} {bs : List Bool} {us : List V} {as : List Addr}, Rp K H W m us xs as → asBs xs = some bs → us = bs.map V.bl
  | [], bs, us, as, r, e => by cases e; exact r.nil_inv.1
  | x :: xs, bs, us, as, r, e => by
    cases x with
    | bl b =>
      obtain ⟨cs, ec, rfl⟩ := Option.map_eq_some_iff.mp (show (asBs xs).map (b :: ·) = some bs from e)
      cases us with
      | nil => cases r.nil_inv'.1
      | cons u us =>
        obtain ⟨a1, a2, _, r1, r2⟩ := r.head
        rw [r1.bl_i, asBs_v r2 ec]
        rfl
    | _ => cases e
theorem asIs_v : ∀ {xs : List AV} {bs : List Int} {us : List V} {as : List Addr}, Rp K H W m us xs as → asIs xs = some bs → us = bs.map V.int
  | [], bs, us, as, r, e => by cases e; exact r.nil_inv.1
  | x :: xs, bs, us, as, r, e => by
    cases x with
    | int b =>
      obtain ⟨cs, ec, rfl⟩ := Option.map_eq_some_iff.mp (show (asIs xs).map (b :: ·) = some bs from e)
      cases us with
      | nil => cases r.nil_inv'.1
      | cons u us =>
        obtain ⟨a1, a2, _, r1, r2⟩ := r.head
        rw [r1.int_i, asIs_v r2 ec]
        rfl
    | _ => cases e
theorem lsOf_v {ys : List AV} (r : Rp K H W m [v] [x] as) (e : lsOf x = some ys) : ∃ a us, v = .ref a ∧ H a = some (.lst us) ∧ Rp K H W m us ys [] := by
  cases x with
  | lst o xs => cases e; exact r.lst_i
  | _ => cases e
theorem o_all : OpA K (rAll K) fAll := by
  intro Γ σ H st p m ar am ao ab vs xs as d Q R r e h
  unfold fAll at e
  split at e
  · obtain ⟨v, rfl, r1⟩ := r.one
    obtain ⟨bs, en, rfl⟩ := Option.map_eq_some_iff.mp e
    obtain ⟨z, ez, el⟩ := Option.bind_eq_some_iff.mp en
    obtain ⟨a, us, rfl, hs, q⟩ := lsOf_v r1 ez
    have eu := asBs_v q el
    subst eu
    exact ⟨a, bs, rfl, SqL.of hs, h _ _ (R.nob.rel.bl _)⟩
  · cases e
theorem o_any : OpA K (rAny K) fAny := by
  intro Γ σ H st p m ar am ao ab vs xs as d Q R r e h
  unfold fAny at e
  split at e
  · obtain ⟨v, rfl, r1⟩ := r.one
    obtain ⟨bs, en, rfl⟩ := Option.map_eq_some_iff.mp e
    obtain ⟨z, ez, el⟩ := Option.bind_eq_some_iff.mp en
    obtain ⟨a, us, rfl, hs, q⟩ := lsOf_v r1 ez
    have eu := asBs_v q el
    subst eu
    exact ⟨a, bs, rfl, SqL.of hs, h _ _ (R.nob.rel.bl _)⟩
  · cases e
theorem o_sum : OpA K (rSum K) fSum := by
  intro Γ σ H st p m ar am ao ab vs xs as d Q R r e h
  unfold fSum at e
  split at e
  · obtain ⟨v, rfl, r1⟩ := r.one
    obtain ⟨bs, en, rfl⟩ := Option.map_eq_some_iff.mp e
    obtain ⟨z, ez, el⟩ := Option.bind_eq_some_iff.mp en
    obtain ⟨a, us, rfl, hs, q⟩ := lsOf_v r1 ez
    have eu := asIs_v q el
    subst eu
    exact ⟨a, bs, rfl, SqL.of hs, h _ _ (R.nob.rel.int _)⟩
  · cases e
theorem mx_foldl : ∀ (xs : List Int) (x : Int), (∀ y ∈ xs, y ≤ xs.foldl max x) ∧ x ≤ xs.foldl max x ∧ (xs.foldl max x = x ∨ xs.foldl max x ∈ xs)
  | [], x => ⟨(fun _ z => nomatch z), Int.le_refl _, Or.inl rfl⟩
  | y :: ys, x => by
    obtain ⟨h1, h2, h3⟩ := mx_foldl ys (max x y)
    simp only [List.foldl_cons, List.mem_cons]
    grind
theorem mn_foldl : ∀ (xs : List Int) (x : Int), (∀ y ∈ xs, xs.foldl min x ≤ y) ∧ xs.foldl min x ≤ x ∧ (xs.foldl min x = x ∨ xs.foldl min x ∈ xs)
  | [], x => ⟨(fun _ z => nomatch z), Int.le_refl _, Or.inl rfl⟩
  | y :: ys, x => by
    obtain ⟨h1, h2, h3⟩ := mn_foldl ys (min x y)
    simp only [List.foldl_cons, List.mem_cons]
    grind
theorem o_maxL : OpA K (rMax K) fMaxL := by
  intro Γ σ H st p m ar am ao ab vs xs as d Q R r e h
  unfold fMaxL at e
  split at e
  · obtain ⟨v, rfl, r1⟩ := r.one
    obtain ⟨k, ek, rfl⟩ := Option.map_eq_some_iff.mp e
    obtain ⟨bs, en, eb⟩ := Option.bind_eq_some_iff.mp ek
    obtain ⟨z, ez, el⟩ := Option.bind_eq_some_iff.mp en
    obtain ⟨a, us, rfl, hs, q⟩ := lsOf_v r1 ez
    have eu := asIs_v q el
    subst eu
    cases bs with
    | nil => cases eb
    | cons b bs =>
      cases eb
      refine ⟨a, b :: bs, rfl, SqL.of hs, by simp, fun k hk hm => ?_⟩
      obtain ⟨h1, h2, h3⟩ := mx_foldl bs b
      have e1 : k = bs.foldl max b := by
        have z1 := hm (bs.foldl max b) (by rcases h3 with z | z <;> simp [z])
        have z2 : k ≤ bs.foldl max b := by
          rcases List.mem_cons.mp hk with z | z
          · rw [z]; exact h2
          · exact h1 k z
        omega
      rw [e1]
      exact h _ _ (R.nob.rel.int _)
  · cases e
theorem o_minL : OpA K (rMin K) fMinL := by
  intro Γ σ H st p m ar am ao ab vs xs as d Q R r e h
  unfold fMinL at e
  split at e
  · obtain ⟨v, rfl, r1⟩ := r.one
    obtain ⟨k, ek, rfl⟩ := Option.map_eq_some_iff.mp e
    obtain ⟨bs, en, eb⟩ := Option.bind_eq_some_iff.mp ek
    obtain ⟨z, ez, el⟩ := Option.bind_eq_some_iff.mp en
    obtain ⟨a, us, rfl, hs, q⟩ := lsOf_v r1 ez
    have eu := asIs_v q el
    subst eu
    cases bs with
    | nil => cases eb
    | cons b bs =>
      cases eb
      refine ⟨a, b :: bs, rfl, SqL.of hs, by simp, fun k hk hm => ?_⟩
      obtain ⟨h1, h2, h3⟩ := mn_foldl bs b
      have e1 : k = bs.foldl min b := by
        have z1 := hm (bs.foldl min b) (by rcases h3 with z | z <;> simp [z])
        have z2 : bs.foldl min b ≤ k := by
          rcases List.mem_cons.mp hk with z | z
          · rw [z]; exact h2
          · exact h1 k z
        omega
      rw [e1]
      exact h _ _ (R.nob.rel.int _)
  · cases e
theorem o_tuple : OpA K (uTuple K) fTup := by
  intro Γ σ H st p m ar am ao ab vs xs as d Q R r e h
  unfold fTup at e
  split at e
  · cases e
    obtain ⟨v, rfl, r1⟩ := r.one
    obtain ⟨a, us, rfl, hs, q⟩ := r1.lst_i
    exact ⟨a, us, rfl, .inl ⟨SqL.of hs, fun l hl => h _ _ (R.nob.tup hl q).rel⟩⟩
  · cases e
    obtain ⟨v, rfl, r1⟩ := r.one
    obtain ⟨a, us, rfl, hs, q⟩ := r1.tup_i
    exact ⟨a, us, rfl, .inr ⟨hs, h _ _ (R.nob.sh (.tup hs q .nil))⟩⟩
  · cases e
theorem o_list : OpL K (uList K) fList := by
  intro Γ σ H st p m ar am ao ab vs xs as ys Q R r e h
  unfold fList at e
  split at e
  · cases e
    obtain ⟨v, rfl, r1⟩ := r.one
    obtain ⟨a, us, rfl, hs, q⟩ := r1.lst_i
    exact ⟨a, us, rfl, .inl (SqL.of hs), fun l hl => h l us hl q⟩
  · cases e
    obtain ⟨v, rfl, r1⟩ := r.one
    obtain ⟨a, us, rfl, hs, q⟩ := r1.tup_i
    exact ⟨a, us, rfl, .inr hs, fun l hl => h l us hl q⟩
  · cases e
    obtain ⟨v, rfl, r1⟩ := r.one
    obtain ⟨a, us, rfl, hs, q⟩ := r1.scr_i
    exact ⟨a, us, rfl, .inl hs.sq, fun l hl => h l us hl q⟩
  · cases e
theorem insI_perm (x : Int) : ∀ ys : List Int, (insI x ys).Perm (x :: ys)
  | [] => List.Perm.refl _
  | y :: ys => by
    unfold insI
    split
    · exact List.Perm.refl _
    · exact (List.Perm.cons y (insI_perm x ys)).trans (List.Perm.swap x y ys)
theorem srtI_perm : ∀ xs : List Int, (srtI xs).Perm xs
  | [] => List.Perm.refl _
  | x :: xs => (insI_perm x (srtI xs)).trans (List.Perm.cons x (srtI_perm xs))
theorem insI_srt (x : Int) : ∀ {ys : List Int}, ys.Pairwise (· ≤ ·) → (insI x ys).Pairwise (· ≤ ·)
  | [], _ => by simp [insI]
  | y :: ys, h => by
    unfold insI
    obtain ⟨h1, h2⟩ := List.pairwise_cons.mp h
    split
    · rename_i c
      refine List.pairwise_cons.mpr ⟨fun z hz => ?_, h⟩
      rcases List.mem_cons.mp hz with e | hz
      · omega
      · have := h1 z hz
        omega
    · rename_i c
      refine List.pairwise_cons.mpr ⟨fun z hz => ?_, insI_srt x h2⟩
      rcases List.mem_cons.mp ((insI_perm x ys).mem_iff.mp hz) with e | hz
      · omega
      · exact h1 z hz
theorem srtI_srt : ∀ xs : List Int, (srtI xs).Pairwise (· ≤ ·)
  | [] => List.Pairwise.nil
  | x :: xs => insI_srt x (srtI_srt xs)
theorem srt_uniq : ∀ {xs ys : List Int}, xs.Perm ys → xs.Pairwise (· ≤ ·) → ys.Pairwise (· ≤ ·) → xs = ys := fun p h1 h2 =>
  List.Perm.eq_of_pairwise (le := (· ≤ ·)) (fun a b _ _ h h' => by omega) h1 h2 p
theorem rp_ints : ∀ ns : List Int, Rp K H W m (ns.map V.int) (ns.map AV.int) []
  | [] => .nil
  | n :: ns => .int (rp_ints ns)
theorem keysI_v : ∀ {ks : List Key} {ns : List Int}, keysI ks = some ns → ks = ns.map Sum.inl
  | [], ns, e => by cases e; rfl
  | .inl i :: ks, ns, e => by
    obtain ⟨cs, ec, rfl⟩ := Option.map_eq_some_iff.mp (show (keysI ks).map (i :: ·) = some ns from e)
    rw [keysI_v ec]
    rfl
  | .inr _ :: _, ns, e => by cases e
def uSrt (K : PySem.W.Frag) : List V → Hp → VK → Prop := fun vs H Q => rSortedI K vs H Q ∨ ∃ (a : Addr) (kvs : List (Key × V)) (ks : List Int), vs = [.ref a] ∧ Rd H a (.dK kvs) ∧ kvs.map (·.1) = ks.map Sum.inl ∧ ks.length < 64 ∧
    ∀ (ys : List Int) (p : Addr), ys.Perm ks → ys.Pairwise (· ≤ ·) → H p = none → Q (.ref p) (upd H p (.lst (ys.map V.int)))
theorem c_srt {X : Cx} (hc : X.calm = true) : CallR X (.builtin "sorted") (uSrt X.K) := CallR.or cr_sortedI (call_sortedDI hc)
theorem o_srt : OpL K (uSrt K) fSrt := by
  intro Γ σ H st p m ar am ao ab vs xs as ys Q R r e h
  unfold fSrt at e
  split at e
  · obtain ⟨v, rfl, r1⟩ := r.one
    obtain ⟨ns, en, rfl⟩ := Option.map_eq_some_iff.mp e
    obtain ⟨a, us, rfl, hs, q⟩ := r1.lst_i
    have eu := asIs_v q en
    subst eu
    refine .inl ⟨a, ns, rfl, SqL.of hs, fun ns' q p1 p2 hq => ?_⟩
    have e1 : ns' = srtI ns := srt_uniq (p1.trans (srtI_perm ns).symm) p2 (srtI_srt ns)
    subst e1
    exact h q _ hq (rp_ints _)
  · obtain ⟨v, rfl, r1⟩ := r.one
    obtain ⟨ns, en, e2⟩ := Option.bind_eq_some_iff.mp e
    split at e2
    · cases e2
      obtain ⟨a, kvs, rfl, hs, ek, q⟩ := r1.dct_i
      refine .inr ⟨a, kvs, ns, rfl, .inl hs, ek.trans (keysI_v en), by assumption, fun ns' q p1 p2 hq => ?_⟩
      have e1 : ns' = srtI ns := srt_uniq (p1.trans (srtI_perm ns).symm) p2 (srtI_srt ns)
      subst e1
      exact h q _ hq (rp_ints _)
    · cases e2
  · cases e
theorem o_repr : OpA K (uRepr K) fRepr := by
  intro Γ σ H st p m ar am ao ab vs xs as d Q R r e h
  unfold fRepr at e
  split at e
  · split at e
    · cases e
      rename_i c
      simp only [Bool.and_eq_true, decide_eq_true_eq, Bool.not_eq_true'] at c
      obtain ⟨v, rfl, r1⟩ := r.one
      exact ⟨v, _, rfl, r1.dp c.1.1.1.1, c.1.1.1.2, c.1.1.2, c.1.2, by rw [mx_eq]; exact c.2, h _ _ (R.nob.rel.str _)⟩
    · cases e
  · cases e
end
/-! ### isinstance -/
section
variable {X : Cx} {Γ : Gam} {W : WX} {σ : L2.St} {H : Hp} {st : Ss} {p : Pd} {K : PySem.W.Frag} {pos q : Pos}
def tyA : AV → String
  | .non => "NoneType"
  | .bl _ => "bool"
  | .int _ => "int"
  | .str _ => "str"
  | .tup _ => "tuple"
  | .dct _ _ _ => "dict"
  | _ => "list"
theorem tyX_of {W m as : List Addr} {v : V} {x : AV} (r : Rp K H W m [v] [x] as) (h : okT x = true) : TyX K H v (.type (tyA x)) := by
  cases r with
  | non _ => exact .base .non
  | bl _ => exact .base (.bl _)
  | int _ => exact .base (.int _)
  | str _ => exact .base (.str _)
  | tup hs _ _ =>
    rcases hs with (hs | ⟨o, hs⟩) | ⟨o, _, _, hk, hc, _⟩
    · exact .base (.tup hs)
    · exact .fTuple hs
    · exact .kTuple hk hc
  | lsI hs _ _ _ => exact .base (.lst hs)
  | lsO hs _ _ => exact .base (.lst hs)
  | dcI hs _ _ _ _ => exact .base (.dK hs)
  | dcO hs _ _ _ => exact .base (.dK hs)
  | _ => cases h
theorem kit_A {n : String} (hn : n = "int" ∨ n = "bool" ∨ n = "str" ∨ n = "tuple" ∨ n = "list" ∨ n = "dict") {x : AV} (h : okT x = true) : kitB (tyA x) n = some (isT n x) := by
  cases x with
  | non => rcases hn with rfl | rfl | rfl | rfl | rfl | rfl <;> (simp only [tyA, isT]; decide +kernel)
  | bl _ => rcases hn with rfl | rfl | rfl | rfl | rfl | rfl <;> (simp only [tyA, isT]; decide +kernel)
  | int _ => rcases hn with rfl | rfl | rfl | rfl | rfl | rfl <;> (simp only [tyA, isT]; decide +kernel)
  | str _ => rcases hn with rfl | rfl | rfl | rfl | rfl | rfl <;> (simp only [tyA, isT]; decide +kernel)
  | tup _ => rcases hn with rfl | rfl | rfl | rfl | rfl | rfl <;> (simp only [tyA, isT]; decide +kernel)
  | lst _ _ => rcases hn with rfl | rfl | rfl | rfl | rfl | rfl <;> (simp only [tyA, isT]; decide +kernel)
  | dct _ _ _ => rcases hn with rfl | rfl | rfl | rfl | rfl | rfl <;> (simp only [tyA, isT]; decide +kernel)
  | _ => cases h
/-- isinstance(e, T), T a built-in type -/
theorem s_isi {e : Expr} {n : String} {y : Str} {m : M AV} {q2 : Pos} (hn : n = "int" ∨ n = "bool" ∨ n = "str" ∨ n = "tuple" ∨ n = "list" ∨ n = "dict") (hg : Gl X "isinstance") (hm : X.mg "isinstance" = none) (hgt : Gl X y) (hmt : X.mg y = none) (hvt : bootBuiltins y = some (.type n)) (he : PE X e (rdE X.K Γ W m))
    (hny : y ≠ "__name__" := by decide) (hdy : (y == ("__debug__" : Str)) = false := by decide)
    (hs : starEach [e, .Name y q2] X.env = (false, eval e X.env) :: starEach [.Name y q2] X.env := by rfl) (hs2 : starEach [.Name y q2] X.env = (false, eval (.Name y q2) X.env) :: starEach [] X.env := by rfl) (hpl : (backTo pos (starEach [.Name y q2] X.env)).any (·.1) = false := by rfl) :
    PE X (.Call (.Name "isinstance" q) [e, .Name y q2] [] pos) (rdE X.K Γ W (eIsi n m)) := by
  refine pe_imp (pe_callB call_isi hg hm (by decide +kernel) (pa_cons he (pa_cons (pe_bltn (v := .ty n) hgt hmt hvt rfl hny hdy) pa_nil hs2) hs) (by decide) (by decide) hs hpl) fun σ H Q h => ?_
  obtain ⟨st, p, R, h⟩ := h
  refine ⟨st, p, R, ?_⟩
  unfold eIsi at h
  cases ea : m st with
  | bad => rw [ea] at h; exact h
  | err c s1 => rw [ea] at h; exact h
  | ok x s1 =>
    rw [ea] at h
    simp only [Res.bind_ok] at h
    intro v H1 R1
    cases eo : okT x with
    | false => simp only [eo, cond_false] at h
    | true =>
      simp only [eo, cond_true] at h
      obtain ⟨mm, ar, am, ao, ab, R2, r⟩ := R1.one
      exact ⟨v, .ty n, .type (tyA x), .type n, isT n x, rfl, .ty n, tyX_of r eo, kit_ty (kit_A hn eo), h _ _ (R2.rel.bl _)⟩
end
end Fk
/-! ## subscripts, slices, globals, zip and enumerate -/
namespace Fk
open PySem PySem.Spec PyProof.Rows L2
def getK : List Key → List AV → Key → Option AV
  | k' :: ks, x :: xs, k => if k' = k then some x else getK ks xs k
  | _, _, _ => none
def keyA : AV → Option Key
  | .int i => some (.inl i)
  | .str x => some (.inr x)
  | _ => none
def seqA : AV → Option (List AV)
  | .lst _ xs => some xs
  | .tup xs => some xs
  | .scr xs => some xs
  | .nst xs => some xs
  | _ => none
def dicA : AV → Option (List Key × List AV)
  | .dct _ ks xs => some (ks, xs)
  | .ndc ks xs => some (ks, xs)
  | _ => none
/-- an item -/
def itA (x y : AV) : Option AV := match seqA x with
  | some xs => (match y with
    | .int i => atI xs i
    | _ => none)
  | none => match dicA x with
    | some (ks, xs) => (keyA y).bind fun k => getK ks xs k
    | none => match x, y with
      | .str z, .int i => if z.length ≤ 16777216 then (atI z.cps.toList i).map fun c => .str ⟨#[c]⟩ else none
      | _, _ => none
def ixA (S : List AV) (x y : AV) : Option AV := (deref S x).bind fun z => itA z y
def eIx (a b : M AV) : M AV := fun st => (a st).bind fun x s1 => (b s1).bind fun y s2 => match ixA s2.s x y with
  | some d => bif imm d then .ok d s2 else .bad
  | none => .bad
def pIx (a b : Ss → Option AV) : Ss → Option AV := fun st => (a st).bind fun x => (b st).bind fun y => ixA st.s x y
def rDG : R2 := fun x y H Q => ∃ a v, x = .ref a ∧ DGet H a y (some v) ∧ Q v H
section
variable {K : PySem.W.Frag} {H : Hp} {W m as a1 a2 : List Addr} {v v1 v2 : V} {x y d : AV} {Γ : Gam} {σ : L2.St} {st : Ss} {p : Pd} {ar am ao ab : List Addr}
theorem getK_v : ∀ {kvs : List (Key × V)} {ys : List AV} {as : List Addr} {k : Key}, Rp K H W m (kvs.map (·.2)) ys as → getK (kvs.map (·.1)) ys k = some d → ∃ v b, valV kvs k = some v ∧ Rp K H W m [v] [d] b
  | [], ys, as, k, r, e => by cases ys <;> cases e
  | (k', v) :: kvs, [], as, k, r, e => by cases e
  | (k', v) :: kvs, z :: ys, as, k, r, e => by
    obtain ⟨b1, b2, _, r1, r2⟩ := Rp.head (show Rp K H W m (v :: kvs.map (·.2)) (z :: ys) as from r)
    have e2 : (if k' = k then some z else getK (kvs.map (·.1)) ys k) = some d := e
    by_cases c : k' = k
    · rw [if_pos c] at e2
      cases e2
      exact ⟨v, b1, valV_pos (p := (k', v)) c, r1⟩
    · rw [if_neg c] at e2
      obtain ⟨v2, b, h1, h2⟩ := getK_v r2 e2
      exact ⟨v2, b, (valV_neg (p := (k', v)) c).trans h1, h2⟩
theorem keyA_v {k : Key} (r : Rp K H W m [v] [y] as) (e : keyA y = some k) : v = kV k := by
  cases y with
  | int i => cases e; exact r.int_i
  | str i => cases e; exact r.str_i
  | _ => cases e
theorem seqA_v {zs : List AV} (r : Rp K H W m [v] [x] as) (e : seqA x = some zs) : ∃ a us b, v = .ref a ∧ (SqL K H a us ∨ SqT K H a us) ∧ Rp K H W m us zs b := by
  cases r with
  | tup h q _ => cases e; exact ⟨_, _, _, rfl, .inr h, q⟩
  | lsI h _ q _ => cases e; exact ⟨_, _, _, rfl, .inl (SqL.of h), q⟩
  | lsO h q _ => cases e; exact ⟨_, _, _, rfl, .inl (SqL.of h), q⟩
  | nst h q _ => cases e; exact ⟨_, _, _, rfl, .inl (SqL.of h), q⟩
  | scr h q _ => cases e; exact ⟨_, _, _, rfl, .inl h.sq, q⟩
  | _ => cases e
theorem dicA_v {ks : List Key} {zs : List AV} (r : Rp K H W m [v] [x] as) (e : dicA x = some (ks, zs)) : ∃ a kvs b, v = .ref a ∧ H a = some (.dK kvs) ∧ kvs.map (·.1) = ks ∧ Rp K H W m (kvs.map (·.2)) zs b := by
  cases r with
  | dcI h _ ek q _ => cases e; exact ⟨_, _, _, rfl, h, ek, q⟩
  | dcO h ek q _ => cases e; exact ⟨_, _, _, rfl, h, ek, q⟩
  | ndc h ek q _ => cases e; exact ⟨_, _, _, rfl, h, ek, q⟩
  | _ => cases e
theorem atI_len {α β : Type} {xs : List α} {ys : List β} {i : Int} {x : α} (hl : xs.length = ys.length) (e : atI xs i = some x) : ∃ j y, ixN ys.length i = some j ∧ xs[j]? = some x ∧ ys[j]? = some y := by
  unfold atI at e
  obtain ⟨j, ej, ex⟩ := Option.bind_eq_some_iff.mp e
  have hj : j < xs.length := (List.getElem?_eq_some_iff.mp ex).1
  rw [hl] at ej
  exact ⟨j, ys[j]'(by omega), ej, ex, by simp⟩
/-- an item, by values -/
theorem it_sem (r1 : Rp K H W m [v1] [x] a1) (r2 : Rp K H W m [v2] [y] a2) (e : itA x y = some d) : ∃ v b, Rp K H W m [v] [d] b ∧ (dicA x = none → ∀ Q : VK, Q v H → rIx K v1 v2 H Q) ∧ (dicA x ≠ none → ∀ Q : VK, Q v H → rDG v1 v2 H Q) := by
  unfold itA at e
  cases es : seqA x with
  | some zs =>
    rw [es] at e
    obtain ⟨a, us, b, rfl, hs, q⟩ := seqA_v r1 es
    cases y with
    | int i =>
      obtain rfl := r2.int_i
      obtain ⟨j, u, ej, ez, eu⟩ := atI_len q.len.symm e
      obtain ⟨v', c1, c, c2, ev, _, _, rv, _⟩ := q.at_ ez
      rw [eu] at ev
      cases ev
      have hat : atI us i = some u := by
        unfold atI
        rw [ej]
        exact eu
      refine ⟨u, c, rv, fun _ Q hQ => ?_, fun z => absurd (by cases x <;> first | rfl | cases es) z⟩
      rcases hs with hs | hs
      · exact .inl ⟨a, us, i, u, rfl, rfl, hs, hat, hQ⟩
      · exact .inr (.inl ⟨a, us, i, u, rfl, rfl, hs, hat, hQ⟩)
    | _ => cases e
  | none =>
    rw [es] at e
    cases ed : dicA x with
    | some kz =>
      obtain ⟨ks, zs⟩ := kz
      rw [ed] at e
      obtain ⟨k, ek, eg⟩ := Option.bind_eq_some_iff.mp (show (keyA y).bind (fun k => getK ks zs k) = some d from e)
      obtain ⟨a, kvs, b, rfl, hs, hk, q⟩ := dicA_v r1 ed
      subst hk
      obtain ⟨v, c, h1, h2⟩ := getK_v q eg
      refine ⟨v, c, h2, (fun z => by cases z), fun _ Q hQ => ⟨a, v, rfl, ?_, hQ⟩⟩
      rw [keyA_v r2 ek, ← h1]
      exact DGet.k hs
    | none =>
      rw [ed] at e
      cases x with
      | str z =>
        cases y with
        | int i =>
          obtain rfl := r1.str_i
          obtain rfl := r2.int_i
          have e2 : (if z.length ≤ 16777216 then (atI z.cps.toList i).map fun c => AV.str ⟨#[c]⟩ else none) = some d := e
          by_cases c : z.length ≤ 16777216
          · rw [if_pos c] at e2
            obtain ⟨ch, ec, rfl⟩ := Option.map_eq_some_iff.mp e2
            exact ⟨.str ⟨#[ch]⟩, [], .str .nil, fun _ Q hQ => .inr (.inr ⟨z, i, ch, rfl, rfl, by rw [mx_eq]; exact c, ec, hQ⟩), fun z => absurd rfl z⟩
          · rw [if_neg c] at e2
            cases e2
        | _ => cases e
      | _ => cases e
end
section
variable {X : Cx} {Γ : Gam} {W : WX} {σ : L2.St} {H : Hp} {st : Ss} {p : Pd} {K : PySem.W.Frag} {pos q : Pos} {a b : Expr}
theorem s_ix {ma mb : M AV} (hu : X.A.units + 1 < cLine) (ha : PE X a (rdE X.K Γ W ma)) (hb : PE X b (rdE X.K Γ W mb)) (hs : PlainIx b := by exact fun _ _ => rfl) : PE X (.Subscript a b pos) (rdE X.K Γ W (eIx ma mb)) := by
  have hd : PE X (.Subscript a b pos) (tOp rDG (rdE X.K Γ W ma) (rdE X.K Γ W mb)) := pe_dget hu ha hb hs
  refine pe_imp (Fk.pe_or (pe_ix ix_seq ha hb hs) hd) fun σ H Q h => ?_
  obtain ⟨st, p, R, h⟩ := h
  unfold eIx at h
  -- the values that come decide which rule is taken
  have main : ∀ r : R2, (∀ x s1 y s2, ma st = .ok x s1 → mb s1 = .ok y s2 → ∀ v1 v2 H2, Rel X.K Γ σ H2 s2 ((p.nob.sh v1 x).sh v2 y) → r v1 v2 H2 Q) → tOp r (rdE X.K Γ W ma) (rdE X.K Γ W mb) σ H Q := by
    intro r hr
    refine ⟨st, p, R, ?_⟩
    cases ea : ma st with
    | bad => rw [ea] at h; exact h
    | err c s1 => rw [ea] at h; exact h
    | ok x s1 =>
      rw [ea] at h
      simp only [Res.bind_ok] at h
      intro v1 H1 R1
      refine ⟨s1, _, R1, ?_⟩
      cases eb : mb s1 with
      | bad => rw [eb] at h; exact h
      | err c s2 => rw [eb] at h; exact fun H2 R2 => h H2 R2.drop
      | ok y s2 => exact fun v2 H2 R2 => hr x s1 y s2 ea eb v1 v2 H2 R2
  cases ea : ma st with
  | bad => rw [ea] at h; exact h.elim
  | err c s1 =>
    left
    refine main _ fun x s1 y s2 e1 => ?_
    rw [ea] at e1; cases e1
  | ok x s1 =>
    rw [ea] at h
    simp only [Res.bind_ok] at h
    cases eb : mb s1 with
    | bad => rw [eb] at h; exact h.elim
    | err c s2 =>
      left
      refine main _ fun x' s1' y s2 e1 e2 => ?_
      rw [ea] at e1; cases e1
      rw [eb] at e2; cases e2
    | ok y s2 =>
      rw [eb] at h
      simp only [Res.bind_ok] at h
      cases ei : ixA s2.s x y with
      | none => simp only [ei] at h
      | some d =>
        simp only [ei] at h
        cases em : imm d with
        | false => simp only [em, cond_false] at h
        | true =>
          simp only [em, cond_true] at h
          obtain ⟨z, ez, e2⟩ := Option.bind_eq_some_iff.mp ei
          have fin : ∀ v1 v2 H2, Rel X.K Γ σ H2 s2 ((p.nob.sh v1 x).sh v2 y) → (dicA z = none → rIx X.K v1 v2 H2 Q) ∧ (dicA z ≠ none → rDG v1 v2 H2 Q) := fun v1 v2 H2 R2 => by
            obtain ⟨m, ar, am, ao, ab, R3, r1, r2⟩ := R2.two
            obtain ⟨as', r3⟩ := R3.deref r1 ez
            obtain ⟨v, b, rv, h1, h2⟩ := it_sem r3 r2 e2
            rw [imm_nil rv em] at rv
            exact ⟨fun z => h1 z Q (h v H2 (R3.nob.sh rv)), fun z => h2 z Q (h v H2 (R3.nob.sh rv))⟩
          by_cases c : dicA z = none
          · left
            refine main _ fun x' s1' y' s2' e1 e3 v1 v2 H2 R2 => ?_
            rw [ea] at e1; cases e1
            rw [eb] at e3; cases e3
            exact (fin v1 v2 H2 R2).1 c
          · right
            refine main _ fun x' s1' y' s2' e1 e3 v1 v2 H2 R2 => ?_
            rw [ea] at e1; cases e1
            rw [eb] at e3; cases e3
            exact (fin v1 v2 H2 R2).2 c
theorem q_ix {ma mb : Ss → Option AV} (hu : X.A.units + 1 < cLine) (ha : PE X a (rdP X.K Γ ma)) (hb : PE X b (rdP X.K Γ mb)) (hs : PlainIx b := by exact fun _ _ => rfl) : PE X (.Subscript a b pos) (rdP X.K Γ (pIx ma mb)) := by
  have hd : PE X (.Subscript a b pos) (tOp rDG (rdP X.K Γ ma) (rdP X.K Γ mb)) := pe_dget hu ha hb hs
  refine pe_imp (Fk.pe_or (pe_ix ix_seq ha hb hs) hd) fun σ H Q h => ?_
  obtain ⟨st, p, d, R, e, h⟩ := h
  obtain ⟨x, ea, e⟩ := Option.bind_eq_some_iff.mp e
  obtain ⟨y, eb, e⟩ := Option.bind_eq_some_iff.mp e
  obtain ⟨z, ez, e⟩ := Option.bind_eq_some_iff.mp e
  have fin : ∀ v1 v2, Rel X.K Γ σ H st ((p.lk v1 x).lk v2 y) → (dicA z = none → rIx X.K v1 v2 H Q) ∧ (dicA z ≠ none → rDG v1 v2 H Q) := fun v1 v2 R2 => by
    obtain ⟨m, ar, am, ao, ab, R2⟩ := R2
    obtain ⟨c1, c2, _, r2, r0⟩ := R2.rb.head
    obtain ⟨c3, c4, _, r1, r4⟩ := r0.head
    have R3 := R2.setB (p := (p.lk v1 x).lk v2 y) r4
    obtain ⟨as', r3⟩ := Rl.deref (p := p) R3 r1 ez
    obtain ⟨v, b, rv, h1, h2⟩ := it_sem r3 r2 e
    have R5 : Rel X.K Γ σ H st (p.lk v d) := ⟨m, ar, am, ao, _, R2.setB (p := (p.lk v1 x).lk v2 y) (rv.cons r4)⟩
    exact ⟨fun z => h1 z Q (h v R5), fun z => h2 z Q (h v R5)⟩
  by_cases c : dicA z = none
  · exact .inl ⟨st, p, x, R, ea, fun v1 R1 => ⟨st, _, y, R1, eb, fun v2 R2 => (fin v1 v2 R2).1 c⟩⟩
  · exact .inr ⟨st, p, x, R, ea, fun v1 R1 => ⟨st, _, y, R1, eb, fun v2 R2 => (fin v1 v2 R2).2 c⟩⟩
/-! ### slices -/
def cutA (xs : List AV) (lo hi : Option Int) : List AV := (xs.drop (HT.sIx xs.length 0 lo)).take (HT.sIx xs.length xs.length hi - HT.sIx xs.length 0 lo)
theorem cut_rp {W m : List Addr} {us : List V} {xs : List AV} {lo hi : Option Int} (r : Rp K H W m us xs []) : Rp K H W m (cutV us lo hi) (cutA xs lo hi) [] := by
  have dr : ∀ (n : Nat) {us : List V} {xs : List AV}, Rp K H W m us xs [] → Rp K H W m (us.drop n) (xs.drop n) [] := fun n => by
    induction n with
    | zero => intro us xs r; exact r
    | succ n ih =>
      intro us xs r
      cases us with
      | nil => obtain ⟨rfl, _⟩ := r.nil_inv'; exact .nil
      | cons u us => cases xs with
        | nil => cases r.nil_inv.1
        | cons x xs => exact ih r.head0.2
  have tk : ∀ (n : Nat) {us : List V} {xs : List AV}, Rp K H W m us xs [] → Rp K H W m (us.take n) (xs.take n) [] := fun n => by
    induction n with
    | zero => intro us xs r; exact .nil
    | succ n ih =>
      intro us xs r
      cases us with
      | nil => obtain ⟨rfl, _⟩ := r.nil_inv'; exact .nil
      | cons u us => cases xs with
        | nil => cases r.nil_inv.1
        | cons x xs => exact r.head0.1.cons0 (ih r.head0.2)
  have l := r.len
  unfold cutV cutA
  rw [l]
  exact tk _ (dr _ r)
def slA (x : AV) (lo hi : Option Int) : Option AV := match x with
  | .lst _ xs => some (.lst false (cutA xs lo hi))
  | .tup xs => some (.tup (cutA xs lo hi))
  | .str z => if z.length ≤ 16777216 then some (.str (cutS z lo hi)) else none
  | _ => none
theorem sl_sem {m ar am ao ab as : List Addr} {v : V} {x d : AV} {lo hi : Option Int} {Q : VK} (R : Rl K Γ σ H st p m ar am ao ab) (r : Rp K H (wOf Γ ar am ao) m [v] [x] as) (e : slA x lo hi = some d) (h : ∀ v H', Rel K Γ σ H' st (p.nob.sh v d) → Q v H') : uSl K v lo hi H Q := by
  unfold slA at e
  split at e
  · cases e
    obtain ⟨a, us, rfl, hs, q⟩ := r.lst_i
    exact .inl ⟨a, us, rfl, SqL.of hs, fun l hl => h _ _ (R.nob.lst hl (cut_rp q)).rel⟩
  · cases e
    obtain ⟨a, us, rfl, hs, q⟩ := r.tup_i
    refine .inr (.inl ⟨a, us, rfl, hs, fun c => ?_, fun _ l hl => h _ _ (R.nob.tup hl (cut_rp q)).rel⟩)
    have e1 : ∀ {xs : List AV}, us.length = xs.length → cutA xs lo hi = xs := fun {xs} l => by
      unfold cutA
      rw [← l, c.1, c.2]
      simp [l]
    rw [e1 q.len] at h
    exact h _ _ (R.nob.sh (.tup hs q .nil))
  · split at e
    · cases e
      obtain rfl := r.str_i
      exact .inr (.inr ⟨_, rfl, by rw [mx_eq]; assumption, h _ _ (R.nob.rel.str _)⟩)
    · cases e
  · cases e
/-- a slice's part -/
def oPart (o : Option (M AV)) : M (Option Int) := match o with
  | none => fun st => .ok none st
  | some m => fun st => (m st).bind fun x s1 => match x with
    | .int i => .ok (some i) s1
    | _ => .bad
def rdPO (K : PySem.W.Frag) (Γ : Gam) (W : WX) (m : M (Option Int)) : TO := fun σ H Q => ∃ st p, Rel K Γ σ H st p ∧ match m st with
  | .ok o st' => ∀ H', Rel K Γ σ H' st' p.nob → Q o H'
  | .err c st' => ∀ H', Rel K Γ σ H' st' p.nob → W (.ref (He.ga K c)) none σ H'
  | .bad => False
theorem po_imp {e : Option Expr} {t t' : TO} (h : PO X e t) (i : ∀ σ H Q, t' σ H Q → t σ H Q) : PO X e t' := ⟨fun pins s σ H Q I q => h.run pins s σ H Q I (i σ H Q q)⟩
theorem s_po0 : PO X none (rdPO X.K Γ W (oPart none)) := by
  refine po_imp po_none fun σ H Q h => ?_
  obtain ⟨st, p, R, h⟩ := h
  exact h H R.nob
theorem s_po1 {e : Expr} {m : M AV} (he : PE X e (rdE X.K Γ W m)) : PO X (some e) (rdPO X.K Γ W (oPart (some m))) := by
  refine po_imp (po_some he) fun σ H Q h => ?_
  obtain ⟨st, p, R, h⟩ := h
  refine ⟨st, p, R, ?_⟩
  simp only [oPart] at h
  cases ea : m st with
  | bad => rw [ea] at h; exact h
  | err c s1 => rw [ea] at h; exact h
  | ok x s1 =>
    rw [ea] at h
    simp only [Res.bind_ok] at h
    intro v H1 R1
    cases x with
    | int i =>
      obtain ⟨mm, ar, am, ao, ab, R2, r⟩ := R1.one
      exact ⟨i, r.int_i, h H1 R2.rel⟩
    | _ => exact h.elim
def eSl (a : M AV) (lo hi : Option (M AV)) : M AV := fun st => (a st).bind fun x s1 => (oPart lo s1).bind fun l s2 => (oPart hi s2).bind fun u s3 => ofO (slA x l u) s3
theorem s_sl {e : Expr} {lo hi : Option Expr} {me : M AV} {ml mh : Option (M AV)} {q2 : Pos} (he : PE X e (rdE X.K Γ W me)) (hl : PO X lo (rdPO X.K Γ W (oPart ml))) (hh : PO X hi (rdPO X.K Γ W (oPart mh))) : PE X (.Subscript e (.Slice lo hi none q2) pos) (rdE X.K Γ W (eSl me ml mh)) := by
  refine pe_imp (pe_slice sl_any he hl hh) fun σ H Q h => ?_
  obtain ⟨st, p, R, h⟩ := h
  refine ⟨st, p, R, ?_⟩
  unfold eSl at h
  cases ea : me st with
  | bad => rw [ea] at h; exact h
  | err c s1 => rw [ea] at h; exact h
  | ok x s1 =>
    rw [ea] at h
    simp only [Res.bind_ok] at h
    intro v H1 R1
    refine ⟨s1, _, R1, ?_⟩
    cases el : oPart ml s1 with
    | bad => rw [el] at h; exact h
    | err c s2 => rw [el] at h; exact fun H2 R2 => h H2 R2.drop
    | ok l s2 =>
      rw [el] at h
      simp only [Res.bind_ok] at h
      intro H2 R2
      refine ⟨s2, _, R2, ?_⟩
      cases eh : oPart mh s2 with
      | bad => rw [eh] at h; exact h
      | err c s3 => rw [eh] at h; exact fun H3 R3 => h H3 R3.drop
      | ok u s3 =>
        rw [eh] at h
        simp only [Res.bind_ok] at h
        intro H3 R3
        cases es : slA x l u with
        | none => simp only [es, ofO_none] at h
        | some d =>
          simp only [es, ofO_some] at h
          obtain ⟨m, ar, am, ao, ab, R4, r⟩ := Rel.one (p := p.nob) R3
          exact sl_sem R4 r es h
def revA : AV → Option AV
  | .lst _ xs => some (.lst false xs.reverse)
  | .tup xs => some (.tup xs.reverse)
  | _ => none
theorem rev_rp {W m : List Addr} : ∀ {us : List V} {xs : List AV}, Rp K H W m us xs [] → Rp K H W m us.reverse xs.reverse []
  | [], xs, r => by obtain ⟨rfl, _⟩ := r.nil_inv'; exact .nil
  | u :: us, [], r => by cases r.nil_inv.1
  | u :: us, x :: xs, r => by
    rw [List.reverse_cons, List.reverse_cons]
    exact (rev_rp r.head0.2).app r.head0.1
theorem s_rev {e : Expr} {m : M AV} {k : Nat} {p1 p2 p3 : Pos} (he : PE X e (rdE X.K Γ W m)) : PE X (.Subscript e (.Slice none none (some (.UnaryOp .USub (.Constant (.int 1) k p1) p2)) p3) pos) (rdE X.K Γ W (e1 revA m)) := by
  refine pe_imp (pe_rev he) fun σ H Q h => ?_
  obtain ⟨st, p, R, h⟩ := h
  unfold e1 at h
  cases ea : m st with
  | bad => rw [ea] at h; exact h.elim
  | err c s1 =>
    rw [ea] at h
    exact .inl ⟨st, p, R, by rw [ea]; exact h⟩
  | ok x s1 =>
    rw [ea] at h
    simp only [Res.bind_ok] at h
    cases x with
    | lst o xs =>
      refine .inl ⟨st, p, R, ?_⟩
      rw [ea]
      intro v H1 R1
      obtain ⟨mm, ar, am, ao, ab, R2, r⟩ := R1.one
      obtain ⟨a, us, rfl, hs, q⟩ := r.lst_i
      exact ⟨a, us, rfl, SqL.of hs, fun l hl => h _ _ (R2.lst hl (rev_rp q)).rel⟩
    | tup xs =>
      refine .inr ⟨st, p, R, ?_⟩
      rw [ea]
      intro v H1 R1
      obtain ⟨mm, ar, am, ao, ab, R2, r⟩ := R1.one
      obtain ⟨a, us, rfl, hs, q⟩ := r.tup_i
      exact ⟨a, us, rfl, hs, fun l hl => h _ _ (R2.tup hl (rev_rp q)).rel⟩
    | _ => exact h.elim
/-! ### a module's constants -/
theorem s_gl {x : Str} {v : V} {u : Value} {d : AV} (hg : Gl X x) (hm : X.mg x = some u) (r : RelV v u) (hr : ∀ H W m, Rp X.K H W m [v] [d] []) (hd : (x == ("__debug__" : Str)) = false := by decide) : PE X (.Name x pos) (rdE X.K Γ W (eC d)) := by
  refine pe_imp (pe_glob hg hm r hd) fun σ H Q h => ?_
  obtain ⟨st, p, R, h⟩ := h
  exact h _ _ (R.nob.shC (hr H))
theorem q_gl {x : Str} {v : V} {u : Value} {d : AV} (hg : Gl X x) (hm : X.mg x = some u) (r : RelV v u) (hr : ∀ H W m, Rp X.K H W m [v] [d] []) (hd : (x == ("__debug__" : Str)) = false := by decide) : PE X (.Name x pos) (rdP X.K Γ (pC d)) := by
  refine pe_imp (pe_glob hg hm r hd) fun σ H Q h => ?_
  obtain ⟨st, p, d, R, e, h⟩ := h
  cases e
  exact h _ (R.lkC (hr H))
end
end Fk
/-! ## stores -/
namespace Fk
open PySem PySem.Spec PyProof.Rows L2
section
variable {K : PySem.W.Frag} {H : Hp} {Γ : Gam} {σ : L2.St} {st : Ss} {p : Pd} {m ar am ao ab : List Addr}
theorem set_same {σ : L2.St} {i : Nat} {v : V} (e : σ[i]? = some (some v)) : σ.set i (some v) = σ := by
  apply List.ext_getElem?
  intro j
  by_cases c : i = j
  · subst c
    rw [List.getElem?_set_self (List.getElem?_eq_some_iff.mp e).1, e]
  · rw [List.getElem?_set_ne c]
/-- an owned thing in a slot is written -/
theorem Rl.wrSlot (R : Rl K Γ σ H st p m ar am ao ab) {i : Nat} {d : AV} (e : getSl st.r i = .ow d) : ∃ v b, σ[i]? = some (some v) ∧ Rp K H (wOf Γ ar am ao) m [v] [d] b ∧ (∀ c ∈ b, c ∈ wOf Γ ar am ao) ∧
    ∀ {q : Addr} {o u : HO} {d' : AV}, q ∈ b → H q = some u → mutO u = true → (∀ {H' : Hp}, Tr H H' (wOf Γ ar am ao) (wOf Γ ar am ao) m m [q] → H' q = some o → (∀ c, c ≠ q → H' c = H c) → Rp K H' (wOf Γ ar am ao) m [v] [d'] b) → Rel K Γ σ (upd H q o) ⟨setSl st.r i (.ow d'), st.s⟩ p.nob := by
  obtain ⟨v, a1, b, a2, ev, ea, rv, rn⟩ := R.rs.getOw e
  have nd := R.nd
  refine ⟨v, b, ev, rv, fun c hc => by simp only [wOf, ea, List.mem_append]; grind, ?_⟩
  intro q o u d' hq hu hm hr
  have hi : i < st.r.length := getSl_lt (by rw [e]; exact fun z => nomatch z)
  have hqw : q ∈ wOf Γ ar am ao := by simp only [wOf, ea, List.mem_append]; grind
  have t : Tr H (upd H q o) (wOf Γ ar am ao) (wOf Γ ar am ao) m m [q] := Tr.put hu hm hqw fun _ z => z
  have n1 : ∀ c ∈ a1 ++ a2, c ∉ [q] := fun c hc z => by
    simp only [wOf, ea, List.nodup_append, List.mem_append, List.mem_singleton] at nd z hc
    grind
  have n2 : ∀ c ∈ am, c ∉ [q] := fun c hc z => by
    simp only [wOf, ea, List.nodup_append, List.mem_append, List.mem_singleton] at nd z
    grind
  have n3 : ∀ c ∈ ao, c ∉ [q] := fun c hc z => by
    simp only [wOf, ea, List.nodup_append, List.mem_append, List.mem_singleton] at nd z
    grind
  obtain ⟨c1, c2, ec, rs⟩ := (t.rs rn n1).setOw hi (hr t upd_same fun c hc => upd_ne hc)
  rw [set_same ev] at rs
  have hmem : ∀ x, x ∈ c1 ++ (b ++ c2) ↔ x ∈ ar := fun x => by
    have h1 : x ∈ a1 ++ a2 ↔ x ∈ c1 ++ c2 := by rw [ec]
    simp only [ea, List.mem_append] at h1 ⊢
    grind
  have hw : ∀ x, x ∈ wOf Γ (c1 ++ (b ++ c2)) am ao ↔ x ∈ wOf Γ ar am ao := fun x => by
    have h1 := hmem x
    simp only [wOf, List.mem_append] at h1 ⊢
    grind
  have t2 : Tr (upd H q o) (upd H q o) (wOf Γ ar am ao) (wOf Γ (c1 ++ (b ++ c2)) am ao) m m [] := Tr.same fun c z => (hw c).mp z
  refine ⟨m, c1 ++ (b ++ c2), am, ao, [], t2.rs rs (fun _ _ z => nomatch z), t2.rp (t.rp R.rm n2) (fun _ _ z => nomatch z), t2.rp0 (t.rp0 R.ri), t2.rp (t.rp R.ro n3) (fun _ _ z => nomatch z), .nil, ?_, ?_, ?_, R.pm, R.gu, tabs_put R.tb hu hm⟩
  · have pn : (c1 ++ (b ++ c2)).Perm ar := by
      rw [ea]
      have e1 : (c1 ++ (b ++ c2)).Perm (b ++ (c1 ++ c2)) := by
        rw [← List.append_assoc, ← List.append_assoc]
        exact List.Perm.append_right _ List.perm_append_comm
      have e2 : (a1 ++ (b ++ a2)).Perm (b ++ (a1 ++ a2)) := by
        rw [← List.append_assoc, ← List.append_assoc]
        exact List.Perm.append_right _ List.perm_append_comm
      rw [ec] at e2
      exact e1.trans e2.symm
    have pw : (wOf Γ (c1 ++ (b ++ c2)) am ao).Perm (wOf Γ ar am ao) := List.Perm.append_left _ (List.Perm.append_right _ pn)
    exact pw.nodup_iff.mpr nd
  · intro x hx
    have h1 := hmem x
    have h2 := R.fr x
    simp only [List.mem_append] at h1 h2 hx
    grind
  · intro a' o' e' n'
    obtain ⟨o2, e2, f2⟩ := R.kp a' o' e' n'
    have ne : a' ≠ q := by
      rintro rfl
      rcases R.fr a' (by simp only [ea, List.mem_append]; grind) with z | z
      · exact n' z
      · rw [e'] at z; cases z
    exact ⟨o2, by rw [upd_ne ne]; exact e2, f2⟩
/-- an object's own thing is written -/
theorem Rl.wrS (R : Rl K Γ σ H st p m ar am ao ab) {l : Nat} {z : AV} (e : st.s[l]? = some z) : ∃ a b, m[l]? = some a ∧ Rp K H (wOf Γ ar am ao) m [.ref a] [z] b ∧
    ∀ {q : Addr} {o u : HO} {z' : AV}, q ∈ b → H q = some u → mutO u = true → (∀ {H' : Hp}, Tr H H' (wOf Γ ar am ao) (wOf Γ ar am ao) m m [q] → H' q = some o → (∀ c, c ≠ q → H' c = H c) → Rp K H' (wOf Γ ar am ao) m [.ref a] [z'] b) → Rel K Γ σ (upd H q o) ⟨st.r, st.s.set l z'⟩ p.nob := by
  obtain ⟨v, a1, b, a2, ev, ea, r1, rv, r3⟩ := R.rm.at_ e
  rw [List.getElem?_map] at ev
  obtain ⟨a, em, rfl⟩ := Option.map_eq_some_iff.mp ev
  have nd := R.nd
  refine ⟨a, b, em, rv, ?_⟩
  intro q o u z' hq hu hm hr
  have hqw : q ∈ wOf Γ ar am ao := by simp only [wOf, ea, List.mem_append]; grind
  have t : Tr H (upd H q o) (wOf Γ ar am ao) (wOf Γ ar am ao) m m [q] := Tr.put hu hm hqw fun _ z => z
  have n0 : ∀ c ∈ ar, c ∉ [q] := fun c hc z => by
    simp only [wOf, ea, List.nodup_append, List.mem_append, List.mem_singleton] at nd z
    grind
  have n1 : ∀ c ∈ a1, c ∉ [q] := fun c hc z => by
    simp only [wOf, ea, List.nodup_append, List.mem_append, List.mem_singleton] at nd z
    grind
  have n2 : ∀ c ∈ a2, c ∉ [q] := fun c hc z => by
    simp only [wOf, ea, List.nodup_append, List.mem_append, List.mem_singleton] at nd z
    grind
  have n3 : ∀ c ∈ ao, c ∉ [q] := fun c hc z => by
    simp only [wOf, ea, List.nodup_append, List.mem_append, List.mem_singleton] at nd z
    grind
  have hl : l < st.s.length := (List.getElem?_eq_some_iff.mp e).1
  have rm' : Rp K (upd H q o) (wOf Γ ar am ao) m (m.map V.ref) (st.s.set l z') am := by
    have h1 := Rp.put (v := .ref a) (x := z') hl (t.rp r1 n1) (hr t upd_same fun c hc => upd_ne hc) (t.rp r3 n2) R.rm.len
    rw [← ea] at h1
    have e2 : (m.map V.ref).set l (.ref a) = m.map V.ref := by
      apply List.ext_getElem?
      intro j
      by_cases c : l = j
      · subst c
        rw [List.getElem?_set_self (by rw [R.rm.len]; exact hl), List.getElem?_map, em]
        rfl
      · rw [List.getElem?_set_ne c]
    rw [e2] at h1
    exact h1
  refine ⟨m, ar, am, ao, [], t.rs R.rs n0, rm', t.rp0 R.ri, t.rp R.ro n3, .nil, nd, R.fr, ?_, R.pm, R.gu, tabs_put R.tb hu hm⟩
  intro a' o' e' n'
  obtain ⟨o2, e2, f2⟩ := R.kp a' o' e' n'
  have ne : a' ≠ q := by
    rintro rfl
    rcases R.fr a' (by simp only [ea, List.mem_append]; grind) with z | z
    · exact n' z
    · rw [e'] at z; cases z
  exact ⟨o2, by rw [upd_ne ne]; exact e2, f2⟩
end
/-! ### lists and dicts in slots -/
def ownL : Sl → Option (List AV)
  | .ow (.lst true xs) => some xs
  | _ => none
def ownD : Sl → Option (List Key × List AV)
  | .ow (.dct true ks xs) => some (ks, xs)
  | _ => none
@[simp] theorem ownL_ow (xs : List AV) : ownL (.ow (.lst true xs)) = some xs := rfl
@[simp] theorem ownD_ow (ks : List Key) (xs : List AV) : ownD (.ow (.dct true ks xs)) = some (ks, xs) := rfl
theorem ownL_eq {s : Sl} {xs : List AV} (h : ownL s = some xs) : s = .ow (.lst true xs) := by
  unfold ownL at h
  split at h
  · cases h; rfl
  · cases h
theorem ownD_eq {s : Sl} {ks : List Key} {xs : List AV} (h : ownD s = some (ks, xs)) : s = .ow (.dct true ks xs) := by
  unfold ownD at h
  split at h
  · cases h; rfl
  · cases h
def putL (i : Nat) (xs : List AV) (st : Ss) : Ss := ⟨setSl st.r i (.ow (.lst true xs)), st.s⟩
def putD (i : Nat) (ks : List Key) (xs : List AV) (st : Ss) : Ss := ⟨setSl st.r i (.ow (.dct true ks xs)), st.s⟩
def eApp (i : Nat) (m : M AV) : M AV := fun st => match ownL (getSl st.r i) with
  | none => .bad
  | some _ => (m st).bind fun d s1 => match ownL (getSl s1.r i) with
    | none => .bad
    | some xs => if xs.length < 16777216 then .ok .non (putL i (xs ++ [d]) s1) else .bad
def asI : AV → Option Int
  | .int i => some i
  | _ => none
def popA (xs : List AV) (d : AV) : Option (AV × List AV) := (asI d).bind fun k => if 0 ≤ k ∧ k < xs.length ∧ xs.length ≤ 16777216 then (xs[k.toNat]?).map fun y => (y, xs.eraseIdx k.toNat) else none
def ePop (i : Nat) (m : M AV) : M AV := fun st => match ownL (getSl st.r i) with
  | none => .bad
  | some _ => (m st).bind fun d s1 => match ownL (getSl s1.r i) with
    | none => .bad
    | some xs => match popA xs d with
      | some (y, ys) => .ok y (putL i ys s1)
      | none => .bad
section
variable {X : Cx} {Γ : Gam} {W : WX} {σ : L2.St} {H : Hp} {st : Ss} {p : Pd} {K : PySem.W.Frag} {pos apos cpos : Pos} {e : Expr} {x : Str} {i : Nat}
theorem Rl.slotL {m ar am ao ab : List Addr} {xs : List AV} (R : Rl K Γ σ H st p m ar am ao ab) (e : ownL (getSl st.r i) = some xs) : ∃ l us, σ[i]? = some (some (.ref l)) ∧ H l = some (.lst us) ∧ Rp K H (wOf Γ ar am ao) m us xs [] ∧
    ∀ {us' : List V} {ys : List AV}, Rp K H (wOf Γ ar am ao) m us' ys [] → Rel K Γ σ (upd H l (.lst us')) (putL i ys st) p.nob ∧ ∀ {v : V} {d : AV}, Rp K H (wOf Γ ar am ao) m [v] [d] [] → Rel K Γ σ (upd H l (.lst us')) (putL i ys st) (p.nob.sh v d) := by
  have main : ∀ {p : Pd}, Rl K Γ σ H st p m ar am ao ab → ∃ l us, σ[i]? = some (some (.ref l)) ∧ H l = some (.lst us) ∧ Rp K H (wOf Γ ar am ao) m us xs [] ∧ ∀ {us' : List V} {ys : List AV}, Rp K H (wOf Γ ar am ao) m us' ys [] → Rel K Γ σ (upd H l (.lst us')) (putL i ys st) p.nob := fun {p} R => by
    obtain ⟨v, b, ev, rv, _, f⟩ := R.wrSlot (ownL_eq e)
    obtain ⟨l, us, rfl, rfl, hs, q⟩ := rv.lsO_i
    exact ⟨l, us, ev, hs, q, fun {us' ys} r => f (o := .lst us') (d' := .lst true ys) (by simp) hs rfl fun t h1 _ => .lsO h1 (t.rp0 r) .nil⟩
  obtain ⟨l, us, ev, hs, q, f⟩ := main R
  refine ⟨l, us, ev, hs, q, fun {us' ys} r => ⟨f r, fun {v d} rd => ?_⟩⟩
  obtain ⟨l', us2, ev', hs', _, f'⟩ := main (R.setI (rd.cons0 R.ri))
  rw [ev] at ev'
  cases ev'
  exact f' r
/-- a method of a list in a slot -/
theorem slotM {m : M AV} {r : V → List V → Hp → VK → Prop} {id : String} {nm : Str} {q : Pos} {g : List AV → AV → Option (AV × List AV)} (hN : X.N[i]? = some x) (hv : Vis X.env.scope x) (he : PE X e (rdE X.K Γ W m)) (hM : MtR X id r)
    (hd : (x == ("__debug__" : Str)) = false) (hcd : (x == ("__classdict__" : Str)) = false)
    (hbm : ∀ {r : V → List V → Hp → VK → Prop} {to : TE} {t : TA}, MtR X id r → PE X (.Name x q) to → PA X [e] t → PE X (.Call (.Attribute (.Name x q) nm apos) [e] [] cpos) (tBM X.K "list" r to t))
    (hs : starEach [e] X.env = (false, eval e X.env) :: starEach [] X.env)
    (hr : ∀ {l : Addr} {us : List V} {xs ys : List AV} {v : V} {d y : AV} {H : Hp} {W' mm : List Addr} {Q : VK}, H l = some (.lst us) → Rp X.K H W' mm us xs [] → Rp X.K H W' mm [v] [d] [] → g xs d = some (y, ys) → (∀ w us', Rp X.K H W' mm [w] [y] [] → Rp X.K H W' mm us' ys [] → Q w (upd H l (.lst us'))) → r (.ref l) [v] H Q) :
    PE X (.Call (.Attribute (.Name x q) nm apos) [e] [] cpos) (rdE X.K Γ W fun st => match ownL (getSl st.r i) with
      | none => .bad
      | some _ => (m st).bind fun d s1 => match ownL (getSl s1.r i) with
        | none => .bad
        | some xs => match g xs d with
          | some (y, ys) => .ok y (putL i ys s1)
          | none => .bad) := by
  refine pe_imp (hbm hM (pe_var hN hv hd hcd) (pa_cons he pa_nil hs)) fun σ H Q h => ?_
  obtain ⟨st, p, R, h⟩ := h
  cases e0 : ownL (getSl st.r i) with
  | none => simp only [e0] at h
  | some xs0 =>
    simp only [e0] at h
    have Rc := R
    obtain ⟨mm, ar, am, ao, ab, R0⟩ := Rc
    obtain ⟨l, us0, ev, hs0, _, _⟩ := R0.slotL e0
    refine ⟨.ref l, ev, .inl ⟨rfl, us0, SqL.of hs0⟩, st, p, R, ?_⟩
    cases ea : m st with
    | bad => rw [ea] at h; exact h
    | err c s1 => rw [ea] at h; exact h
    | ok d s1 =>
      rw [ea] at h
      simp only [Res.bind_ok] at h
      intro v H1 R1
      cases e1 : ownL (getSl s1.r i) with
      | none => simp only [e1] at h
      | some xs =>
        simp only [e1] at h
        obtain ⟨mm, ar, am, ao, ab, R2, rd⟩ := R1.one
        obtain ⟨l', us, ev', hs', q, f⟩ := R2.slotL e1
        rw [ev] at ev'
        cases ev'
        cases eg : g xs d with
        | none => simp only [eg] at h
        | some yy =>
          obtain ⟨y, ys⟩ := yy
          simp only [eg] at h
          exact hr hs' q rd eg fun w us' rw' ru => h w _ ((f ru).2 rw')
theorem s_app {m : M AV} {q : Pos} (hN : X.N[i]? = some x) (hv : Vis X.env.scope x) (he : PE X e (rdE X.K Γ W m))
    (hbm : ∀ {r : V → List V → Hp → VK → Prop} {to : TE} {t : TA}, MtR X "list.append" r → PE X (.Name x q) to → PA X [e] t → PE X (.Call (.Attribute (.Name x q) "append" apos) [e] [] cpos) (tBM X.K "list" r to t))
    (hd : (x == ("__debug__" : Str)) = false := by decide) (hcd : (x == ("__classdict__" : Str)) = false := by decide) (hs : starEach [e] X.env = (false, eval e X.env) :: starEach [] X.env := by rfl) : PE X (.Call (.Attribute (.Name x q) "append" apos) [e] [] cpos) (rdE X.K Γ W (eApp i m)) := by
  refine pe_imp (slotM (g := fun xs d => if xs.length < 16777216 then some (.non, xs ++ [d]) else none) hN hv he mt_append hd hcd hbm hs ?_) fun σ H Q h => ?_
  · intro l us xs ys v d y H W' mm Q h1 q rd eg hq
    split at eg
    · cases eg
      rename_i c
      exact ⟨l, us, v, rfl, rfl, h1, by rw [q.len, mx_eq]; exact c, hq .non _ (.non .nil) (q.app rd)⟩
    · cases eg
  · obtain ⟨st, p, R, h⟩ := h
    refine ⟨st, p, R, ?_⟩
    unfold eApp at h
    cases e0 : ownL (getSl st.r i) with
    | none => simp only [e0] at h
    | some xs0 =>
      simp only [e0] at h ⊢
      cases ea : m st with
      | bad => rw [ea] at h; exact h
      | err c s1 => rw [ea] at h; exact h
      | ok d s1 =>
        rw [ea] at h
        simp only [Res.bind_ok] at h ⊢
        cases e1 : ownL (getSl s1.r i) with
        | none => simp only [e1] at h
        | some xs =>
          simp only [e1] at h ⊢
          by_cases c : xs.length < 16777216
          · simp only [c, if_true] at h ⊢
            exact h
          · simp only [c, if_false] at h
theorem s_pop {m : M AV} {q : Pos} (hN : X.N[i]? = some x) (hv : Vis X.env.scope x) (he : PE X e (rdE X.K Γ W m))
    (hbm : ∀ {r : V → List V → Hp → VK → Prop} {to : TE} {t : TA}, MtR X "list.pop" r → PE X (.Name x q) to → PA X [e] t → PE X (.Call (.Attribute (.Name x q) "pop" apos) [e] [] cpos) (tBM X.K "list" r to t))
    (hd : (x == ("__debug__" : Str)) = false := by decide) (hcd : (x == ("__classdict__" : Str)) = false := by decide) (hs : starEach [e] X.env = (false, eval e X.env) :: starEach [] X.env := by rfl) : PE X (.Call (.Attribute (.Name x q) "pop" apos) [e] [] cpos) (rdE X.K Γ W (ePop i m)) := by
  refine slotM (g := popA) hN hv he mt_popAt hd hcd hbm hs ?_
  intro l us xs ys v d y H W' mm Q h1 q rd eg hq
  unfold popA at eg
  obtain ⟨k, ek, eg⟩ := Option.bind_eq_some_iff.mp eg
  split at eg
  · rename_i c
    obtain ⟨z, ez, e2⟩ := Option.map_eq_some_iff.mp eg
    cases e2
    cases d with
    | int k' =>
      cases ek
      obtain rfl := rd.int_i
      obtain ⟨u, a1, b, a2, eu, ea, r1, r2, r3⟩ := q.at_ ez
      obtain ⟨e1, e2⟩ := List.append_eq_nil_iff.mp ea.symm
      obtain ⟨e3, e4⟩ := List.append_eq_nil_iff.mp e2
      subst e1 e3 e4
      have hl := q.len
      have er : ∀ {α : Type} (zs : List α) (n : Nat), zs.eraseIdx n = zs.take n ++ zs.drop (n + 1) := fun zs n => List.eraseIdx_eq_take_drop_succ zs n
      refine ⟨l, us, k, k.toNat, u, rfl, rfl, h1, by omega, by omega, ?_, eu, hq u _ r2 (by rw [er, er]; exact r1.app r3)⟩
      have hix : ixN us.length k = some k.toNat := by
        unfold ixN
        rw [if_pos c.1, if_pos (by rw [hl]; exact c.2.1)]
      exact (ixN_seq hix).1
    | _ => cases ek
  · cases eg
/-! stores into slots' lists and dicts -/
def updA (k : Key) (d : AV) : List Key → List AV → List AV
  | k' :: ks, x :: xs => (if k' = k then d else x) :: updA k d ks xs
  | _, xs => xs
def hasK (ks : List Key) (k : Key) : Bool := ks.any fun k' => decide (k' = k)
def putKA (ks : List Key) (xs : List AV) (k : Key) (d : AV) : List Key × List AV := bif hasK ks k then (ks, updA k d ks xs) else (ks ++ [k], xs ++ [d])
theorem updA_v {W m : List Addr} {k : Key} {v : V} {d : AV} : ∀ {kvs : List (Key × V)} {ys : List AV}, Rp K H W m (kvs.map (·.2)) ys [] → Rp K H W m [v] [d] [] → Rp K H W m ((kvs.map fun kv => if kv.1 = k then (kv.1, v) else kv).map (·.2)) (updA k d (kvs.map (·.1)) ys) []
  | [], ys, r, rd => by
    obtain ⟨rfl, _⟩ := r.nil_inv'
    exact .nil
  | (k', v') :: kvs, [], r, rd => by cases r.nil_inv.1
  | (k', v') :: kvs, y :: ys, r, rd => by
    have r0 := Rp.head0 (show Rp K H W m (v' :: kvs.map (·.2)) (y :: ys) [] from r)
    have ih := updA_v (k := k) r0.2 rd
    by_cases c : k' = k
    · have h1 := rd.cons0 ih
      show Rp K H W m ((if k' = k then (k', v) else (k', v')).2 :: _) ((if k' = k then d else y) :: _) []
      rw [if_pos c, if_pos c]
      exact h1
    · have h1 := r0.1.cons0 ih
      show Rp K H W m ((if k' = k then (k', v) else (k', v')).2 :: _) ((if k' = k then d else y) :: _) []
      rw [if_neg c, if_neg c]
      exact h1
theorem putK_v {W m : List Addr} {k : Key} {v : V} {d : AV} {kvs : List (Key × V)} {ys : List AV} (r : Rp K H W m (kvs.map (·.2)) ys []) (rd : Rp K H W m [v] [d] []) : ((putK kvs k v).map (·.1)) = (putKA (kvs.map (·.1)) ys k d).1 ∧ Rp K H W m ((putK kvs k v).map (·.2)) (putKA (kvs.map (·.1)) ys k d).2 [] := by
  have ea : hasK (kvs.map (·.1)) k = (kvs.any fun kv => decide (kv.1 = k)) := by
    unfold hasK
    rw [List.any_map]
    rfl
  unfold putK putKA
  rw [ea]
  cases c : kvs.any fun kv => decide (kv.1 = k) with
  | true =>
    refine ⟨?_, updA_v r rd⟩
    show ((kvs.map fun kv => if kv.1 = k then (kv.1, v) else kv).map (·.1)) = kvs.map (·.1)
    rw [List.map_map]
    refine List.map_congr_left fun kv _ => ?_
    show (if kv.1 = k then (kv.1, v) else kv).1 = kv.1
    split <;> rfl
  | false =>
    rw [if_neg Bool.false_ne_true]
    refine ⟨by simp, ?_⟩
    show Rp K H W m ((kvs ++ [(k, v)]).map (·.2)) (ys ++ [d]) []
    rw [List.map_append]
    exact r.app rd
theorem Rl.slotD {m ar am ao ab : List Addr} {ks : List Key} {xs : List AV} (R : Rl K Γ σ H st p m ar am ao ab) (e : ownD (getSl st.r i) = some (ks, xs)) : ∃ l kvs, σ[i]? = some (some (.ref l)) ∧ H l = some (.dK kvs) ∧ kvs.map (·.1) = ks ∧ Rp K H (wOf Γ ar am ao) m (kvs.map (·.2)) xs [] ∧
    ∀ {kvs' : List (Key × V)} {ys : List AV}, Rp K H (wOf Γ ar am ao) m (kvs'.map (·.2)) ys [] → Rel K Γ σ (upd H l (.dK kvs')) (putD i (kvs'.map (·.1)) ys st) p.nob := by
  obtain ⟨v, b, ev, rv, _, f⟩ := R.wrSlot (ownD_eq e)
  cases rv with
  | @dcO l kvs _ _ _ _ _ hs ek q r0 =>
    obtain ⟨_, rfl⟩ := r0.nil_inv
    exact ⟨l, kvs, ev, hs, ek, q, fun {kvs' ys} r => f (q := l) (o := .dK kvs') (u := .dK kvs) (d' := AV.dct true (List.map (fun (z : Key × V) => z.1) kvs') ys) (by simp) hs rfl fun t h1 _ => Rp.dcO h1 rfl (t.rp0 r) .nil⟩
def setIx (xs : List AV) (y d : AV) : Option (List AV) := (asI y).bind fun k => (ixN xs.length k).map fun j => xs.set j d
def isOw : Sl → Bool
  | .ow _ => true
  | _ => false
/-- the list or dict in a slot gets a value at a place -/
def storeB (i : Nat) (y d : AV) (st : Ss) : Res Fl Ss := match ownL (getSl st.r i) with
  | some xs => (match setIx xs y d with
    | some ys => .ok .nx (putL i ys st)
    | none => .bad)
  | none => match ownD (getSl st.r i) with
    | some (ks, xs) => (match keyA y with
      | some k => if ks.length < 16777216 then .ok .nx (putD i (putKA ks xs k d).1 (putKA ks xs k d).2 st) else .bad
      | none => .bad)
    | none => .bad
/-- name[y] = value -/
def sSetB (i : Nat) (mk mv : M AV) : M Fl := fun st => (mv st).bind fun d s1 => bif isOw (getSl s1.r i) then (mk s1).bind fun y s2 => storeB i y d s2 else .bad
theorem ps_or {s : Stmt} {a b : TS} (h1 : PS X s a) (h2 : PS X s b) : PS X s (fun D σ H => a D σ H ∨ b D σ H) :=
  ⟨fun pins s σ H D I h => h.elim (fun q => h1.run pins s σ H D I q) (fun q => h2.run pins s σ H D I q)⟩
theorem isOw_v {m ar am ao ab : List Addr} (R : Rl K Γ σ H st p m ar am ao ab) (e : isOw (getSl st.r i) = true) : ∃ v, σ[i]? = some (some v) := by
  cases eg : getSl st.r i with
  | ow d =>
    obtain ⟨v, _, _, _, ev, _⟩ := R.rs.getOw eg
    exact ⟨v, ev⟩
  | _ => rw [eg] at e; cases e
theorem s_setB {ek ev : Expr} {mk mv : M AV} {q pos' : Pos} (hN : X.N[i]? = some x) (hv : Vis X.env.scope x) (hu : X.A.units + 1 < cLine) (he : PE X ev (rdE X.K Γ W mv)) (hk : PE X ek (rdE X.K Γ W mk))
    (hd : (x == ("__debug__" : Str)) = false := by decide) (hcd : (x == ("__classdict__" : Str)) = false := by decide)
    (hsw : swapsWith ev (some (.Subscript (.Name x q) ek pos')) pos.line X.env = pure false := by rfl)
    (hs1 : swapsWithSole [.Subscript (.Name x q) ek pos'] ev pos.line X.env = pure false := by rfl) (hw1 : swappedStores [.Subscript (.Name x q) ek pos'] ev X.env = pure none := by rfl)
    (ha : ∀ v, assign (.Subscript (.Name x q) ek pos') X.env v = (do
      let ov ← holding [v] (eval (.Name x q) X.env)
      let iv ← holding [v, ov] (eval ek X.env)
      standAt pos'
      holding [v, ov, iv] (setItem ov iv v)
      release [v, ov, iv] []) := by intro _; rfl) : PS X (.Assign [.Subscript (.Name x q) ek pos'] ev pos) (rdS X.K Γ W (sSetB i mk mv)) := by
  have h1 : PS X (.Assign [.Subscript (.Name x q) ek pos'] ev pos) (tAsg (rdE X.K Γ W mv) (gSub (tVar i) (rdE X.K Γ W mk) rSetL)) := ps_asg he (pg_sub (pe_var hN hv hd hcd) hk set_list ha) hs1 hw1
  have h2 : PS X (.Assign [.Subscript (.Name x q) ek pos'] ev pos) (sDPut (tVar i) (rdE X.K Γ W mk) (rdE X.K Γ W mv)) := ps_dput hu (pe_var hN hv hd hcd) hk he hsw
  refine ps_imp (ps_or h1 h2) fun D σ H h => ?_
  obtain ⟨st, p, R, hp, h⟩ := h
  unfold sSetB at h
  -- value, place, then what is done with them
  have main : ∀ k : V → V → V → Hp → Prop, (∀ d s1 y s2, mv st = .ok d s1 → mk s1 = .ok y s2 → ∀ v o w' H2, σ[i]? = some (some o) → Rel X.K Γ σ H2 s2 ((p.nob.sh v d).sh w' y) → k v o w' H2) →
      rdE X.K Γ W mv σ H fun v H1 => tVar i σ H1 fun o H2 => rdE X.K Γ W mk σ H2 fun y H3 => k v o y H3 := by
    intro k hk'
    refine ⟨st, p, R, ?_⟩
    cases ea : mv st with
    | bad => rw [ea] at h; exact h
    | err c s1 => rw [ea] at h; exact fun H' R' => h σ H' (hp ▸ R')
    | ok d s1 =>
      rw [ea] at h
      simp only [Res.bind_ok] at h
      cases eo : isOw (getSl s1.r i) with
      | false => simp only [eo, cond_false] at h
      | true =>
        simp only [eo, cond_true] at h
        intro v H1 R1
        have Rc := R1
        obtain ⟨mm, ar, am, ao, ab, R2⟩ := Rc
        obtain ⟨o, ev⟩ := isOw_v R2 eo
        refine ⟨o, ev, s1, _, R1, ?_⟩
        cases ek' : mk s1 with
        | bad => rw [ek'] at h; exact h
        | err c s2 => rw [ek'] at h; exact fun H2 R3 => h σ H2 (hp ▸ R3.drop)
        | ok y s2 => exact fun w' H2 R3 => hk' d s1 y s2 ea ek' v o w' H2 ev R3
  cases ea : mv st with
  | bad => rw [ea] at h; exact h.elim
  | err c s1 =>
    refine .inl (main _ fun d s1 y s2 e1 => ?_)
    rw [ea] at e1; cases e1
  | ok d s1 =>
    rw [ea] at h
    simp only [Res.bind_ok] at h
    cases eo : isOw (getSl s1.r i) with
    | false => simp only [eo, cond_false] at h
    | true =>
      simp only [eo, cond_true] at h
      cases ek' : mk s1 with
      | bad => rw [ek'] at h; exact h.elim
      | err c s2 =>
        refine .inl (main _ fun d s1 y s2 e1 e2 => ?_)
        rw [ea] at e1; cases e1
        rw [ek'] at e2; cases e2
      | ok y s2 =>
        rw [ek'] at h
        simp only [Res.bind_ok, storeB] at h
        cases e1 : ownL (getSl s2.r i) with
        | some xs =>
          simp only [e1] at h
          cases e2 : setIx xs y d with
          | none => simp only [e2] at h
          | some ys =>
            simp only [e2] at h
            refine .inl (main _ fun d' s1' y' s2' c1 c2 v o w' H2 ev R3 => ?_)
            rw [ea] at c1; cases c1
            rw [ek'] at c2; cases c2
            obtain ⟨mm, ar, am, ao, ab, R4, rd, ry⟩ := R3.two
            obtain ⟨l, us, ev', hs', q', f⟩ := R4.slotL e1
            rw [ev] at ev'
            cases ev'
            obtain ⟨k, ek2, e3⟩ := Option.bind_eq_some_iff.mp e2
            obtain ⟨j, ej, e4⟩ := Option.map_eq_some_iff.mp e3
            subst e4
            cases y with
            | int k' =>
              cases ek2
              obtain rfl := ry.int_i
              have hj := (ixN_seq ej).2.1
              refine ⟨l, us, k, j, rfl, rfl, hs', by rw [q'.len]; exact ej, h σ _ (hp ▸ (f ?_).1)⟩
              obtain ⟨xj, exj⟩ : ∃ xj, xs[j]? = some xj := ⟨xs[j], by simp [hj]⟩
              obtain ⟨u, a1, b, a2, eu, ea', r1, r2, r3⟩ := q'.at_ exj
              obtain ⟨z1, z2⟩ := List.append_eq_nil_iff.mp ea'.symm
              obtain ⟨z3, z4⟩ := List.append_eq_nil_iff.mp z2
              subst z1 z3 z4
              exact Rp.put hj r1 rd r3 q'.len
            | _ => cases ek2
        | none =>
          simp only [e1] at h
          cases e2 : ownD (getSl s2.r i) with
          | none => simp only [e2] at h
          | some kx =>
            obtain ⟨ks, xs⟩ := kx
            simp only [e2] at h
            cases e3 : keyA y with
            | none => simp only [e3] at h
            | some k =>
              simp only [e3] at h
              by_cases cz : ks.length < 16777216
              · simp only [cz, if_true] at h
                refine .inr (main (fun v o y H3 => ∃ a H4, o = .ref a ∧ DPut H3 a y v H4 ∧ D.nx σ H4) fun d' s1' y' s2' c1 c2 v o w' H2 ev R3 => ?_)
                rw [ea] at c1; cases c1
                rw [ek'] at c2; cases c2
                obtain ⟨mm, ar, am, ao, ab, R4, rd, ry⟩ := R3.two
                obtain ⟨l, kvs, ev', hs', ek3, q', f⟩ := R4.slotD e2
                rw [ev] at ev'
                cases ev'
                subst ek3
                obtain ⟨p1, p2⟩ := putK_v (k := k) q' rd
                have R5 := f p2
                rw [p1] at R5
                refine ⟨l, _, rfl, ?_, h σ _ (hp ▸ R5)⟩
                rw [keyA_v ry e3]
                exact DPut.k hs' (by rw [mx_eq]; simpa using cz)
              · simp only [cz, if_false] at h
end
end Fk
/-! ## objects: fields, methods, making -/
namespace Fk
open PySem PySem.Spec PyProof.Rows L2
/-- facts of a class of the text -/
structure ClsF (K : PySem.W.Frag) (C : Str) (fs : List Str) : Prop where
  cls : Cls K (He.ga K C)
  no : ∀ f ∈ fs, NoAttr K (He.ga K C) f
def getF : List Str → List AV → Str → Option AV
  | k :: ks, x :: xs, f => if k = f then some x else getF ks xs f
  | _, _, _ => none
def insOf : AV → Option (Str × List Str × List AV)
  | .ins C ks xs => some (C, ks, xs)
  | _ => none
/-- a field of the object behind a value -/
def fldA (S : List AV) (C f : Str) (x : AV) : Option AV := ((deref S x).bind insOf).bind fun t => if t.1 = C then getF t.2.1 t.2.2 f else none
def pFld (C f : Str) (m : Ss → Option AV) : Ss → Option AV := fun st => (m st).bind fun x => fldA st.s C f x
section
variable {K : PySem.W.Frag} {H : Hp} {W m as : List Addr} {v : V} {x d : AV} {Γ : Gam} {σ : L2.St} {st : Ss} {p : Pd} {ar am ao ab : List Addr}
theorem getF_v {f : Str} : ∀ {fs : List (Str × V)} {ys : List AV} {as : List Addr}, Rp K H W m (fs.map (·.2)) ys as → getF (fs.map (·.1)) ys f = some d → ∃ v b, fs.lookup f = some v ∧ Rp K H W m [v] [d] b
  | [], ys, as, r, e => by cases ys <;> cases e
  | (k', v) :: fs, [], as, r, e => by cases e
  | (k', v) :: fs, z :: ys, as, r, e => by
    obtain ⟨b1, b2, _, r1, r2⟩ := Rp.head (show Rp K H W m (v :: fs.map (·.2)) (z :: ys) as from r)
    have e2 : (if k' = f then some z else getF (fs.map (·.1)) ys f) = some d := e
    by_cases c : k' = f
    · rw [if_pos c] at e2
      cases e2
      refine ⟨v, b1, ?_, r1⟩
      rw [List.lookup_cons, c, beq_self_eq_true]
    · rw [if_neg c] at e2
      obtain ⟨v2, b, h1, h2⟩ := getF_v r2 e2
      refine ⟨v2, b, ?_, h2⟩
      rw [List.lookup_cons, beq_eq_false_iff_ne.mpr (fun z => c z.symm)]
      exact h1
theorem ins_v {C : Str} {ks : List Str} {ys : List AV} (r : Rp K H W m [v] [x] as) (e : insOf x = some (C, ks, ys)) : ∃ a dx fs b, v = .ref a ∧ H a = some (.ins (He.ga K C) dx fs) ∧ fs.map (·.1) = ks ∧ Rp K H W m (fs.map (·.2)) ys b := by
  cases r with
  | ins h ek q _ => cases e; exact ⟨_, _, _, _, rfl, h, ek, q⟩
  | _ => cases e
theorem fld_v {C f : Str} (R : Rl K Γ σ H st p m ar am ao ab) (r : Rp K H (wOf Γ ar am ao) m [v] [x] as) (e : fldA st.s C f x = some d) : ∃ a dx fs u b, v = .ref a ∧ H a = some (.ins (He.ga K C) dx fs) ∧ fs.lookup f = some u ∧ Rp K H (wOf Γ ar am ao) m [u] [d] b := by
  obtain ⟨⟨C', ks, ys⟩, e1, e2⟩ := Option.bind_eq_some_iff.mp e
  obtain ⟨z, ez, ei⟩ := Option.bind_eq_some_iff.mp e1
  have e3 : (if C' = C then getF ks ys f else none) = some d := e2
  by_cases c : C' = C
  · subst c
    rw [if_pos rfl] at e3
    obtain ⟨as', r2⟩ := R.deref r ez
    obtain ⟨a, dx, fs, b, rfl, hs, ek, q⟩ := ins_v r2 ei
    subst ek
    obtain ⟨u, b', h1, h2⟩ := getF_v q e3
    exact ⟨a, dx, fs, u, b', rfl, hs, h1, h2⟩
  · rw [if_neg c] at e3
    cases e3
end
section
variable {X : Cx} {Γ : Gam} {W : WX} {σ : L2.St} {H : Hp} {st : Ss} {p : Pd} {K : PySem.W.Frag} {pos apos cpos : Pos} {e : Expr} {x : Str} {i : Nat} {C f : Str} {fs : List Str}
theorem q_fld {m : Ss → Option AV} (F : ClsF X.K C fs) (hf : f ∈ fs) (he : PE X e (rdP X.K Γ m)) (hb : attributeBase e f X.env (eval e X.env) = eval e X.env := by rfl) : PE X (.Attribute e f pos) (rdP X.K Γ (pFld C f m)) := by
  refine pe_imp (pe_fld he hb) fun σ H Q h => ?_
  obtain ⟨st, p, d, R, e, h⟩ := h
  obtain ⟨z, ez, e⟩ := Option.bind_eq_some_iff.mp e
  refine ⟨st, p, z, R, ez, fun v R1 => ?_⟩
  obtain ⟨m, ar, am, ao, ab, R1⟩ := R1
  obtain ⟨c1, c2, _, r1, r2⟩ := R1.rb.head
  obtain ⟨a, dx, gs, u, b, rfl, hs, hl, ru⟩ := fld_v (p := p) (R1.setB (p := p.lk v z) r2) r1 e
  exact ⟨a, _, dx, gs, u, rfl, hs, F.cls, F.no f hf, hl, h u ⟨m, ar, am, ao, _, R1.setB (p := p.lk (.ref a) z) (ru.cons r2)⟩⟩
/-! ### stores -/
def putFA : List Str → List AV → Str → AV → List Str × List AV
  | k :: ks, x :: xs, f, d => if k = f then (k :: ks, d :: xs) else (k :: (putFA ks xs f d).1, x :: (putFA ks xs f d).2)
  | _, _, f, d => ([f], [d])
theorem putF_v {f : Str} {v : V} {d : AV} {W m cs : List Addr} : ∀ {gs : List (Str × V)} {ys : List AV} {as : List Addr}, Rp K H W m (gs.map (·.2)) ys as → Rp K H W m [v] [d] cs → (as ++ cs).Nodup →
    (putF f v gs).map (·.1) = (putFA (gs.map (·.1)) ys f d).1 ∧ ∃ bs, Rp K H W m ((putF f v gs).map (·.2)) (putFA (gs.map (·.1)) ys f d).2 bs ∧ (∀ b ∈ bs, b ∈ as ∨ b ∈ cs) ∧ bs.Nodup
  | [], ys, as, r, rd, nd => by
    obtain ⟨rfl, rfl⟩ := r.nil_inv'
    exact ⟨rfl, cs, rd, fun b hb => .inr hb, by simpa using nd⟩
  | (k, u) :: gs, [], as, r, rd, _ => by cases r.nil_inv.1
  | (k, u) :: gs, y :: ys, as, r, rd, nd => by
    obtain ⟨a1, a2, ea, r1, r2⟩ := Rp.head (show Rp K H W m (u :: gs.map (·.2)) (y :: ys) as from r)
    subst ea
    by_cases c : k = f
    · have e2 : putF f v ((k, u) :: gs) = (k, v) :: gs := by
        unfold putF
        rw [if_pos c]
      rw [e2]
      show (k :: gs.map (·.1)) = (if k = f then (k :: gs.map (·.1), d :: ys) else _).1 ∧ ∃ bs, Rp K H W m (v :: gs.map (·.2)) (if k = f then (k :: gs.map (·.1), d :: ys) else _).2 bs ∧ _
      rw [if_pos c]
      refine ⟨rfl, cs ++ a2, rd.cons r2, fun b hb => ?_, ?_⟩
      · simp only [List.mem_append] at hb ⊢
        grind
      · simp only [List.nodup_append, List.mem_append] at nd ⊢
        grind
    · obtain ⟨ih1, bs, ih2, ih3, ih4⟩ := putF_v (f := f) r2 rd (by
        simp only [List.nodup_append, List.mem_append] at nd ⊢
        grind)
      have e2 : putF f v ((k, u) :: gs) = (k, u) :: putF f v gs := by
        conv => lhs; unfold putF
        rw [if_neg c]
      rw [e2]
      show (k :: (putF f v gs).map (·.1)) = (if k = f then (k :: gs.map (·.1), d :: ys) else (k :: (putFA (gs.map (·.1)) ys f d).1, y :: (putFA (gs.map (·.1)) ys f d).2)).1 ∧ ∃ bs, Rp K H W m (u :: (putF f v gs).map (·.2)) (if k = f then (k :: gs.map (·.1), d :: ys) else (k :: (putFA (gs.map (·.1)) ys f d).1, y :: (putFA (gs.map (·.1)) ys f d).2)).2 bs ∧ _
      rw [if_neg c]
      refine ⟨by rw [ih1], a1 ++ bs, r1.cons ih2, fun b hb => ?_, ?_⟩
      · have := ih3 b
        simp only [List.mem_append] at hb ⊢
        grind
      · simp only [List.nodup_append, List.mem_append] at nd ⊢
        grind
/-- a field of an object is written, by a shared value or by an owned one that was pending -/
theorem Rl.fldS {m ar am ao ab cs ao' : List Addr} {l : Nat} {ks : List Str} {ys : List AV} {v : V} {d : AV} {ov' : List V} {ox' : List AV} (R : Rl K Γ σ H st p m ar am ao ab) (e : st.s[l]? = some (.ins C ks ys)) (rd : Rp K H (wOf Γ ar am ao) m [v] [d] cs) (ro' : Rp K H (wOf Γ ar am ao) m ov' ox' ao') (eo : ao = cs ++ ao') (f : Str) :
    ∃ a dx gs, m[l]? = some a ∧ H a = some (.ins (He.ga K C) dx gs) ∧ gs.map (·.1) = ks ∧ Rel K Γ σ (upd H a (.ins (He.ga K C) dx (putF f v gs))) ⟨st.r, st.s.set l (.ins C (putFA ks ys f d).1 (putFA ks ys f d).2)⟩ { p.nob with ov := ov', ox := ox' } := by
  obtain ⟨v', a1, b, a2, ev, ea, r1, rv, r3⟩ := R.rm.at_ e
  rw [List.getElem?_map] at ev
  obtain ⟨a, em, rfl⟩ := Option.map_eq_some_iff.mp ev
  have nd := R.nd
  have fr := R.fr
  cases rv with
  | @ins _ _ dx gs _ _ bs _ _ as0 hs ek q r0 =>
    obtain ⟨_, rfl⟩ := r0.nil_inv
    subst ek
    rw [List.append_nil] at ea
    have ndb : (bs ++ cs).Nodup := by
      simp only [wOf, ea, eo, List.nodup_append, List.nodup_cons, List.mem_append, List.mem_cons] at nd ⊢
      grind
    obtain ⟨pk, bs', pr, pm, pnd⟩ := putF_v (f := f) q rd ndb
    refine ⟨a, dx, gs, em, hs, rfl, ?_⟩
    have hqw : a ∈ wOf Γ ar am ao := by simp only [wOf, ea, List.mem_append, List.mem_cons]; grind
    have t : Tr H (upd H a (.ins (He.ga K C) dx (putF f v gs))) (wOf Γ ar am ao) (wOf Γ ar (a1 ++ ((a :: bs') ++ a2)) ao') m m [a] := Tr.put hs rfl hqw fun c z => by
      have := pm c
      simp only [wOf, ea, eo, List.mem_append, List.mem_cons] at z ⊢
      grind
    have n0 : ∀ c ∈ ar, c ∉ [a] := fun c hc z => by
      simp only [wOf, ea, List.nodup_append, List.nodup_cons, List.mem_append, List.mem_cons, List.mem_singleton] at nd z
      grind
    have n1 : ∀ c ∈ a1, c ∉ [a] := fun c hc z => by
      simp only [wOf, ea, List.nodup_append, List.nodup_cons, List.mem_append, List.mem_cons, List.mem_singleton] at nd z
      grind
    have n2 : ∀ c ∈ a2, c ∉ [a] := fun c hc z => by
      simp only [wOf, ea, List.nodup_append, List.nodup_cons, List.mem_append, List.mem_cons, List.mem_singleton] at nd z
      grind
    have n3 : ∀ c ∈ ao', c ∉ [a] := fun c hc z => by
      simp only [wOf, ea, eo, List.nodup_append, List.nodup_cons, List.mem_append, List.mem_cons, List.mem_singleton] at nd z
      grind
    have n4 : ∀ c ∈ bs', c ∉ [a] := fun c hc z => by
      have := pm c hc
      simp only [wOf, ea, eo, List.nodup_append, List.nodup_cons, List.mem_append, List.mem_cons, List.mem_singleton] at nd z
      grind
    have hl : l < st.s.length := (List.getElem?_eq_some_iff.mp e).1
    have new : Rp K (upd H a (.ins (He.ga K C) dx (putF f v gs))) (wOf Γ ar (a1 ++ ((a :: bs') ++ a2)) ao') m [.ref a] [.ins C (putFA (gs.map (·.1)) ys f d).1 (putFA (gs.map (·.1)) ys f d).2] (a :: bs') := by
      have h1 := Rp.ins (K := K) (m := m) (W := wOf Γ ar (a1 ++ ((a :: bs') ++ a2)) ao') (vs := []) (xs := []) (as := []) upd_same pk (t.rp pr n4) .nil
      simpa using h1
    have rm' : Rp K (upd H a (.ins (He.ga K C) dx (putF f v gs))) (wOf Γ ar (a1 ++ ((a :: bs') ++ a2)) ao') m (m.map V.ref) (st.s.set l (.ins C (putFA (gs.map (·.1)) ys f d).1 (putFA (gs.map (·.1)) ys f d).2)) (a1 ++ ((a :: bs') ++ a2)) := by
      have h1 := Rp.put hl (t.rp r1 n1) new (t.rp r3 n2) R.rm.len
      have e2 : (m.map V.ref).set l (.ref a) = m.map V.ref := by
        apply List.ext_getElem?
        intro j
        by_cases c : l = j
        · subst c
          rw [List.getElem?_set_self (by rw [R.rm.len]; exact hl), List.getElem?_map, em]
          rfl
        · rw [List.getElem?_set_ne c]
      rw [e2] at h1
      exact h1
    refine ⟨m, ar, a1 ++ ((a :: bs') ++ a2), ao', [], t.rs R.rs n0, rm', t.rp0 R.ri, t.rp ro' n3, .nil, ?_, ?_, ?_, R.pm, R.gu, tabs_put R.tb hs rfl⟩
    · simp only [wOf, ea, eo, List.nodup_append, List.nodup_cons, List.mem_append, List.mem_cons] at nd ⊢
      grind
    · intro c hc
      have h1 := fr c
      have h2 := pm c
      simp only [ea, eo, List.mem_append, List.mem_cons] at hc h1
      grind
    · intro a' o' e' n'
      obtain ⟨o2, e2, f2⟩ := R.kp a' o' e' n'
      have ne : a' ≠ a := by
        rintro rfl
        rcases fr a' (by simp only [ea, List.mem_append, List.mem_cons]; grind) with z | z
        · exact n' z
        · rw [e'] at z; cases z
      exact ⟨o2, by rw [upd_ne ne]; exact e2, f2⟩
def locOf : AV → Option Nat
  | .loc l => some l
  | _ => none
/-- a field given a value, the state behind it -/
def putFld (C f : Str) (x d : AV) (st : Ss) : Option Ss := (locOf x).bind fun l => ((st.s[l]?).bind insOf).bind fun t => if t.1 = C ∧ t.2.1.length < 1000 then some ⟨st.r, st.s.set l (.ins C (putFA t.2.1 t.2.2 f d).1 (putFA t.2.1 t.2.2 f d).2)⟩ else none
theorem putFld_inv {x d : AV} {st st' : Ss} (h : putFld C f x d st = some st') : ∃ l ks ys, x = .loc l ∧ st.s[l]? = some (.ins C ks ys) ∧ ks.length < 1000 ∧ st' = ⟨st.r, st.s.set l (.ins C (putFA ks ys f d).1 (putFA ks ys f d).2)⟩ := by
  unfold putFld at h
  obtain ⟨l, el, h1⟩ := Option.bind_eq_some_iff.mp h
  obtain ⟨⟨C', ks, ys⟩, ei1, h2⟩ := Option.bind_eq_some_iff.mp h1
  obtain ⟨z, ez, ei⟩ := Option.bind_eq_some_iff.mp ei1
  clear h h1 ei1
  have h : (if C' = C ∧ ks.length < 1000 then some (Ss.mk st.r (st.s.set l (.ins C (putFA ks ys f d).1 (putFA ks ys f d).2))) else none) = some st' := h2
  cases x with
  | loc l' =>
    cases el
    cases z with
    | ins C2 k2 y2 =>
      cases ei
      split at h
      · cases h
        rename_i c
        obtain ⟨c1, c2⟩ := c
        have c3 : C' = C := c1
        subst c3
        exact ⟨l, ks, ys, rfl, ez, c2, rfl⟩
      · cases h
    | _ => cases ei
  | _ => cases el
/-- e.f = value, the object looked at -/
def sFld (C f : Str) (mo : Ss → Option AV) (mv : M AV) : M Fl := fun st => (mv st).bind fun d s1 => match (mo s1).bind fun x => putFld C f x d s1 with
  | some s2 => .ok .nx s2
  | none => .bad
theorem s_fld {o v : Expr} {mo : Ss → Option AV} {mv : M AV} {pos' : Pos} (F : ClsF X.K C fs) (hf : f ∈ fs) (ho : PE X o (rdP X.K Γ mo)) (hv : PE X v (rdE X.K Γ W mv)) (hs : swapsWith v (some (.Attribute o f pos')) pos.line X.env = pure false := by rfl) : PS X (.Assign [.Attribute o f pos'] v pos) (rdS X.K Γ W (sFld C f mo mv)) := by
  refine ps_imp (ps_fld ho hv hs) fun D σ H h => ?_
  obtain ⟨st, p, R, hp, h⟩ := h
  refine ⟨st, p, R, ?_⟩
  unfold sFld at h
  cases ea : mv st with
  | bad => rw [ea] at h; exact h
  | err c s1 => rw [ea] at h; exact fun H' R' => h σ H' (hp ▸ R')
  | ok d s1 =>
    rw [ea] at h
    simp only [Res.bind_ok] at h
    cases eo : mo s1 with
    | none => simp only [eo, Option.bind_none] at h
    | some x =>
      simp only [eo, Option.bind_some] at h
      cases ep : putFld C f x d s1 with
      | none => simp only [ep] at h
      | some s2 =>
        simp only [ep] at h
        intro v H1 R1
        refine ⟨s1, _, x, R1, eo, fun ov R2 => ?_⟩
        obtain ⟨l, ks, ys, rfl, el, hk, rfl⟩ := putFld_inv ep
        obtain ⟨m, ar, am, ao, ab, R3⟩ := R2
        obtain ⟨c1, c2, _, rx, r2⟩ := R3.rb.head
        obtain ⟨a', rfl, em'⟩ := rx.loc_i
        have rd := R3.ri.head0.1
        have R4 := R3.setI (p := (p.nob.sh v d).lk (.ref a') (.loc l)) R3.ri.head0.2
        obtain ⟨a, dx, gs, em, hs', ek, R5⟩ := R4.fldS (cs := []) (ao' := ao) el rd R4.ro rfl f
        rw [em] at em'
        cases em'
        exact ⟨_, _, dx, gs, rfl, hs', F.cls, F.no f hf, by rw [← ek] at hk; simpa using hk, h σ _ (hp ▸ R5)⟩
theorem s_fldO {o v : Expr} {mo : Ss → Option AV} {mv : M AV} {pos' : Pos} (F : ClsF X.K C fs) (hf : f ∈ fs) (ho : PE X o (rdP X.K Γ mo)) (hv : PE X v (rdO X.K Γ W mv)) (hs : swapsWith v (some (.Attribute o f pos')) pos.line X.env = pure false := by rfl) : PS X (.Assign [.Attribute o f pos'] v pos) (rdS X.K Γ W (sFld C f mo mv)) := by
  refine ps_imp (ps_fld ho hv hs) fun D σ H h => ?_
  obtain ⟨st, p, R, hp, h⟩ := h
  refine ⟨st, p, R, ?_⟩
  unfold sFld at h
  cases ea : mv st with
  | bad => rw [ea] at h; exact h
  | err c s1 => rw [ea] at h; exact fun H' R' => h σ H' (hp ▸ R')
  | ok d s1 =>
    rw [ea] at h
    simp only [Res.bind_ok] at h
    cases eo : mo s1 with
    | none => simp only [eo, Option.bind_none] at h
    | some x =>
      simp only [eo, Option.bind_some] at h
      cases ep : putFld C f x d s1 with
      | none => simp only [ep] at h
      | some s2 =>
        simp only [ep] at h
        intro v H1 R1
        refine ⟨s1, _, x, R1, eo, fun ov R2 => ?_⟩
        obtain ⟨l, ks, ys, rfl, el, hk, rfl⟩ := putFld_inv ep
        obtain ⟨m, ar, am, ao, ab, R3⟩ := R2
        obtain ⟨c1, c2, _, rx, r2⟩ := R3.rb.head
        obtain ⟨a', rfl, em'⟩ := rx.loc_i
        obtain ⟨cs, ao', eo', rd, ro'⟩ := R3.ro.head
        obtain ⟨a, dx, gs, em, hs', ek, R5⟩ := R3.fldS (cs := cs) (ao' := ao') el rd ro' eo' f
        rw [em] at em'
        cases em'
        exact ⟨_, _, dx, gs, rfl, hs', F.cls, F.no f hf, by rw [← ek] at hk; simpa using hk, h σ _ (hp ▸ R5)⟩
end
end Fk
/-! ## objects are made, their parts are written -/
namespace Fk
open PySem PySem.Spec PyProof.Rows L2
/-- one of two ways -/
def mAlt {α : Type} (a b : M α) : M α := fun st => match a st with
  | .bad => b st
  | r => r
section
variable {X : Cx} {Γ : Gam} {W : WX} {e : Expr} {s : Stmt}
theorem pe_or' {a b : TE} (h1 : PE X e a) (h2 : PE X e b) : PE X e (fun σ H Q => a σ H Q ∨ b σ H Q) := ⟨fun pins s σ H Q I h => h.elim (fun q => h1.run pins s σ H Q I q) (fun q => h2.run pins s σ H Q I q)⟩
theorem s_alt {a b : M AV} (h1 : PE X e (rdE X.K Γ W a)) (h2 : PE X e (rdE X.K Γ W b)) : PE X e (rdE X.K Γ W (mAlt a b)) := by
  refine pe_imp (pe_or' h1 h2) fun σ H Q h => ?_
  obtain ⟨st, p, R, h⟩ := h
  unfold mAlt at h
  cases ea : a st with
  | bad => rw [ea] at h; exact .inr ⟨st, p, R, h⟩
  | ok d s1 => rw [ea] at h; exact .inl ⟨st, p, R, by rw [ea]; exact h⟩
  | err c s1 => rw [ea] at h; exact .inl ⟨st, p, R, by rw [ea]; exact h⟩
theorem s_altS {a b : M Fl} (h1 : PS X s (rdS X.K Γ W a)) (h2 : PS X s (rdS X.K Γ W b)) : PS X s (rdS X.K Γ W (mAlt a b)) := by
  refine ps_imp (ps_or h1 h2) fun D σ H h => ?_
  obtain ⟨st, p, R, hp, h⟩ := h
  unfold mAlt at h
  cases ea : a st with
  | bad => rw [ea] at h; exact .inr ⟨st, p, R, hp, h⟩
  | ok d s1 => rw [ea] at h; exact .inl ⟨st, p, R, hp, by rw [ea]; exact h⟩
  | err c s1 => rw [ea] at h; exact .inl ⟨st, p, R, hp, by rw [ea]; exact h⟩
end
/-- owned kinds -/
def ownA : AV → Bool
  | .lst o _ => o
  | .dct o _ _ => o
  | .nst _ => true
  | .ndc _ _ => true
  | .ins _ _ _ => true
  | _ => false
section
variable {K : PySem.W.Frag} {H : Hp} {W m as : List Addr} {v : V} {x d z : AV} {Γ : Gam} {σ : L2.St} {st : Ss} {p : Pd} {ar am ao ab : List Addr}
theorem own_ref (r : Rp K H W m [v] [x] as) (h : ownA x = true) : ∃ a, v = .ref a ∧ a ∈ as := by
  cases r with
  | lsI _ _ _ _ => cases h
  | dcI _ _ _ _ _ => cases h
  | lsO _ _ _ => exact ⟨_, rfl, by simp⟩
  | dcO _ _ _ _ => exact ⟨_, rfl, by simp⟩
  | nst _ _ _ => exact ⟨_, rfl, by simp⟩
  | ndc _ _ _ _ => exact ⟨_, rfl, by simp⟩
  | ins _ _ _ _ => exact ⟨_, rfl, by simp⟩
  | _ => cases h
/-- a pending owned thing becomes an object by itself -/
theorem Rel.prom (R : Rel K Γ σ H st (p.own v d)) (h : ownA d = true) : Rel K Γ σ H ⟨st.r, st.s ++ [d]⟩ (p.sh v (.loc st.s.length)) := by
  obtain ⟨m, ar, am, ao, ab, R⟩ := R
  obtain ⟨cs, ao', eo, rd, ro'⟩ := R.ro.head
  obtain ⟨a, rfl, ha⟩ := own_ref rd h
  subst eo
  have nd := R.nd
  have fr := R.fr
  have hl := R.rm.len
  rw [List.length_map] at hl
  have hm : ∀ (l : Nat) b, m[l]? = some b → (m ++ [a])[l]? = some b := fun l b e => by
    rw [List.getElem?_append_left (List.getElem?_eq_some_iff.mp e).1]; exact e
  have t : Tr H H (wOf Γ ar am (cs ++ ao')) (wOf Γ ar (am ++ cs) ao') m (m ++ [a]) [] := ⟨Kp.refl, (fun _ z => nomatch z), fun b _ n z => n (by
    simp only [wOf, List.mem_append] at z ⊢
    grind), hm⟩
  refine ⟨m ++ [a], ar, am ++ cs, ao', ab, t.rs R.rs (fun _ _ z => nomatch z), ?_, ?_, t.rp ro' (fun _ _ z => nomatch z), t.rp R.rb (fun _ _ z => nomatch z), ?_, ?_, R.kp, fun l b e => hm l b (R.pm l b e), R.gu, R.tb⟩
  · rw [List.map_append]
    exact (t.rp R.rm (fun _ _ z => nomatch z)).app (t.rp rd (fun _ _ z => nomatch z))
  · refine Rp.cons0 (.loc ?_ .nil) (t.rp0 R.ri)
    rw [← hl, List.getElem?_append_right (Nat.le_refl _)]
    simp
  · have e : wOf Γ ar (am ++ cs) ao' = wOf Γ ar am (cs ++ ao') := by simp [wOf, List.append_assoc]
    rw [e]
    exact nd
  · intro c hc
    have := fr c
    simp only [List.mem_append] at this hc
    grind
/-- an object's own thing is written: it may take over what is pending -/
theorem Rl.wrG {cs ao' : List Addr} {ov' : List V} {ox' : List AV} {l : Nat} (R : Rl K Γ σ H st p m ar am ao ab) (e : st.s[l]? = some z) (ro' : Rp K H (wOf Γ ar am ao) m ov' ox' ao') (eo : ao = cs ++ ao') : ∃ a b, m[l]? = some a ∧ Rp K H (wOf Γ ar am ao) m [.ref a] [z] b ∧ (b ++ cs).Nodup ∧
    ∀ {q : Addr} {o u : HO} {z' : AV} {b' : List Addr}, q ∈ b → H q = some u → mutO u = true → (∀ c ∈ b', c ∈ b ∨ c ∈ cs) → b'.Nodup → (∀ {H' : Hp} {W' : List Addr}, Tr H H' (wOf Γ ar am ao) W' m m [q] → H' q = some o → Rp K H' W' m [.ref a] [z'] b') →
      Rel K Γ σ (upd H q o) ⟨st.r, st.s.set l z'⟩ { p.nob with ov := ov', ox := ox' } := by
  obtain ⟨v, a1, b, a2, ev, ea, r1, rv, r3⟩ := R.rm.at_ e
  rw [List.getElem?_map] at ev
  obtain ⟨a, em, rfl⟩ := Option.map_eq_some_iff.mp ev
  have nd := R.nd
  have fr := R.fr
  refine ⟨a, b, em, rv, ?_, ?_⟩
  · simp only [wOf, ea, eo, List.nodup_append, List.mem_append] at nd ⊢
    grind
  intro q o u z' b' hq hu hm pm pnd hr
  have hqw : q ∈ wOf Γ ar am ao := by simp only [wOf, ea, List.mem_append]; grind
  have t : Tr H (upd H q o) (wOf Γ ar am ao) (wOf Γ ar (a1 ++ (b' ++ a2)) ao') m m [q] := Tr.put hu hm hqw fun c z => by
    have := pm c
    simp only [wOf, ea, eo, List.mem_append] at z ⊢
    grind
  have n0 : ∀ c ∈ ar, c ∉ [q] := fun c hc z => by
    simp only [wOf, ea, List.nodup_append, List.mem_append, List.mem_singleton] at nd z
    grind
  have n1 : ∀ c ∈ a1, c ∉ [q] := fun c hc z => by
    simp only [wOf, ea, List.nodup_append, List.mem_append, List.mem_singleton] at nd z
    grind
  have n2 : ∀ c ∈ a2, c ∉ [q] := fun c hc z => by
    simp only [wOf, ea, List.nodup_append, List.mem_append, List.mem_singleton] at nd z
    grind
  have n3 : ∀ c ∈ ao', c ∉ [q] := fun c hc z => by
    simp only [wOf, ea, eo, List.nodup_append, List.mem_append, List.mem_singleton] at nd z
    grind
  have hl : l < st.s.length := (List.getElem?_eq_some_iff.mp e).1
  have rm' : Rp K (upd H q o) (wOf Γ ar (a1 ++ (b' ++ a2)) ao') m (m.map V.ref) (st.s.set l z') (a1 ++ (b' ++ a2)) := by
    have h1 := Rp.put (v := .ref a) (x := z') hl (t.rp r1 n1) (hr t upd_same) (t.rp r3 n2) R.rm.len
    have e2 : (m.map V.ref).set l (.ref a) = m.map V.ref := by
      apply List.ext_getElem?
      intro j
      by_cases c : l = j
      · subst c
        rw [List.getElem?_set_self (by rw [R.rm.len]; exact hl), List.getElem?_map, em]
        rfl
      · rw [List.getElem?_set_ne c]
    rw [e2] at h1
    exact h1
  refine ⟨m, ar, a1 ++ (b' ++ a2), ao', [], t.rs R.rs n0, rm', t.rp0 R.ri, t.rp ro' n3, .nil, ?_, ?_, ?_, R.pm, R.gu, tabs_put R.tb hu hm⟩
  · simp only [wOf, ea, eo, List.nodup_append, List.mem_append] at nd ⊢
    grind
  · intro c hc
    have h1 := fr c
    have h2 := pm c
    simp only [ea, eo, List.mem_append] at hc h1
    grind
  · intro a' o' e' n'
    obtain ⟨o2, e2, f2⟩ := R.kp a' o' e' n'
    have ne : a' ≠ q := by
      rintro rfl
      rcases fr a' (by simp only [ea, List.mem_append]; grind) with z | z
      · exact n' z
      · rw [e'] at z; cases z
    exact ⟨o2, by rw [upd_ne ne]; exact e2, f2⟩
/-! ### places: an object, or a field of it -/
def setFA : List Str → List AV → Str → AV → List AV
  | k :: ks, x :: xs, f, d => if k = f then d :: xs else x :: setFA ks xs f d
  | _, xs, _, _ => xs
theorem lensF {f : Str} : ∀ {fs : List (Str × V)} {ys : List AV} {bs : List Addr}, Rp K H W m (fs.map (·.2)) ys bs → getF (fs.map (·.1)) ys f = some x → ∃ u b1 b2 b3, fs.lookup f = some u ∧ bs = b1 ++ (b2 ++ b3) ∧ Rp K H W m [u] [x] b2 ∧
    ∀ {H' : Hp} {W' m' b2' : List Addr} {x' : AV}, (∀ {vs : List V} {xs : List AV} {as : List Addr}, Rp K H W m vs xs as → (∀ c ∈ as, c ∈ b1 ∨ c ∈ b3) → Rp K H' W' m' vs xs as) → Rp K H' W' m' [u] [x'] b2' → Rp K H' W' m' (fs.map (·.2)) (setFA (fs.map (·.1)) ys f x') (b1 ++ (b2' ++ b3))
  | [], ys, bs, r, e => by cases ys <;> cases e
  | (k', v) :: fs, [], bs, r, e => by cases e
  | (k', v) :: fs, z :: ys, bs, r, e => by
    obtain ⟨c1, c2, ea, r1, r2⟩ := Rp.head (show Rp K H W m (v :: fs.map (·.2)) (z :: ys) bs from r)
    have e2 : (if k' = f then some z else getF (fs.map (·.1)) ys f) = some x := e
    by_cases c : k' = f
    · rw [if_pos c] at e2
      cases e2
      refine ⟨v, [], c1, c2, ?_, by simpa using ea, r1, fun {H' W' m' b2' x'} tr rx => ?_⟩
      · rw [List.lookup_cons, c, beq_self_eq_true]
      · show Rp K H' W' m' (v :: fs.map (·.2)) (if k' = f then x' :: ys else _) ([] ++ (b2' ++ c2))
        rw [if_pos c]
        exact rx.cons (tr r2 fun c hc => .inr hc)
    · rw [if_neg c] at e2
      obtain ⟨u, b1, b2, b3, hl, eb, ru, g⟩ := lensF r2 e2
      refine ⟨u, c1 ++ b1, b2, b3, ?_, by rw [ea, eb, List.append_assoc], ru, fun {H' W' m' b2' x'} tr rx => ?_⟩
      · rw [List.lookup_cons, beq_eq_false_iff_ne.mpr (fun z => c z.symm)]
        exact hl
      · show Rp K H' W' m' (v :: fs.map (·.2)) (if k' = f then x' :: ys else z :: setFA (fs.map (·.1)) ys f x') ((c1 ++ b1) ++ (b2' ++ b3))
        rw [if_neg c, List.append_assoc]
        exact (tr r1 fun c hc => .inl (by simp [hc])).cons (g (fun q hq => tr q fun c hc => by
          have := hq c hc
          simp only [List.mem_append]
          grind) rx)
/-- a place -/
def getPl (S : List AV) (l : Nat) : Option (Str × Str) → Option AV
  | none => S[l]?
  | some (C, f) => ((S[l]?).bind insOf).bind fun t => if t.1 = C then getF t.2.1 t.2.2 f else none
def setPl (S : List AV) (l : Nat) (fo : Option (Str × Str)) (d : AV) : List AV := match fo with
  | none => S.set l d
  | some (_, f) => match (S[l]?).bind insOf with
    | some (C, ks, ys) => S.set l (.ins C ks (setFA ks ys f d))
    | none => S
/-- where a place stands -/
def AtPl (K : PySem.W.Frag) (H : Hp) (m : List Addr) (l : Nat) (a : Addr) : Option (Str × Str) → Prop
  | none => m[l]? = some a
  | some (C, f) => ∃ a0 dx fs, m[l]? = some a0 ∧ H a0 = some (.ins (He.ga K C) dx fs) ∧ fs.lookup f = some (.ref a)
theorem Rl.place {cs ao' : List Addr} {ov' : List V} {ox' : List AV} {l : Nat} {fo : Option (Str × Str)} (R : Rl K Γ σ H st p m ar am ao ab) (e : getPl st.s l fo = some z) (hz : ownA z = true) (ro' : Rp K H (wOf Γ ar am ao) m ov' ox' ao') (eo : ao = cs ++ ao') : ∃ a b, AtPl K H m l a fo ∧ Rp K H (wOf Γ ar am ao) m [.ref a] [z] b ∧ a ∈ b ∧ (b ++ cs).Nodup ∧
    ∀ {o u : HO} {z' : AV} {b' : List Addr}, H a = some u → mutO u = true → (∀ c ∈ b', c ∈ b ∨ c ∈ cs) → b'.Nodup → (∀ {H' : Hp} {W' : List Addr}, Tr H H' (wOf Γ ar am ao) W' m m [a] → H' a = some o → Rp K H' W' m [.ref a] [z'] b') →
      Rel K Γ σ (upd H a o) ⟨st.r, setPl st.s l fo z'⟩ { p.nob with ov := ov', ox := ox' } := by
  cases fo with
  | none =>
    obtain ⟨a, b, em, rv, nd, f⟩ := R.wrG (cs := cs) (ao' := ao') e ro' eo
    obtain ⟨a', e', hin⟩ := own_ref rv hz
    cases e'
    exact ⟨a, b, em, rv, hin, nd, fun {o u z' b'} hu hm pm pnd hr => f hin hu hm pm pnd hr⟩
  | some cf =>
    obtain ⟨C, f⟩ := cf
    obtain ⟨⟨C', ks, ys⟩, e1, e2⟩ := Option.bind_eq_some_iff.mp e
    obtain ⟨t, et, ei⟩ := Option.bind_eq_some_iff.mp e1
    have e3 : (if C' = C then getF ks ys f else none) = some z := e2
    by_cases c : C' = C
    · subst c
      rw [if_pos rfl] at e3
      cases t with
      | ins C2 k2 y2 =>
        cases ei
        obtain ⟨a0, b0, em, rv, nd, g⟩ := R.wrG (cs := cs) (ao' := ao') et ro' eo
        cases rv with
        | @ins _ _ dx fs _ _ bs _ _ as0 hs ek q r0 =>
          obtain ⟨_, rfl⟩ := r0.nil_inv
          subst ek
          obtain ⟨u, b1, b2, b3, hl, eb, ru, gl⟩ := lensF q e3
          obtain ⟨a, rfl, hin⟩ := own_ref ru hz
          subst eb
          have ndb : (b1 ++ (b2 ++ b3)).Nodup ∧ a0 ∉ b1 ++ (b2 ++ b3) := by
            simp only [List.nodup_append, List.nodup_cons, List.mem_append, List.append_nil, List.cons_append] at nd ⊢
            grind
          refine ⟨a, b2, ⟨a0, dx, fs, em, hs, hl⟩, ru, hin, ?_, fun {o u z' b'} hu hm pm pnd hr => ?_⟩
          · simp only [List.nodup_append, List.nodup_cons, List.mem_append, List.append_nil, List.cons_append] at nd ⊢
            grind
          · have es : setPl st.s l (some (C', f)) z' = st.s.set l (.ins C' (fs.map (·.1)) (setFA (fs.map (·.1)) ys f z')) := by
              unfold setPl
              rw [et]
              rfl
            rw [es]
            have na : a ≠ a0 := fun z => ndb.2 (by subst z; simp [hin])
            refine g (q := a) (b' := a0 :: (b1 ++ (b' ++ b3))) (by simp [hin]) hu hm (fun c hc => ?_) ?_ (fun {H' W'} t hq => ?_)
            · have := pm c
              simp only [List.mem_cons, List.mem_append, List.append_nil] at hc ⊢
              grind
            · simp only [List.nodup_append, List.nodup_cons, List.mem_append, List.mem_cons, List.append_nil, List.cons_append] at nd pm pnd ⊢
              grind
            · have hs' : H' a0 = some (.ins (He.ga K C') dx fs) := t.k.keep a0 _ hs (by simp [Ne.symm na]) (fun ps z => by cases z)
              have q' := gl (H' := H') (W' := W') (m' := m) (x' := z') (fun rr hrr => t.rp rr fun c hc z => by
                have z1 : c = a := by simpa using z
                subst z1
                have z2 := hrr c hc
                have z3 := ndb.1
                simp only [List.nodup_append, List.mem_append] at z3
                grind) (hr t hq)
              have h1 := Rp.ins (K := K) (m := m) (W := W') (vs := []) (xs := []) (as := []) hs' rfl q' .nil
              simpa using h1
      | _ => cases ei
    · rw [if_neg c] at e3
      cases e3
end
end Fk
/-! ## stores at places -/
namespace Fk
open PySem PySem.Spec PyProof.Rows L2
/-- a thing with a value put at a place of it; w: the value is an owned one -/
def setZ : Bool → AV → AV → AV → Option AV
  | false, .lst true xs, y, d => (setIx xs y d).map (AV.lst true)
  | false, .dct true ks xs, y, d => (keyA y).bind fun k => if ks.length < 16777216 then some (.dct true (putKA ks xs k d).1 (putKA ks xs k d).2) else none
  | true, .nst xs, y, d => (setIx xs y d).map AV.nst
  | _, _, _, _ => none
def isD : AV → Bool
  | .dct _ _ _ => true
  | _ => false
theorem setZ_own {w : Bool} {z y d z' : AV} (h : setZ w z y d = some z') : ownA z = true := by
  unfold setZ at h
  split at h
  · rfl
  · rfl
  · rfl
  · cases h
section
variable {K : PySem.W.Frag} {H : Hp} {W m as : List Addr} {v vy : V} {x y d z z' : AV} {Γ : Gam} {σ : L2.St} {st : Ss} {p : Pd} {ar am ao ab : List Addr}
theorem setIx_inv {xs ys : List AV} (r : Rp K H W m [vy] [y] as) (h : setIx xs y d = some ys) : ∃ k j, vy = .int k ∧ ixN xs.length k = some j ∧ j < xs.length ∧ ys = xs.set j d := by
  obtain ⟨k, ek, h⟩ := Option.bind_eq_some_iff.mp h
  obtain ⟨j, ej, rfl⟩ := Option.map_eq_some_iff.mp h
  cases y with
  | int k' =>
    cases ek
    exact ⟨k, j, r.int_i, ej, (ixN_seq ej).2.1, rfl⟩
  | _ => cases ek
theorem Rl.store {cs ao' c1 : List Addr} {ov' : List V} {ox' : List AV} {l : Nat} {fo : Option (Str × Str)} {w : Bool} (R : Rl K Γ σ H st p m ar am ao ab) (e : getPl st.s l fo = some z) (rd : Rp K H (wOf Γ ar am ao) m [v] [d] cs) (hw : w = false → cs = []) (ro' : Rp K H (wOf Γ ar am ao) m ov' ox' ao') (eo : ao = cs ++ ao')
    (ry : Rp K H (wOf Γ ar am ao) m [vy] [y] c1) (es : setZ w z y d = some z') : ∃ a o, AtPl K H m l a fo ∧ Rel K Γ σ (upd H a o) ⟨st.r, setPl st.s l fo z'⟩ { p.nob with ov := ov', ox := ox' } ∧
      ((isD z = false ∧ ∃ us k j, vy = .int k ∧ H a = some (.lst us) ∧ ixN us.length k = some j ∧ o = .lst (us.set j v)) ∨ (isD z = true ∧ DPut H a vy v (upd H a o))) := by
  obtain ⟨a, b, hat, rz, hin, nd, f⟩ := R.place (cs := cs) (ao' := ao') e (setZ_own es) ro' eo
  unfold setZ at es
  split at es
  · obtain ⟨ys, e1, rfl⟩ := Option.map_eq_some_iff.mp es
    obtain ⟨k, j, rfl, ej, hj, rfl⟩ := setIx_inv ry e1
    obtain rfl := hw rfl
    cases rz with
    | @lsO _ us _ _ _ as0 hs q r0 =>
      obtain ⟨_, rfl⟩ := r0.nil_inv
      refine ⟨a, .lst (us.set j v), hat, f (b' := [a]) hs rfl (fun c hc => .inl hc) (by simp) (fun {H' W'} t h1 => ?_), .inl ⟨rfl, us, k, j, rfl, hs, by rw [q.len]; exact ej, rfl⟩⟩
      obtain ⟨xj, exj⟩ : ∃ xj, ‹List AV›[j]? = some xj := ⟨_, List.getElem?_eq_getElem hj⟩
      obtain ⟨u, b1, b2, b3, eu, ea', r1, r2, r3⟩ := q.at_ exj
      obtain ⟨z1, z2⟩ := List.append_eq_nil_iff.mp ea'.symm
      obtain ⟨z3, z4⟩ := List.append_eq_nil_iff.mp z2
      subst z1 z3 z4
      exact .lsO h1 (t.rp0 (Rp.put hj r1 rd r3 q.len)) .nil
  · rename_i ks xs
    obtain ⟨k, ek, e1⟩ := Option.bind_eq_some_iff.mp es
    split at e1
    · cases e1
      rename_i cz
      obtain rfl := hw rfl
      cases rz with
      | @dcO _ kvs _ _ _ _ as0 hs ek3 q r0 =>
        obtain ⟨_, rfl⟩ := r0.nil_inv
        subst ek3
        obtain ⟨p1, p2⟩ := putK_v (k := k) q rd
        refine ⟨a, .dK (putK kvs k v), hat, f (b' := [a]) hs rfl (fun c hc => .inl hc) (by simp) (fun {H' W'} t h1 => ?_), .inr ⟨rfl, ?_⟩⟩
        · exact .dcO h1 p1 (t.rp0 p2) .nil
        · rw [keyA_v ry ek]
          exact DPut.k hs (by rw [mx_eq]; simpa using cz)
    · cases e1
  · obtain ⟨ys, e1, rfl⟩ := Option.map_eq_some_iff.mp es
    obtain ⟨k, j, rfl, ej, hj, rfl⟩ := setIx_inv ry e1
    cases rz with
    | @nst _ us _ bs _ _ as0 hs q r0 =>
      obtain ⟨_, rfl⟩ := r0.nil_inv
      rw [List.append_nil] at nd hin f
      obtain ⟨xj, exj⟩ : ∃ xj, ‹List AV›[j]? = some xj := ⟨_, List.getElem?_eq_getElem hj⟩
      obtain ⟨u, b1, b2, b3, eu, ea', r1, r2, r3⟩ := q.at_ exj
      subst ea'
      refine ⟨a, .lst (us.set j v), hat, f (b' := a :: (b1 ++ (cs ++ b3))) hs rfl (fun c hc => ?_) ?_ (fun {H' W'} t h1 => ?_), .inl ⟨rfl, us, k, j, rfl, hs, by rw [q.len]; exact ej, rfl⟩⟩
      · simp only [List.mem_cons, List.mem_append] at hc ⊢
        grind
      · simp only [List.nodup_append, List.nodup_cons, List.mem_append, List.mem_cons, List.cons_append] at nd ⊢
        grind
      · have n1 : ∀ c ∈ b1, c ∉ [a] := fun c hc z => by
          simp only [List.nodup_append, List.nodup_cons, List.mem_append, List.mem_cons, List.cons_append, List.mem_singleton] at nd z
          grind
        have n2 : ∀ c ∈ b3, c ∉ [a] := fun c hc z => by
          simp only [List.nodup_append, List.nodup_cons, List.mem_append, List.mem_cons, List.cons_append, List.mem_singleton] at nd z
          grind
        have n3 : ∀ c ∈ cs, c ∉ [a] := fun c hc z => by
          simp only [List.nodup_append, List.nodup_cons, List.mem_append, List.mem_cons, List.cons_append, List.mem_singleton] at nd z
          grind
        have h2 := Rp.nst (K := K) (m := m) (W := W') (vs := []) (xs := []) (as := []) h1 (Rp.put hj (t.rp r1 n1) (t.rp rd n3) (t.rp r3 n2) q.len) .nil
        simpa using h2
  · cases es
end
/-- the place that an expression names: an object (fo none) or a field of one -/
def AtH (K : PySem.W.Frag) (H : Hp) (a0 a : Addr) : Option (Str × Str) → Prop
  | none => a = a0
  | some (C, f) => ∃ dx fs, H a0 = some (.ins (He.ga K C) dx fs) ∧ fs.lookup f = some (.ref a)
def rdB (K : PySem.W.Frag) (Γ : Gam) (mo : Ss → Option AV) (fo : Option (Str × Str)) : TE := fun σ H Q => ∃ st p l z, Rel K Γ σ H st p ∧ mo st = some (.loc l) ∧ getPl st.s l fo = some z ∧ ownA z = true ∧ ∀ a a0, Rel K Γ σ H st (p.lk (.ref a0) (.loc l)) → AtH K H a0 a fo → Q (.ref a) H
section
variable {X : Cx} {Γ : Gam} {W : WX} {σ : L2.St} {H : Hp} {st : Ss} {p : Pd} {K : PySem.W.Frag} {pos apos cpos : Pos} {o o' : Expr} {x : Str} {i : Nat} {C f : Str} {fs : List Str} {mo mk : Ss → Option AV}
theorem at_of {m : List Addr} {l : Nat} {a a' a0 : Addr} {fo : Option (Str × Str)} (h : AtH K H a0 a fo) (h2 : AtPl K H m l a' fo) (e : m[l]? = some a0) : a' = a := by
  cases fo with
  | none =>
    have e2 : m[l]? = some a' := h2
    rw [e] at e2
    cases e2
    exact h.symm
  | some cf =>
    obtain ⟨C, f⟩ := cf
    obtain ⟨dx, gs, h1, hl⟩ := h
    obtain ⟨b0, dx', gs', e2, h1', hl'⟩ := h2
    rw [e] at e2
    cases e2
    rw [h1] at h1'
    cases h1'
    rw [hl] at hl'
    cases hl'
    rfl
theorem s_b0 (h : PE X o (rdP X.K Γ mo)) : PE X o (rdB X.K Γ mo none) := by
  refine pe_imp h fun σ H Q h => ?_
  obtain ⟨st, p, l, z, R, e, _, _, h⟩ := h
  refine ⟨st, p, .loc l, R, e, fun v R1 => ?_⟩
  obtain ⟨m, ar, am, ao, ab, R2⟩ := id R1
  obtain ⟨c1, c2, _, rx, r2⟩ := R2.rb.head
  obtain ⟨a, rfl, em⟩ := rx.loc_i
  exact h a a R1 rfl
theorem s_b1 (F : ClsF X.K C fs) (hf : f ∈ fs) (h : PE X o (rdP X.K Γ mo)) (hb : attributeBase o f X.env (eval o X.env) = eval o X.env := by rfl) : PE X (.Attribute o f pos) (rdB X.K Γ mo (some (C, f))) := by
  refine pe_imp (pe_fld h hb) fun σ H Q h => ?_
  obtain ⟨st, p, l, z, R, e, ez, hz, h⟩ := h
  refine ⟨st, p, .loc l, R, e, fun v R1 => ?_⟩
  obtain ⟨m, ar, am, ao, ab, R2⟩ := id R1
  obtain ⟨c1, c2, _, rx, r2⟩ := R2.rb.head
  obtain ⟨a0, rfl, em⟩ := rx.loc_i
  obtain ⟨a, b, hat, rz, _⟩ := R2.place (cs := []) (ao' := ao) ez hz R2.ro rfl
  obtain ⟨b0, dx, gs, em', hs, hl⟩ := hat
  rw [em] at em'
  cases em'
  exact ⟨a0, _, dx, gs, _, rfl, hs, F.cls, F.no f hf, hl, h a a0 R1 ⟨dx, gs, hs, hl⟩⟩
/-- place[y] = value -/
def sSetP (w : Bool) (fo : Option (Str × Str)) (mo mk : Ss → Option AV) (mv : M AV) : M Fl := fun st => (mv st).bind fun d s1 => match (mo s1).bind locOf with
  | some l => (match mk s1 with
    | some y => (match (getPl s1.s l fo).bind fun z => setZ w z y d with
      | some z' => .ok .nx ⟨s1.r, setPl s1.s l fo z'⟩
      | none => .bad)
    | none => .bad)
  | none => .bad
def rdW (w : Bool) (K : PySem.W.Frag) (Γ : Gam) (W : WX) (m : M AV) : TE := match w with
  | false => rdE K Γ W m
  | true => rdO K Γ W m
theorem s_setP {w : Bool} {fo : Option (Str × Str)} {ek ev : Expr} {mv : M AV} {pos' : Pos} (hu : X.A.units + 1 < cLine) (ho : PE X o (rdB X.K Γ mo fo)) (hk : PE X ek (rdP X.K Γ mk)) (hv : PE X ev (rdW w X.K Γ W mv))
    (hsw : swapsWith ev (some (.Subscript o ek pos')) pos.line X.env = pure false := by rfl)
    (hs1 : swapsWithSole [.Subscript o ek pos'] ev pos.line X.env = pure false := by rfl) (hw1 : swappedStores [.Subscript o ek pos'] ev X.env = pure none := by rfl)
    (ha : ∀ v, assign (.Subscript o ek pos') X.env v = (do
      let ov ← holding [v] (eval o X.env)
      let iv ← holding [v, ov] (eval ek X.env)
      standAt pos'
      holding [v, ov, iv] (setItem ov iv v)
      release [v, ov, iv] []) := by intro _; rfl) : PS X (.Assign [.Subscript o ek pos'] ev pos) (rdS X.K Γ W (sSetP w fo mo mk mv)) := by
  have h1 : PS X (.Assign [.Subscript o ek pos'] ev pos) (tAsg (rdW w X.K Γ W mv) (gSub (rdB X.K Γ mo fo) (rdP X.K Γ mk) rSetL)) := ps_asg hv (pg_sub ho hk set_list ha) hs1 hw1
  have h2 : PS X (.Assign [.Subscript o ek pos'] ev pos) (sDPut (rdB X.K Γ mo fo) (rdP X.K Γ mk) (rdW w X.K Γ W mv)) := ps_dput hu ho hk hv hsw
  refine ps_imp (ps_or h1 h2) fun D σ H h => ?_
  obtain ⟨st, p, R, hp, h⟩ := h
  unfold sSetP at h
  have main : ∀ (k : V → V → V → Hp → Prop), (∀ d s1 l y z z', mv st = .ok d s1 → mo s1 = some (.loc l) → mk s1 = some y → getPl s1.s l fo = some z → setZ w z y d = some z' → ∀ v a vy H1 o, Rel X.K Γ σ (upd H1 a o) ⟨s1.r, setPl s1.s l fo z'⟩ p →
        ((isD z = false ∧ ∃ us k j, vy = .int k ∧ H1 a = some (.lst us) ∧ ixN us.length k = some j ∧ o = .lst (us.set j v)) ∨ (isD z = true ∧ DPut H1 a vy v (upd H1 a o))) → k v (.ref a) vy H1) →
      rdW w X.K Γ W mv σ H fun v H1 => rdB X.K Γ mo fo σ H1 fun o H2 => rdP X.K Γ mk σ H2 fun y H3 => k v o y H3 := by
    intro k hk'
    have fin : ∀ d s1, mv st = .ok d s1 → ∀ v H1 (p1 : Pd), Rel X.K Γ σ H1 s1 p1 → (∀ {m ar am ao ab}, Rl X.K Γ σ H1 s1 p1 m ar am ao ab → ∃ cs ao' ov' ox', Rp X.K H1 (wOf Γ ar am ao) m [v] [d] cs ∧ (w = false → cs = []) ∧ Rp X.K H1 (wOf Γ ar am ao) m ov' ox' ao' ∧ ao = cs ++ ao' ∧ ∃ p2, Rl X.K Γ σ H1 s1 p2 m ar am ao [] ∧ { p2.nob with ov := ov', ox := ox' } = p) →
        rdB X.K Γ mo fo σ H1 fun o H2 => rdP X.K Γ mk σ H2 fun y H3 => k v o y H3 := by
      intro d s1 ea v H1 p1 R1 hR
      rw [ea] at h
      simp only [Res.bind_ok] at h
      cases el : (mo s1).bind locOf with
      | none => simp only [el] at h
      | some l =>
        simp only [el] at h
        cases ek' : mk s1 with
        | none => simp only [ek'] at h
        | some y =>
          simp only [ek'] at h
          cases ez : (getPl s1.s l fo).bind fun z => setZ w z y d with
          | none => simp only [ez] at h
          | some z' =>
            obtain ⟨z, e1, e2⟩ := Option.bind_eq_some_iff.mp ez
            obtain ⟨x, ex, exl⟩ := Option.bind_eq_some_iff.mp el
            have exl' : x = .loc l := by
              cases x with
              | loc l' => cases exl; rfl
              | _ => cases exl
            subst exl'
            refine ⟨s1, p1, l, z, R1, ex, e1, setZ_own e2, fun a a0 R2 hat => ⟨s1, _, y, R2, ek', fun vy R3 => ?_⟩⟩
            obtain ⟨m, ar, am, ao, ab, R4⟩ := R3
            obtain ⟨c1, c2, _, ry, r2⟩ := R4.rb.head
            obtain ⟨c3, c4, _, r0, r3⟩ := r2.head
            obtain ⟨a0', ea0, em⟩ := r0.loc_i
            cases ea0
            obtain ⟨cs, ao', ov', ox', rd, hcs, ro', eo, p2, R5, hp2⟩ := hR (ab := c4) (R4.setB r3)
            obtain ⟨a', o, hat', R6, hh⟩ := R5.store e1 rd hcs ro' eo ry e2
            obtain rfl := at_of hat hat' em
            rw [hp2] at R6
            exact hk' d s1 l y z z' ea ex ek' e1 e2 v a' vy H1 o R6 hh
    cases w with
    | false =>
      refine ⟨st, p, R, ?_⟩
      cases ea : mv st with
      | bad => rw [ea] at h; exact h
      | err c s1 => rw [ea] at h; exact fun H' R' => h σ H' (hp ▸ R')
      | ok d s1 =>
        intro v H1 R1
        refine fin d s1 ea v H1 _ R1 fun {m ar am ao ab} R2 => ⟨[], ao, p.ov, p.ox, R2.ri.head0.1, fun _ => rfl, R2.ro, rfl, p, ?_, ?_⟩
        · exact hp ▸ (R2.nob.setI (p := (p.nob.sh v d).nob) R2.ri.head0.2)
        · rw [hp]
    | true =>
      refine ⟨st, p, R, ?_⟩
      cases ea : mv st with
      | bad => rw [ea] at h; exact h
      | err c s1 => rw [ea] at h; exact fun H' R' => h σ H' (hp ▸ R')
      | ok d s1 =>
        intro v H1 R1
        refine fin d s1 ea v H1 _ R1 fun {m ar am ao ab} R2 => ?_
        obtain ⟨cs, ao', eo, rd, ro'⟩ := R2.ro.head
        exact ⟨cs, ao', p.ov, p.ox, rd, fun z => (nomatch z), ro', eo, _, R2.nob, hp⟩
  cases ea : mv st with
  | bad => rw [ea] at h; exact h.elim
  | err c s1 =>
    refine .inl (main _ fun d s1 l y z z' e1 => ?_)
    rw [ea] at e1; cases e1
  | ok d s1 =>
    rw [ea] at h
    simp only [Res.bind_ok] at h
    cases el : (mo s1).bind locOf with
    | none => simp only [el] at h
    | some l =>
      simp only [el] at h
      cases ek' : mk s1 with
      | none => simp only [ek'] at h
      | some y =>
        simp only [ek'] at h
        cases ez : (getPl s1.s l fo).bind fun z => setZ w z y d with
        | none => simp only [ez] at h
        | some z' =>
          simp only [ez] at h
          obtain ⟨z, e1, e2⟩ := Option.bind_eq_some_iff.mp ez
          obtain ⟨x, ex, exl⟩ := Option.bind_eq_some_iff.mp el
          have exl' : x = .loc l := by
            cases x with
            | loc l' => cases exl; rfl
            | _ => cases exl
          subst exl'
          cases hD : isD z with
          | false =>
            refine .inl (main _ fun d' s1' l' y' z2 z2' c1 c2 c3 c4 c5 v a vy H1 o R6 hh => ?_)
            rw [ea] at c1; cases c1
            rw [ex] at c2; cases c2
            rw [ek'] at c3; cases c3
            rw [e1] at c4; cases c4
            rw [e2] at c5; cases c5
            rcases hh with ⟨_, us, k, j, rfl, hs, hj, rfl⟩ | ⟨hq, _⟩
            · exact ⟨a, us, k, j, rfl, rfl, hs, hj, h σ _ R6⟩
            · rw [hD] at hq; cases hq
          | true =>
            refine .inr (main (fun v o y H3 => ∃ a H4, o = .ref a ∧ DPut H3 a y v H4 ∧ D.nx σ H4) fun d' s1' l' y' z2 z2' c1 c2 c3 c4 c5 v a vy H1 o R6 hh => ?_)
            rw [ea] at c1; cases c1
            rw [ex] at c2; cases c2
            rw [ek'] at c3; cases c3
            rw [e1] at c4; cases c4
            rw [e2] at c5; cases c5
            rcases hh with ⟨hq, _⟩ | ⟨_, hq⟩
            · rw [hD] at hq; cases hq
            · exact ⟨a, _, rfl, hq, h σ _ R6⟩
end
end Fk
/-! ## augmented stores, methods, making, several names at once -/
namespace Fk
open PySem PySem.Spec PyProof.Rows L2
section
variable {X : Cx} {Γ : Gam} {W : WX} {σ : L2.St} {H : Hp} {st : Ss} {p : Pd} {K : PySem.W.Frag} {pos apos cpos : Pos} {o o' e : Expr} {es : List Expr} {x : Str} {i : Nat} {C f : Str} {fs : List Str} {mo mk : Ss → Option AV}
/-! ### name += e -/
def sAug (i : Nat) (m : M AV) : M Fl := fun st => match getSl st.r i with
  | .im (.int a) => (m st).bind fun d s1 => match d with
    | .int b => .ok .nx ⟨setSl s1.r i (.im (.int (a + b))), s1.s⟩
    | _ => .bad
  | _ => .bad
theorem s_aug {m : M AV} {pos' : Pos} (hN : X.N.Nodup) (hi : X.N[i]? = some x) (hx : Loc X.env.scope x) (he : PE X e (rdE X.K Γ W m)) (hf : X.fn x = true ∨ X.env.scope.names.lookup x = some .local := by first | exact .inl rfl | exact .inr rfl | assumption) :
    PS X (.AugAssign (.Name x pos') .Add e pos) (rdS X.K Γ W (sAug i m)) := by
  refine ps_imp (ps_aug hN hi hx he ip_add hf) fun D σ H h => ?_
  obtain ⟨st, p, R, hp, h⟩ := h
  unfold sAug at h
  cases es : getSl st.r i with
  | im z =>
    rw [es] at h
    cases z with
    | int a =>
      simp only at h
      obtain ⟨m', ar, am, ao, ab, R0⟩ := id R
      obtain ⟨v, ev, rv⟩ := R0.rs.getIm es
      obtain rfl := rv.int_i
      refine ⟨.int a, ev, st, p, R, ?_⟩
      cases ea : m st with
      | bad => rw [ea] at h; exact h
      | err c s1 => rw [ea] at h; exact fun H' R' => h σ H' (hp ▸ R')
      | ok d s1 =>
        rw [ea] at h
        simp only [Res.bind_ok] at h
        intro v H1 R1
        cases d with
        | int b =>
          obtain ⟨m1, ar1, am1, ao1, ab1, R2, r⟩ := R1.one
          obtain rfl := r.int_i
          exact ⟨a, b, rfl, rfl, h _ H1 (hp ▸ (R2.rel.int (a + b)).put i)⟩
        | _ => exact h.elim
    | _ => exact h.elim
  | _ => rw [es] at h; exact h.elim
/-! ### e.f += v -/
def sFAug (C f : Str) (mo mv : M AV) : M Fl := fun st => (mo st).bind fun x s1 => match fldA s1.s C f x with
  | some (.int a) => (mv s1).bind fun d s2 => match d with
    | .int b => (match putFld C f x (.int (a + b)) s2 with
      | some s3 => .ok .nx s3
      | none => .bad)
    | _ => .bad
  | _ => .bad
theorem s_faug {mo mv : M AV} {ev : Expr} {tpos : Pos} (F : ClsF X.K C fs) (hf : f ∈ fs) (ho : PE X o (rdE X.K Γ W mo)) (hv : PE X ev (rdE X.K Γ W mv)) : PS X (.AugAssign (.Attribute o f tpos) .Add ev pos) (rdS X.K Γ W (sFAug C f mo mv)) := by
  refine ps_imp (ps_fldaug ho hv in_add) fun D σ H h => ?_
  obtain ⟨st, p, R, hp, h⟩ := h
  refine ⟨st, p, R, ?_⟩
  unfold sFAug at h
  cases eo : mo st with
  | bad => rw [eo] at h; exact h
  | err c s1 => rw [eo] at h; exact fun H' R' => h σ H' (hp ▸ R')
  | ok x s1 =>
    rw [eo] at h
    simp only [Res.bind_ok] at h
    intro ov H1 R1
    cases ef : fldA s1.s C f x with
    | none => simp only [ef] at h
    | some z =>
      simp only [ef] at h
      cases z with
      | int a =>
        simp only at h
        obtain ⟨m, ar, am, ao, ab, R2, rx⟩ := R1.one
        obtain ⟨a0, dx, gs, u, b, rfl, hs, hl, ru⟩ := fld_v R2 rx ef
        obtain rfl := ru.int_i
        refine ⟨a0, _, dx, gs, _, rfl, hs, F.cls, F.no f hf, hl, s1, _, R1, ?_⟩
        cases ea : mv s1 with
        | bad => rw [ea] at h; exact h
        | err c s2 => rw [ea] at h; exact fun H' R' => h σ H' (hp ▸ R'.drop)
        | ok d s2 =>
          rw [ea] at h
          simp only [Res.bind_ok] at h
          intro v H2 R3
          cases d with
          | int c =>
            simp only at h
            cases ep : putFld C f x (.int (a + c)) s2 with
            | none => simp only [ep] at h
            | some s3 =>
              simp only [ep] at h
              obtain ⟨l, ks, ys, rfl, el, hk, rfl⟩ := putFld_inv ep
              obtain ⟨m3, ar3, am3, ao3, ab3, R4, rx4, rv4⟩ := R3.two
              obtain rfl := rv4.int_i
              obtain ⟨a', e', em'⟩ := rx4.loc_i
              cases e'
              obtain ⟨a1, dx1, gs1, em1, hs1, ek1, R5⟩ := R4.fldS (v := .int (a + c)) (d := .int (a + c)) (cs := []) (ao' := ao3) el (.int .nil) R4.ro rfl f
              rw [em1] at em'
              cases em'
              exact ⟨a, c, rfl, rfl, dx1, gs1, hs1, by rw [← ek1] at hk; simpa using hk, h σ _ (hp ▸ R5)⟩
          | _ => exact h.elim
      | _ => exact h.elim
/-! ### place[y] += e -/
theorem get_list : PGet X (rIxL X.K) := by
  intro pins s σ H o i ov iv Q I ro ri h
  obtain ⟨p, xs, k, z, rfl, rfl, hq, he, q⟩ := h
  cases ro
  obtain ⟨t, rfl⟩ := ri
  obtain ⟨its, r, pl, hz⟩ := I.list hq
  obtain ⟨j, h1, h2, h3, h4, h5⟩ := atI_get he
  obtain ⟨w, ew, rw'⟩ := r.get h2
  have hl := r.length
  have hn := line63
  have fin : EP X pins σ Q w s := ⟨z, H, I, rw', q⟩
  by_cases h0 : 0 ≤ k
  · have hj : k.toNat = j := by
      rw [seqIndex_of h0 h5] at h1
      exact Option.some.inj h1
    exact wpAny_getItem_list pl.isList h0 (by omega) (by rw [hj]; simpa using ew) fin
  · have hj : (k + (its.toArray.size : Int)).toNat = j := by
      rw [seqIndex_neg (by omega) h4] at h1
      rw [List.size_toArray, ← hl]
      exact Option.some.inj h1
    exact wpAny_getItem_list_neg pl.isList (by omega) (by rw [List.size_toArray] <;> omega) (by omega) (by rw [hj]; simpa using ew) fin
def augZ (z y d : AV) : Option AV := match z, y, d with
  | .lst true xs, .int k, .int b => (match atI xs k with
    | some (.int a) => setZ false (.lst true xs) (.int k) (.int (a + b))
    | _ => none)
  | _, _, _ => none
def sAugP (fo : Option (Str × Str)) (mo mk me : Ss → Option AV) : M Fl := fun s1 => match (mo s1).bind locOf with
  | some l => (match mk s1, me s1 with
    | some y, some d => (match (getPl s1.s l fo).bind fun z => augZ z y d with
      | some z' => .ok .nx ⟨s1.r, setPl s1.s l fo z'⟩
      | none => .bad)
    | _, _ => .bad)
  | none => .bad
theorem augZ_inv {z y d z' : AV} (h : augZ z y d = some z') : ∃ xs k b a, z = .lst true xs ∧ y = .int k ∧ d = .int b ∧ atI xs k = some (.int a) ∧ setZ false (.lst true xs) (.int k) (.int (a + b)) = some z' := by
  unfold augZ at h
  split at h
  · split at h
    · exact ⟨_, _, _, _, rfl, rfl, rfl, by assumption, h⟩
    · cases h
  · cases h
theorem s_augP {fo : Option (Str × Str)} {ek ev : Expr} {me : Ss → Option AV} {tpos : Pos} (ho : PE X o (rdB X.K Γ mo fo)) (hk : PE X ek (rdP X.K Γ mk)) (hv : PE X ev (rdP X.K Γ me))
    (ha : ∀ ov iv new, augStore ek ov iv new = (do holding [new, ov, iv] (setItem ov iv new); release [new, ov, iv] []; pure .next) := by intros; rfl) : PS X (.AugAssign (.Subscript o ek tpos) .Add ev pos) (rdS X.K Γ W (sAugP fo mo mk me)) := by
  refine ps_imp (ps_augS ho hk get_list hv ip_add set_list ha) fun D σ H h => ?_
  obtain ⟨st, p, R, hp, h⟩ := h
  unfold sAugP at h
  cases el : (mo st).bind locOf with
  | none => simp only [el] at h
  | some l =>
    simp only [el] at h
    obtain ⟨x, ex, exl⟩ := Option.bind_eq_some_iff.mp el
    have exl' : x = .loc l := by
      cases x with
      | loc l' => cases exl; rfl
      | _ => cases exl
    subst exl'
    cases ek' : mk st with
    | none => simp only [ek'] at h
    | some y =>
      cases ee : me st with
      | none => simp only [ek', ee] at h
      | some d =>
        simp only [ek', ee] at h
        cases ez : (getPl st.s l fo).bind fun z => augZ z y d with
        | none => simp only [ez] at h
        | some z' =>
          simp only [ez] at h
          obtain ⟨z, e1, e2⟩ := Option.bind_eq_some_iff.mp ez
          obtain ⟨xs, k, b, a, rfl, rfl, rfl, eat, e3⟩ := augZ_inv e2
          refine ⟨st, p, l, _, R, ex, e1, rfl, fun q a0 R2 hat => ⟨st, _, _, R2, ek', fun vy R3 => ?_⟩⟩
          obtain ⟨m, ar, am, ao, ab, R4⟩ := id R3
          obtain ⟨c1, c2, _, ry, r2⟩ := R4.rb.head
          obtain ⟨c3, c4, _, r0, r3⟩ := r2.head
          obtain ⟨a0', ea0, em⟩ := r0.loc_i
          cases ea0
          obtain rfl := ry.int_i
          obtain ⟨q', bb, hat', rz, _⟩ := R4.place (cs := []) (ao' := ao) e1 rfl R4.ro rfl
          obtain rfl := at_of hat hat' em
          obtain ⟨q2, us, eq2, _, hs, qq⟩ := rz.lsO_i
          cases eq2
          obtain ⟨j, u, ej, exj, euj⟩ := atI_len qq.len.symm eat
          obtain ⟨u', eu', ru⟩ := qq.get0 exj
          rw [euj] at eu'
          cases eu'
          obtain rfl := ru.int_i
          have hat2 : atI us k = some (.int a) := by
            unfold atI
            rw [ej]
            exact euj
          refine ⟨q', us, k, .int a, rfl, rfl, SqL.of hs, hat2, st, _, _, R3, ee, fun vd R5 => ?_⟩
          obtain ⟨m5, ar5, am5, ao5, ab5, R6⟩ := R5
          obtain ⟨d1, d2, _, rd, s2⟩ := R6.rb.head
          obtain ⟨d3, d4, _, ry2, s3⟩ := s2.head
          obtain ⟨d5, d6, _, r02, s4⟩ := s3.head
          obtain rfl := rd.int_i
          obtain ⟨a02, ea02, em2⟩ := r02.loc_i
          cases ea02
          refine ⟨a, b, rfl, rfl, ?_⟩
          obtain ⟨q3, o3, hat3, R7, hh⟩ := R6.store (v := .int (a + b)) (cs := []) (ao' := ao5) (w := false) e1 (.int .nil) (fun _ => rfl) R6.ro rfl ry2 e3
          obtain rfl := at_of hat hat3 em2
          rcases hh with ⟨_, us', k', j', ek2, hs', hj', rfl⟩ | ⟨hq, _⟩
          · cases ek2
            exact ⟨q3, us', k, j', rfl, rfl, hs', hj', h σ _ (hp ▸ R7)⟩
          · cases hq
/-! .. of a builder -/
def sAugB (i : Nat) (mk me : Ss → Option AV) : M Fl := fun s1 => match ownL (getSl s1.r i) with
  | some xs => (match mk s1, me s1 with
    | some y, some d => (match augZ (.lst true xs) y d with
      | some (.lst _ ys) => .ok .nx (putL i ys s1)
      | _ => .bad)
    | _, _ => .bad)
  | none => .bad
theorem s_augB {ek ev : Expr} {me : Ss → Option AV} {tpos q : Pos} (hN : X.N[i]? = some x) (hvs : Vis X.env.scope x) (hk : PE X ek (rdP X.K Γ mk)) (hv : PE X ev (rdP X.K Γ me))
    (hd : (x == ("__debug__" : Str)) = false := by decide) (hcd : (x == ("__classdict__" : Str)) = false := by decide)
    (ha : ∀ ov iv new, augStore ek ov iv new = (do holding [new, ov, iv] (setItem ov iv new); release [new, ov, iv] []; pure .next) := by intros; rfl) : PS X (.AugAssign (.Subscript (.Name x q) ek tpos) .Add ev pos) (rdS X.K Γ W (sAugB i mk me)) := by
  refine ps_imp (ps_augS (pe_var hN hvs hd hcd) hk get_list hv ip_add set_list ha) fun D σ H h => ?_
  obtain ⟨st, p, R, hp, h⟩ := h
  unfold sAugB at h
  cases e0 : ownL (getSl st.r i) with
  | none => simp only [e0] at h
  | some xs =>
    simp only [e0] at h
    cases ek' : mk st with
    | none => simp only [ek'] at h
    | some y =>
      cases ee : me st with
      | none => simp only [ek', ee] at h
      | some d =>
        simp only [ek', ee] at h
        cases ez : augZ (.lst true xs) y d with
        | none => simp only [ez] at h
        | some z' =>
          obtain ⟨xs', k, b, a, e1, rfl, rfl, eat, e3⟩ := augZ_inv ez
          cases e1
          obtain ⟨ys, e4, rfl⟩ := Option.map_eq_some_iff.mp (show (setIx xs (.int k) (.int (a + b))).map (AV.lst true) = some z' from e3)
          simp only [ez] at h
          obtain ⟨m, ar, am, ao, ab, R0⟩ := id R
          obtain ⟨l, us, ev', hs, qq, f⟩ := R0.slotL e0
          refine ⟨.ref l, ev', st, p, _, R, ek', fun vy R3 => ?_⟩
          obtain ⟨m3, ar3, am3, ao3, ab3, R4⟩ := id R3
          obtain ⟨c1, c2, _, ry, r2⟩ := R4.rb.head
          obtain rfl := ry.int_i
          obtain ⟨j, u, ej, exj, euj⟩ := atI_len qq.len.symm eat
          obtain ⟨u', eu', ru⟩ := qq.get0 exj
          rw [euj] at eu'
          cases eu'
          obtain rfl := ru.int_i
          have hat2 : atI us k = some (.int a) := by
            unfold atI
            rw [ej]
            exact euj
          refine ⟨l, us, k, .int a, rfl, rfl, SqL.of hs, hat2, st, _, _, R3, ee, fun vd R5 => ?_⟩
          obtain ⟨m5, ar5, am5, ao5, ab5, R6⟩ := R5
          obtain ⟨d1, d2, _, rd, s2⟩ := R6.rb.head
          obtain rfl := rd.int_i
          refine ⟨a, b, rfl, rfl, ?_⟩
          obtain ⟨k', j', ek2, ej', hj', rfl⟩ := setIx_inv (K := X.K) (H := H) (W := []) (m := []) (as := []) (.int .nil) e4
          cases ek2
          refine ⟨l, us, k, j', rfl, rfl, hs, by rw [qq.len]; exact ej', h σ _ (hp ▸ (f ?_).1)⟩
          obtain ⟨xj, exj2⟩ : ∃ xj, xs[j']? = some xj := ⟨xs[j'], by simp [hj']⟩
          obtain ⟨u2, b1, b2, b3, eu2, ea', r1, r2', r3⟩ := qq.at_ exj2
          obtain ⟨z1, z2⟩ := List.append_eq_nil_iff.mp ea'.symm
          obtain ⟨z3, z4⟩ := List.append_eq_nil_iff.mp z2
          subst z1 z3 z4
          exact Rp.put hj' r1 (.int .nil) r3 qq.len
end
end Fk
/-! ## methods, making, several names at once -/
namespace Fk
open PySem PySem.Spec PyProof.Rows L2
/-! ### an owned value becomes an object -/
def eProm (m : M AV) : M AV := fun st => (m st).bind fun d s1 => bif ownA d then .ok (.loc s1.s.length) ⟨s1.r, s1.s ++ [d]⟩ else .bad
/-- what is behind a call of a def -/
def Aft (K : PySem.W.Frag) (Γ : Gam) (W : WX) (σ : L2.St) (p : Pd) (Q : VK) : Res AV Ss → Prop
  | .ok d st' => ∀ v H', Rel K Γ σ H' st' (p.nob.sh v d) → Q v H'
  | .err c st' => ∀ H', Rel K Γ σ H' st' p.nob → W (.ref (He.ga K c)) none σ H'
  | .bad => False
/-- a method of a class of the text -/
structure MetN (P : Program) (w : World) (K : PySem.W.Frag) (mg : Str → Option Value) (base : Heap) (T : List (Addr × Str)) (k : Nat) (C nm : Str) (ps : List Str) (ds : List AV) (f : Fn) : Prop where
  cls : Cls K (He.ga K C)
  ex : ∃ (a : Addr) (fd : FuncData) (dvs : List V) (us : List Value), FnN P w K mg base k a fd ps (spM K T ps.length f) ∧ Meth K (He.ga K C) nm a ∧ Binds K fd ps us ∧ Vals dvs us ∧ ∀ H W m, Rp K H W m dvs ds []
/-- a class of the text that is made -/
structure MakN (P : Program) (w : World) (K : PySem.W.Frag) (mg : Str → Option Value) (base : Heap) (T : List (Addr × Str)) (k : Nat) (C : Str) (ps : List Str) (ds : List AV) (f : Fn) : Prop where
  ex : ∃ (a : Addr) (fd : FuncData) (dvs : List V) (us : List Value), FnN P w K mg base k a fd ps (spM K T ps.length f) ∧ mg C = some (.ref (He.ga K C)) ∧ Mk K (He.ga K C) a ∧ Binds K fd ps us ∧ Vals dvs us ∧ ∀ H W m, Rp K H W m dvs ds []
def clsOk (S : List AV) (C nm : Str) (x : AV) : Bool := match (deref S x).bind insOf with
  | some (C', ks, _) => decide (C' = C) && !(ks.any fun k => decide (k = nm))
  | none => false
def eMeth (C nm : Str) (n : Nat) (f : Fn) (ds : List AV) (mo : M AV) (ma : M (List AV)) : M AV := fun st => (mo st).bind fun x s1 => bif clsOk s1.s C nm x then (ma s1).bind fun xs s2 => if 1 + (xs.length + ds.length) = n then back s2.r (f (x :: (xs ++ ds)) s2.s) else .bad else .bad
def mkBack (r : List Sl) (l : Nat) : Res AV (List AV) → Res AV Ss
  | .ok .non S => .ok (.loc l) ⟨r, S⟩
  | .err c S => .err c ⟨r, S⟩
  | _ => .bad
def eMake (C : Str) (n : Nat) (f : Fn) (ds : List AV) (ma : M (List AV)) : M AV := fun st => (ma st).bind fun xs s1 => if 1 + (xs.length + ds.length) = n then mkBack s1.r s1.s.length (f (.loc s1.s.length :: (xs ++ ds)) (s1.s ++ [.ins C [] []])) else .bad
section
variable {X : Cx} {Γ : Gam} {W : WX} {σ : L2.St} {H : Hp} {st : Ss} {p : Pd} {K : PySem.W.Frag} {pos apos cpos q : Pos} {o e : Expr} {es : List Expr} {x : Str} {i k j : Nat} {C nm : Str} {fs : List Str} {ps : List Str} {ds : List AV} {f : Fn} {mo : M AV} {ma : M (List AV)}
theorem s_prom {m : M AV} (h : PE X e (rdO X.K Γ W m)) : PE X e (rdE X.K Γ W (eProm m)) := by
  refine pe_imp h fun σ H Q h => ?_
  obtain ⟨st, p, R, h⟩ := h
  refine ⟨st, p, R, ?_⟩
  unfold eProm at h
  cases ea : m st with
  | bad => rw [ea] at h; exact h
  | err c s1 => rw [ea] at h; exact h
  | ok d s1 =>
    rw [ea] at h
    simp only [Res.bind_ok] at h
    intro v H1 R1
    cases eo : ownA d with
    | false => simp only [eo, cond_false] at h
    | true =>
      simp only [eo, cond_true] at h
      exact h v H1 (R1.prom eo)
theorem fn_in {m ar am ao ab : List Addr} {vs : List V} {xs : List AV} {n : Nat} {Q : VK} (R : Rl K Γ σ H st p m ar am ao ab) (r : Rp K H (wOf Γ ar am ao) m vs xs []) (hl : vs.length = n) (h : Aft K Γ W σ p Q (back st.r (f xs st.s))) : spM K Γ.T n f vs H Q (WE W σ) := by
  obtain ⟨c1, c2, c3, c4, c5⟩ := R.enter r
  refine ⟨hl, _, m, am, xs, st.s, c1, c2, c3, c4, c5, ?_⟩
  cases ef : f xs st.s with
  | bad => rw [ef] at h; exact h
  | err c S' =>
    rw [ef] at h
    intro H2 hp
    obtain ⟨m', am', R3, _⟩ := R.back rfl hp
    exact h H2 R3.rel
  | ok d S' =>
    rw [ef] at h
    intro v H2 hp
    obtain ⟨m', am', R3, r3⟩ := R.back rfl hp
    exact h v H2 (R3.sh r3)
theorem no_look {gs : List (Str × V)} (h : ((gs.map (·.1)).any fun k => decide (k = nm)) = false) : gs.lookup nm = none := by
  induction gs with
  | nil => rfl
  | cons g gs ih =>
    obtain ⟨k, v⟩ := g
    have h2 : (decide (k = nm) || (gs.map (·.1)).any fun k => decide (k = nm)) = false := h
    rw [Bool.or_eq_false_iff] at h2
    rw [List.lookup_cons, beq_eq_false_iff_ne.mpr (fun z => (of_decide_eq_false h2.1) z.symm)]
    exact ih h2.2
theorem clsOk_v {m ar am ao ab as : List Addr} {v : V} {x : AV} (R : Rl K Γ σ H st p m ar am ao ab) (r : Rp K H (wOf Γ ar am ao) m [v] [x] as) (h : clsOk st.s C nm x = true) : ∃ a dx gs, v = .ref a ∧ H a = some (.ins (He.ga K C) dx gs) ∧ gs.lookup nm = none := by
  unfold clsOk at h
  cases e : (deref st.s x).bind insOf with
  | none => rw [e] at h; cases h
  | some t =>
    obtain ⟨C', ks, ys⟩ := t
    rw [e] at h
    have h2 : (decide (C' = C) && !(ks.any fun k => decide (k = nm))) = true := h
    rw [Bool.and_eq_true] at h2
    have ec : C' = C := of_decide_eq_true h2.1
    subst ec
    obtain ⟨z, ez, ei⟩ := Option.bind_eq_some_iff.mp e
    obtain ⟨as', r2⟩ := R.deref r ez
    obtain ⟨a, dx, gs, b, rfl, hs, ek, _⟩ := ins_v r2 ei
    subst ek
    exact ⟨a, dx, gs, rfl, hs, no_look (by simpa using h2.2)⟩
theorem meth_in {Q : VK} {dvs : List V} {n : Nat} (hd : ∀ H W m, Rp K H W m dvs ds []) (h : rdE K Γ W (eMeth C nm n f ds mo ma) σ H Q) : tMeth (He.ga K C) nm (spM K Γ.T n f) dvs (WE W σ) (rdE K Γ W mo) (rdA K Γ W ma) σ H Q := by
  obtain ⟨st, p, R, h⟩ := h
  refine ⟨st, p, R, ?_⟩
  unfold eMeth at h
  cases eo : mo st with
  | bad => rw [eo] at h; exact h
  | err c s1 => rw [eo] at h; exact h
  | ok x s1 =>
    rw [eo] at h
    simp only [Res.bind_ok] at h
    intro v H1 R1
    cases ec : clsOk s1.s C nm x with
    | false => simp only [ec, cond_false] at h
    | true =>
      simp only [ec, cond_true] at h
      obtain ⟨m, ar, am, ao, ab, R2, rx⟩ := R1.one
      obtain ⟨a, dx, gs, rfl, hs, hl⟩ := clsOk_v R2 rx ec
      refine ⟨a, dx, gs, rfl, hs, hl, s1, _, R1, ?_⟩
      cases ea : ma s1 with
      | bad => rw [ea] at h; exact h
      | err c s2 => rw [ea] at h; exact fun H' R' => h H' R'.drop
      | ok xs s2 =>
        rw [ea] at h
        simp only [Res.bind_ok] at h
        intro vs H2 hl2 R3
        by_cases cn : 1 + (xs.length + ds.length) = n
        · rw [if_pos cn] at h
          obtain ⟨m2, ar2, am2, ao2, ab2, R4, r⟩ := Rel.args (p := (p.nob.sh (.ref a) x).nob) hl2 R3
          have l2 := (hd H2 [] []).len
          refine fn_in (p := p.nob) (ab := []) (R4.nob.setI (p := (p.nob.sh (.ref a) x).nob) R4.ri.head0.2) (R4.ri.head0.1.cons0 (r.app (hd _ _ _))) (by simp only [List.length_cons, List.length_append]; omega) ?_
          cases ef : back s2.r (f (x :: (xs ++ ds)) s2.s) with
          | bad => rw [ef] at h; exact h
          | err c s3 => rw [ef] at h; exact h
          | ok d s3 => rw [ef] at h; exact h
        · rw [if_neg cn] at h
          exact h.elim
theorem s_meth {pl : Sem Bool} (F : MetN X.prog X.w X.K X.mg X.base Γ.T k C nm ps ds f) (hG : X.A.guards = some []) (hr : Room j X.A) (hk : k ≤ j) (tk : L2N.Takes X W) (ho : PE X o (rdE X.K Γ W mo)) (ha : PA X (e :: es) (rdA X.K Γ W ma))
    (hst : starEach (e :: es) X.env = (false, eval e X.env) :: starEach es X.env := by rfl) (hpl : (backTo pos (starEach es X.env)).any (·.1) = false := by rfl)
    (ht : eval (.Call (.Attribute o nm apos) (e :: es) [] pos) X.env = (do
      let ov ← eval o X.env
      standAt apos.atName
      let (f, first) ← holding [ov] (getMethod ov nm pl)
      callWith pos f first (backTo pos (starEach (e :: es) X.env)) (backToKw pos (keywordEach [] X.env))) := by rfl) :
    PE X (.Call (.Attribute o nm apos) (e :: es) [] pos) (rdE X.K Γ W (eMeth C nm ps.length f ds mo ma)) := by
  obtain ⟨g, fd, dvs, us, G, hm, b, v, hd⟩ := F.ex
  refine ⟨fun pins s σ H Q I h => ?_⟩
  have h := meth_in hd h
  refine PySem.W.methodCall_KW (pl := pl) (thn (ho.run pins s σ H _ I h) fun u s1 ⟨x, H1, I1, rx, a, dx, fs, ex, ea, l, q⟩ => ?_) ht
  subst ex
  obtain rfl : u = Value.ref a := rx
  refine getmeth_ok I1 ea F.cls hm l ?_
  refine PySem.W.callWith_K (first := [.ref a]) (h₀ := X.base) I.ok.mod.kin hm.kp (thn (ha.run pos pins s1 σ H1 _ I1 q) fun us s2 ⟨vs, H2, I2, r, q2⟩ => ⟨I2.kIn, ?_⟩) hst hpl
  exact run_N (us := .ref a :: us) (vs := .ref a :: vs) G hG (hr.mono hk) b v (L2N.passAt tk σ) I2 (.cons rfl r) q2
theorem s_meth0 {pl : Sem Bool} (F : MetN X.prog X.w X.K X.mg X.base Γ.T k C nm ps ds f) (hG : X.A.guards = some []) (hr : Room j X.A) (hk : k ≤ j) (tk : L2N.Takes X W) (ho : PE X o (rdE X.K Γ W mo))
    (ht : eval (.Call (.Attribute o nm apos) [] [] pos) X.env = (do
      let ov ← eval o X.env
      standAt apos.atName
      let (f, first) ← holding [ov] (getMethod ov nm pl)
      callWith pos f first (backTo pos (starEach [] X.env)) (backToKw pos (keywordEach [] X.env))) := by rfl) :
    PE X (.Call (.Attribute o nm apos) [] [] pos) (rdE X.K Γ W (eMeth C nm ps.length f ds mo aNil)) := by
  obtain ⟨g, fd, dvs, us, G, hm, b, v, hd⟩ := F.ex
  refine ⟨fun pins s σ H Q I h => ?_⟩
  have h := meth_in hd h
  refine PySem.W.methodCall_KW (pl := pl) (thn (ho.run pins s σ H _ I h) fun u s1 ⟨x, H1, I1, rx, a, dx, fs, ex, ea, l, q⟩ => ?_) ht
  subst ex
  obtain rfl : u = Value.ref a := rx
  refine getmeth_ok I1 ea F.cls hm l ?_
  obtain ⟨st, p, R, h2⟩ := q
  exact PySem.W.callWith_K0 (first := [.ref a]) I1.kIn hm.kp (run_N (us := [.ref a]) (vs := [.ref a]) G hG (hr.mono hk) b v (L2N.passAt tk σ) I1 (.cons rfl .nil) (h2 [] H1 rfl R.nob))
/-! ### making -/
theorem run_makeN {pins : List (Addr × Obj)} {s : Shared} {Q : VK} {us ws : List Value} {vs dvs : List V} {a D : Addr} {fd : FuncData} {sp : Sp} {E : XK} (M : Mk X.K D a) (F : FnN X.prog X.w X.K X.mg X.base k a fd ps sp) (hG : X.A.guards = some []) (hr : Room (k + 1) X.A) (hb : Binds X.K fd ps ws) (hd : Vals dvs ws)
    (hx : PassesAt (L2N.CX X.prog X.w) X σ E) (I : Inv X pins σ H s) (r : Vals vs us)
    (h : ∀ x dx, H x = none → H dx = none → dx ≠ x → sp (.ref x :: (vs ++ dvs)) (upd (upd H dx (.own x)) x (.ins D dx [])) (fun v H2 => v = .non ∧ Q (.ref x) H2) E) :
    wpAny (model X.prog X.w) X.A (call (.ref D) us) (EP X pins σ Q) X.xe s := by
  have hq := h (s.heap.objs.size + 1) s.heap.objs.size (I.hok.fresh (Nat.le_succ _)) (I.hok.fresh (Nat.le_refl _)) (Nat.ne_of_lt (Nat.lt_succ_self _))
  have I2 := Inv.made (C := D) I
  have r2 : Vals (V.ref (s.heap.objs.size + 1) :: (vs ++ dvs)) (Value.ref (s.heap.objs.size + 1) :: (us ++ ws)) := .cons rfl (r.append hd)
  have hl : (Value.ref (s.heap.objs.size + 1) :: us ++ ws).length = ps.length := by
    have e := r2.length
    rw [F.len _ _ _ _ hq] at e
    exact e.symm
  have hG2 : (X.A.under (.builtin "type.__call__" ⟨.ref D :: us, []⟩)).guards = some [] := by
    simp [Around.under, Code.guards, Code.isGuard, guardIds, pushGuards, hG]
  refine wpAny_call (make_map (f := a) I.kIn M.makes M.init (beq_iff_eq.mp M.fn) (codeAny_mono (F.run _ X.stack _ _ ⟨Value.ref (s.heap.objs.size + 1) :: us, []⟩ (Value.ref (s.heap.objs.size + 1) :: (us ++ ws)) _ _ E hG2 (hr.make D us [])
    (I2.env0.make D us []) (hb _ (Value.ref (s.heap.objs.size + 1) :: us) I2.kIn hl) r2 hq) fun r s' hq' => ?_))
  cases r with
  | error e => exact hx pins _ _ e s' I2 hq'
  | ok fl =>
    cases fl with
    | ret u =>
      obtain ⟨v, H', I3, rv, ev, q3⟩ := I2.after hq'
      subst ev
      exact ⟨rv, ⟨V.ref (s.heap.objs.size + 1), H', I3, rfl, q3⟩⟩
    | next => exact False.elim hq'
    | brk => exact False.elim hq'
    | cont => exact False.elim hq'
theorem make_in {Q : VK} {dvs : List V} {n : Nat} (hd : ∀ H W m, Rp K H W m dvs ds []) (h : rdE K Γ W (eMake C n f ds ma) σ H Q) : rdA K Γ W ma σ H fun vs H1 => ∀ x dx, H1 x = none → H1 dx = none → dx ≠ x →
    spM K Γ.T n f (.ref x :: (vs ++ dvs)) (upd (upd H1 dx (.own x)) x (.ins (He.ga K C) dx [])) (fun v H2 => v = .non ∧ Q (.ref x) H2) (WE W σ) := by
  obtain ⟨st, p, R, h⟩ := h
  refine ⟨st, p, R, ?_⟩
  unfold eMake at h
  cases ea : ma st with
  | bad => rw [ea] at h; exact h
  | err c s1 => rw [ea] at h; exact h
  | ok xs s1 =>
    rw [ea] at h
    simp only [Res.bind_ok] at h
    intro vs H1 hl R1 x dx hx hdx ne
    by_cases cn : 1 + (xs.length + ds.length) = n
    · rw [if_pos cn] at h
      obtain ⟨m, ar, am, ao, ab, R2⟩ := R1
      have R3 := R2.up hdx (.own x)
      have hx' : upd H1 dx (.own x) x = none := by rw [upd_ne (Ne.symm ne)]; exact hx
      have R4 := R3.newO (o := .ins (He.ga K C) dx []) (d := .ins C [] []) hx' (fun {H' W'} t h1 => by
        have h2 := Rp.ins (K := K) (m := m) (W := W') (fs := []) (ks := []) (vs := []) (xs := []) (as := []) h1 rfl .nil .nil
        simpa using h2)
      have R5 := R4.rel.prom rfl
      obtain ⟨m5, ar5, am5, ao5, ab5, R6, rx⟩ := R5.one
      obtain ⟨m7, ar7, am7, ao7, ab7, R7⟩ := R5
      obtain ⟨b1, b2, eb, q1, q2⟩ := Rp.app_inv (vs := vs) (xs := xs) hl R7.ri.head0.2
      obtain ⟨z1, z2⟩ := List.append_eq_nil_iff.mp eb.symm
      subst z1 z2
      have l2 := (hd H1 [] []).len
      refine fn_in (p := p.nob.sh (.ref x) (.loc s1.s.length)) (R7.setI (p := _) (R7.ri.head0.1.cons0 q2)) (R7.ri.head0.1.cons0 (q1.app (hd _ _ _))) (by simp only [List.length_cons, List.length_append]; omega) ?_
      cases ef : f (.loc s1.s.length :: (xs ++ ds)) (s1.s ++ [.ins C [] []]) with
      | bad => rw [ef] at h; exact h
      | err c S' =>
        rw [ef] at h
        exact fun H2 R8 => h H2 R8.drop
      | ok d S' =>
        rw [ef] at h
        intro v H2 R8
        cases d with
        | non =>
          obtain ⟨m8, ar8, am8, ao8, ab8, R9, r9⟩ := R8.one
          exact ⟨r9.non_i, h _ H2 R9.rel⟩
        | _ => exact h.elim
    · rw [if_neg cn] at h
      exact h.elim
theorem s_make (F : MakN X.prog X.w X.K X.mg X.base Γ.T k C ps ds f) (hG : X.A.guards = some []) (hr : Room j X.A) (hk : k + 1 ≤ j) (hg : Gl X C) (tk : L2N.Takes X W) (ha : PA X (e :: es) (rdA X.K Γ W ma))
    (hdb : (C == ("__debug__" : Str)) = false := by decide) (he : starEach (e :: es) X.env = (false, eval e X.env) :: starEach es X.env := by rfl) (hpl : (backTo pos (starEach es X.env)).any (·.1) = false := by rfl) :
    PE X (.Call (.Name C q) (e :: es) [] pos) (rdE X.K Γ W (eMake C ps.length f ds ma)) := by
  obtain ⟨a, fd, dvs, us, G, gm, M, b, v, hd⟩ := F.ex
  refine ⟨fun pins s σ H Q I h => wpAny_Call_Name_kw (ld_glob I hg gm ?_ hdb)⟩
  refine PySem.W.callWith_K (h₀ := X.base) I.ok.mod.kin M.kp (thn (ha.run pos pins s σ H _ I (make_in hd h)) ?_) he hpl
  rintro us s1 ⟨vs, H1, I1, r, q⟩
  exact ⟨I1.kIn, run_makeN M G hG (hr.mono hk) b v (L2N.passAt tk σ) I1 r q⟩
end
end Fk
/-! ## lists of owned lists, several names at once, more calls -/
namespace Fk
open PySem PySem.Spec PyProof.Rows L2
def eLn (m : M (List AV)) : M AV := fun st => (m st).bind fun xs s1 => .ok (.nst xs) s1
section
variable {X : Cx} {Γ : Gam} {W : WX} {σ : L2.St} {H : Hp} {st : Ss} {p : Pd} {K : PySem.W.Frag} {pos : Pos}
theorem Rl.newNst {m ar am ao ab : List Addr} (R : Rl K Γ σ H st p m ar am ao ab) {q : Addr} (h : H q = none) : Rel K Γ σ (upd H q (.lst [])) st (p.own (.ref q) (.nst [])) :=
  (R.newO h fun {H' W'} t h1 => by
    have h2 := Rp.nst (K := K) (m := m) (W := W') (us := []) (ys := []) (bs := []) (vs := []) (xs := []) (as := []) h1 .nil .nil
    simpa using h2).rel
theorem Rel.appN {D : Addr} {acc : List AV} {y : V} {d : AV} (R : Rel K Γ σ H st ((p.own (.ref D) (.nst acc)).own y d)) : ∃ us, H D = some (.lst us) ∧ us.length = acc.length ∧ Rel K Γ σ (upd H D (.lst (us ++ [y]))) st (p.own (.ref D) (.nst (acc ++ [d]))).nob := by
  obtain ⟨m, ar, am, ao, ab, R⟩ := R
  obtain ⟨cs, a1, eo, ry, r1'⟩ := R.ro.head
  obtain ⟨b, ao', eo2, r1, r2⟩ := r1'.head
  subst eo eo2
  have nd := R.nd
  cases r1 with
  | @nst _ us _ bs _ _ as0 h q r0 =>
    obtain ⟨_, rfl⟩ := r0.nil_inv
    rw [List.append_nil] at nd R ry q r2
    have hD : D ∈ wOf Γ ar am (cs ++ (D :: bs ++ ao')) := by simp [wOf]
    have t : Tr H (upd H D (.lst (us ++ [y]))) (wOf Γ ar am (cs ++ (D :: bs ++ ao'))) (wOf Γ ar am (D :: (bs ++ cs) ++ ao')) m m [D] := Tr.put h rfl hD fun c z => by
      simp only [wOf, List.mem_append, List.mem_cons] at z ⊢
      grind
    have n1 : ∀ b ∈ ar, b ∉ [D] := fun b hb z => by
      simp only [wOf, List.nodup_append, List.nodup_cons, List.mem_append, List.mem_cons, List.mem_singleton, List.cons_append] at nd z
      grind
    have n2 : ∀ b ∈ am, b ∉ [D] := fun b hb z => by
      simp only [wOf, List.nodup_append, List.nodup_cons, List.mem_append, List.mem_cons, List.mem_singleton, List.cons_append] at nd z
      grind
    have n3 : ∀ b ∈ ao', b ∉ [D] := fun b hb z => by
      simp only [wOf, List.nodup_append, List.nodup_cons, List.mem_append, List.mem_cons, List.mem_singleton, List.cons_append] at nd z
      grind
    have n4 : ∀ b ∈ bs, b ∉ [D] := fun b hb z => by
      simp only [wOf, List.nodup_append, List.nodup_cons, List.mem_append, List.mem_cons, List.mem_singleton, List.cons_append] at nd z
      grind
    have n5 : ∀ b ∈ cs, b ∉ [D] := fun b hb z => by
      simp only [wOf, List.nodup_append, List.nodup_cons, List.mem_append, List.mem_cons, List.mem_singleton, List.cons_append] at nd z
      grind
    have new : Rp K (upd H D (.lst (us ++ [y]))) (wOf Γ ar am (D :: (bs ++ cs) ++ ao')) m [.ref D] [.nst (acc ++ [d])] (D :: (bs ++ cs)) := by
      have h2 := Rp.nst (K := K) (m := m) (W := wOf Γ ar am (D :: (bs ++ cs) ++ ao')) (vs := []) (xs := []) (as := []) upd_same ((t.rp q n4).app (t.rp ry n5)) .nil
      simpa using h2
    refine ⟨us, h, q.len, m, ar, am, D :: (bs ++ cs) ++ ao', [], t.rs R.rs n1, t.rp R.rm n2, t.rp0 R.ri, new.cons (t.rp r2 n3), .nil, ?_, ?_, fun a o e n => ?_, R.pm, R.gu, tabs_put R.tb h rfl⟩
    · simp only [wOf, List.nodup_append, List.nodup_cons, List.mem_append, List.mem_cons, List.cons_append] at nd ⊢
      grind
    · intro c hc
      have h1 := R.fr c
      simp only [List.mem_append, List.mem_cons] at hc h1
      grind
    obtain ⟨o', e', f⟩ := R.kp a o e n
    have ne : a ≠ D := by
      rintro rfl
      rcases R.fr a (by simp) with z | z
      · exact n z
      · rw [e] at z; cases z
    exact ⟨o', by rw [upd_ne ne]; exact e', f⟩
theorem lcN_in {mi : M (List AV)} {ns vs : List Nat} {t : Tg} {mt : M Bool} {me : M AV} {Q : VK} (hns : ∀ i ∈ ns, i ∈ vs) (h : rdO K Γ W (eLn (lcM mi t mt me vs)) σ H Q) : tLc (rdI K Γ W mi) (rdG K Γ ns t) (rdT K Γ noX mt) (rdO K Γ noX me) vs σ H Q := by
  obtain ⟨st, p, R, h⟩ := h
  refine ⟨st, p, R, ?_⟩
  unfold eLn lcM at h
  cases ea : mi st with
  | bad => rw [ea] at h; exact h
  | err c s1 => rw [ea] at h; exact h
  | ok ds s1 =>
    rw [ea] at h
    simp only [Res.bind_ok] at h
    have h : match compM t mt me vs ds [] (s1.wipe vs) with
      | .ok xs st' => ∀ v H', Rel K Γ σ H' st' (p.nob.own v (.nst xs)) → Q v H'
      | _ => False := by
      cases ec : compM t mt me vs ds [] (s1.wipe vs) with
      | bad => rw [ec] at h; exact h
      | err c s => 
        exfalso
        have noerr : ∀ (ds acc : List AV) (st : Ss) (c : Str) (s : Ss), compM t mt me vs ds acc st ≠ .err c s := fun ds => by
          induction ds with
          | nil => intro acc st c s z; cases z
          | cons d ds ih =>
            intro acc st c s z
            unfold compM at z
            cases e1 : t d st with
            | none => rw [e1] at z; cases z
            | some s0 =>
              rw [e1] at z
              cases e2 : mt s0 with
              | bad => simp only [e2] at z; cases z
              | err _ _ => simp only [e2] at z; cases z
              | ok b s1 =>
                cases b with
                | false => simp only [e2] at z; exact ih _ _ _ _ z
                | true =>
                  simp only [e2] at z
                  cases e3 : me s1 with
                  | bad => simp only [e3] at z; cases z
                  | err _ _ => simp only [e3] at z; cases z
                  | ok y s2 =>
                    simp only [e3] at z
                    split at z
                    · exact ih _ _ _ _ z
                    · cases z
        exact noerr _ _ _ _ _ ec
      | ok xs s => rw [ec] at h; exact h
    intro J H1 pv px hl R1 J1 D hD
    refine ⟨fun i n H => n = ds.length - i ∧ i ≤ ds.length ∧ ∃ (s0 : Ss) (acc : List AV), Rel K Γ (L2.wipe σ vs) H (s0.wipe vs) ((p.nob.shs pv px).own (.ref D) (.nst acc)) ∧ (match compM t mt me vs (ds.drop i) acc (s0.wipe vs) with
      | .ok xs st' => ∀ v H', Rel K Γ σ H' st' (p.nob.own v (.nst xs)) → Q v H'
      | _ => False), ⟨_, rfl, Nat.zero_le _, s1, [], ?_, h⟩, ?_⟩
    · obtain ⟨m, ar, am, ao, ab, R2⟩ := R1.wipe vs
      exact R2.newNst hD
    rintro i n H ⟨rfl, hi, s0, acc, R2, h2⟩
    by_cases c : i < ds.length
    · rw [List.drop_eq_getElem_cons c] at h2
      unfold compM at h2
      cases et : t ds[i] (s0.wipe vs) with
      | none => rw [et] at h2; exact h2.elim
      | some s2 =>
        rw [et] at h2
        obtain ⟨go, yl⟩ := J1.1 i ds[i] (L2.wipe σ vs) H (s0.wipe vs) _ _ (by simp [c]) R2
        refine .inr ⟨go, fun H' => ∃ (s0 : Ss) (acc : List AV), Rel K Γ (L2.wipe σ vs) H' (s0.wipe vs) ((p.nob.shs pv px).own (.ref D) (.nst acc)) ∧ (match compM t mt me vs (ds.drop (i + 1)) acc (s0.wipe vs) with
          | .ok xs st' => ∀ v H', Rel K Γ σ H' st' (p.nob.own v (.nst xs)) → Q v H'
          | _ => False), fun H' ⟨s3, acc3, R3, h3⟩ => ⟨_, by omega, rfl, c, s3, acc3, R3, h3⟩, fun x H' y => ?_⟩
        refine ⟨_, _, ds[i], s2, yl x H' y, et, fun σ2 H2 w1 R3 => ⟨?_, s2, _, R3, ?_⟩⟩
        · have w2 := wipe_sub w1 hns
          have w3 : L2.wipe (L2.wipe σ vs) vs = L2.wipe σ vs := wipe_wipe
          exact w2.trans w3
        have back : ∀ {H : Hp} {st : Ss} {q : Pd}, Rel K Γ σ2 H st q → Rel K Γ (L2.wipe σ vs) H (st.wipe vs) q := fun z => by
          have z1 := z.wipe vs
          have w2 := wipe_sub w1 hns
          have w3 : L2.wipe (L2.wipe σ vs) vs = L2.wipe σ vs := wipe_wipe
          rw [w2.trans w3] at z1
          exact z1
        cases em : mt s2 with
        | bad => simp only [em] at h2
        | err _ _ => simp only [em] at h2
        | ok b s3 =>
          intro H3 R4
          cases b with
          | false =>
            simp only [em] at h2
            rw [if_neg Bool.false_ne_true]
            exact ⟨s3, acc, back R4, h2⟩
          | true =>
            simp only [em] at h2
            rw [if_pos rfl]
            refine ⟨s3, _, R4, ?_⟩
            cases ee : me s3 with
            | bad => simp only [ee] at h2
            | err _ _ => simp only [ee] at h2
            | ok d s4 =>
              simp only [ee] at h2
              intro y H4 R5
              obtain ⟨us, e1, e2, R6⟩ := Rel.appN (p := p.nob.shs pv px) R5
              by_cases cz : acc.length < 16777216
              · simp only [cz, if_true] at h2
                exact ⟨us, e1, by rw [e2, mx_eq]; exact cz, s4, acc ++ [d], back R6, h2⟩
              · simp only [cz, if_false] at h2
    · have e : i = ds.length := by omega
      subst e
      rw [List.drop_length] at h2
      refine .inl ⟨J1.2 _ H _ _ _ R2, ?_⟩
      have R3 := R2.unwipe
      exact h2 (.ref D) H (Rel.dropL (p := p.nob.own (.ref D) (.nst acc)) hl R3)
theorem s_lcN {elt tg iter : Expr} {ifs : List Expr} {scope : Scope} {own : List (Str × Nat)} {mi : M (List AV)} {ns : List Nat} {t : Tg} {mt : M Bool} {me : M AV} (hc : X.calm = true) (hN : X.N.Nodup) (hi : PI X tg iter (rdI X.K Γ W mi)) (ok : BlkOk X.N X.env.scope scope own)
    (hg : ∀ (s : Shared) (H : Hp) (C : Addr) (cl : List (Str × Addr)) (fp : List Addr), PG (X.blk s H scope (compEnvC scope cl C X.env) fp) tg (rdG X.K Γ ns t)) (ht : ∀ (s : Shared) (H : Hp) (C : Addr) (cl : List (Str × Addr)) (fp : List Addr), PTs (X.blk s H scope (compEnvC scope cl C X.env) fp) ifs (rdT X.K Γ noX mt))
    (he : ∀ (s : Shared) (H : Hp) (C : Addr) (cl : List (Str × Addr)) (fp : List Addr), PE (X.blk s H scope (compEnvC scope cl C X.env) fp) elt (rdO X.K Γ noX me)) (hns : ∀ i ∈ ns, i ∈ own.map (·.2) := by decide) (hs : ∀ x, foldedSetIterable iter X.env x = pure x := by intro _; rfl) :
    PE X (.ListComp elt [⟨tg, iter, ifs, 0⟩] scope pos) (rdO X.K Γ W (eLn (lcM mi t mt me (own.map (·.2))))) :=
  pe_imp (pe_lc hc hN hi ok hg ht he hs) fun σ H Q h => lcN_in hns h

/-! ### several names at once -/
abbrev Pd.psh (p : Pd) (s : Sl) (v : V) : Pd := match s with
  | .im d => p.sh v d
  | .ow d => p.own v d
  | .no => p
def rdX (K : PySem.W.Frag) (Γ : Gam) (W : WX) (m : M Sl) : TE := fun σ H Q => ∃ st p, Rel K Γ σ H st p ∧ match m st with
  | .ok (.im d) st' => ∀ v H', Rel K Γ σ H' st' (p.nob.sh v d) → Q v H'
  | .ok (.ow d) st' => ∀ v H', Rel K Γ σ H' st' (p.nob.own v d) → Q v H'
  | .ok .no _ => False
  | .err c st' => ∀ H', Rel K Γ σ H' st' p.nob → W (.ref (He.ga K c)) none σ H'
  | .bad => False
def xI (m : M AV) : M Sl := fun st => (m st).bind fun d s1 => .ok (.im d) s1
def xO (m : M AV) : M Sl := fun st => (m st).bind fun d s1 => .ok (.ow d) s1
theorem s_xI {e : Expr} {m : M AV} (h : PE X e (rdE X.K Γ W m)) : PE X e (rdX X.K Γ W (xI m)) := by
  refine pe_imp h fun σ H Q h => ?_
  obtain ⟨st, p, R, h⟩ := h
  refine ⟨st, p, R, ?_⟩
  unfold xI at h
  cases ea : m st with
  | bad => rw [ea] at h; exact h
  | err c s1 => rw [ea] at h; exact h
  | ok d s1 => rw [ea] at h; exact h
theorem s_xO {e : Expr} {m : M AV} (h : PE X e (rdO X.K Γ W m)) : PE X e (rdX X.K Γ W (xO m)) := by
  refine pe_imp h fun σ H Q h => ?_
  obtain ⟨st, p, R, h⟩ := h
  refine ⟨st, p, R, ?_⟩
  unfold xO at h
  cases ea : m st with
  | bad => rw [ea] at h; exact h
  | err c s1 => rw [ea] at h; exact h
  | ok d s1 => rw [ea] at h; exact h
theorem Rel.dropO {v : V} {d : AV} (R : Rel K Γ σ H st (p.own v d)) : Rel K Γ σ H st p := by
  obtain ⟨m, ar, am, ao, ab, R⟩ := R
  obtain ⟨b, ao', eo, r1, r2⟩ := R.ro.head
  subst eo
  have nd := R.nd
  have fr := R.fr
  have hw : ∀ c, c ∈ wOf Γ ar am ao' → c ∈ wOf Γ ar am (b ++ ao') := fun c z => by
    simp only [wOf, List.mem_append] at z ⊢
    grind
  have t : Tr H H (wOf Γ ar am (b ++ ao')) (wOf Γ ar am ao') m m [] := Tr.same hw
  refine ⟨m, ar, am, ao', ab, t.rs R.rs (fun _ _ z => nomatch z), t.rp R.rm (fun _ _ z => nomatch z), t.rp0 R.ri, t.rp r2 (fun _ _ z => nomatch z), t.rp R.rb (fun _ _ z => nomatch z), ?_, ?_, R.kp, R.pm, R.gu, R.tb⟩
  · simp only [wOf, List.nodup_append, List.mem_append] at nd ⊢
    grind
  · intro a ha
    have z := fr a
    simp only [List.mem_append] at z ha
    grind
theorem Rel.dropX {v : V} {s : Sl} (R : Rel K Γ σ H st (p.psh s v)) : Rel K Γ σ H st p := by
  cases s with
  | no => exact R
  | im d => exact R.drop
  | ow d => exact R.dropO
def isNo : Sl → Bool
  | .no => true
  | _ => false
theorem Rel.putX {v : V} {s : Sl} {i : Nat} (R : Rel K Γ σ H st (p.psh s v)) (hs : isNo s = false) (hi : i < st.r.length) : Rel K Γ (σ.set i (some v)) H ⟨setSl st.r i s, st.s⟩ p := by
  cases s with
  | no => cases hs
  | im d => exact R.put i
  | ow d => exact R.putO i hi
theorem rdX_in {ma : M Sl} {Q : VK} {R : Rel K Γ σ H st p} (h : match ma st with
  | .ok s st' => isNo s = false ∧ ∀ v H', Rel K Γ σ H' st' (p.nob.psh s v) → Q v H'
  | .err c st' => ∀ H', Rel K Γ σ H' st' p.nob → W (.ref (He.ga K c)) none σ H'
  | .bad => False) : rdX K Γ W ma σ H Q := by
  refine ⟨st, p, R, ?_⟩
  cases ea : ma st with
  | bad => rw [ea] at h; exact h
  | err c s1 => rw [ea] at h; exact h
  | ok s s1 =>
    rw [ea] at h
    cases s with
    | no => cases h.1
    | im d => exact h.2
    | ow d => exact h.2
/-- a, b = x, y -/
def sPar (i j : Nat) (ma mb : M Sl) : M Fl := fun st => (ma st).bind fun x s1 => bif isNo x then .bad else (mb s1).bind fun y s2 => bif isNo y then .bad else if i < s2.r.length ∧ j < s2.r.length then .ok .nx ⟨setSl (setSl s2.r j y) i x, s2.s⟩ else .bad
theorem s_par {i j : Nat} {x y : Str} {a b : Expr} {ma mb : M Sl} {px py pt : Pos} {kt k2 pt2} (hc : X.calm = true) (hN : X.N.Nodup) (hi : X.N[i]? = some x) (hj : X.N[j]? = some y) (hij : i ≠ j)
    (hx : X.env.scope.names.lookup x = some .local) (hy : X.env.scope.names.lookup y = some .local) (ha : PE X a (rdX X.K Γ W ma)) (hb : PE X b (rdX X.K Γ W mb))
    (hw : swappedStores [.Tuple [.Name x px, .Name y py] kt pt] (.Tuple [a, b] k2 pt2) X.env = pure (some [x, y]))
    (hs : swapsWithSole [.Tuple [.Name x px, .Name y py] kt pt] (.Tuple [a, b] k2 pt2) pos.line X.env = pure false := by rfl)
    (hs1 : starEach [a, b] X.env = (false, eval a X.env) :: starEach [b] X.env := by rfl) (hs2 : starEach [b] X.env = (false, eval b X.env) :: starEach [] X.env := by rfl) :
    PS X (.Assign [.Tuple [.Name x px, .Name y py] kt pt] (.Tuple [a, b] k2 pt2) pos) (rdS X.K Γ W (sPar i j ma mb)) := by
  refine ps_imp (ps_par hc hN hi hj hij hx hy (pa_cons ha (pa_cons hb pa_nil hs2) hs1) hw hs) fun D σ H h => ?_
  obtain ⟨st, p, R, hp, h⟩ := h
  unfold sPar at h
  refine rdX_in (R := R) ?_
  cases ea : ma st with
  | bad => rw [ea] at h; exact h
  | err c s1 => rw [ea] at h; exact fun H' R' => h σ H' (hp ▸ R')
  | ok s s1 =>
    rw [ea] at h
    simp only [Res.bind_ok] at h
    cases n1 : isNo s with
    | true => simp only [n1, cond_true] at h
    | false =>
      simp only [n1, cond_false] at h
      refine ⟨n1, fun v H1 R1 => rdX_in (R := R1) ?_⟩
      have en : (p.nob.psh s v).nob = p.psh s v := by cases s <;> rw [hp] <;> exact congrArg (fun z : Pd => z) (by first | (show Pd.nob (Pd.sh p v _) = Pd.sh p v _; rw [← hp]) | (show Pd.nob (Pd.own p v _) = Pd.own p v _; rw [← hp]) | exact hp)
      cases eb : mb s1 with
      | bad => rw [eb] at h; exact h
      | err c s2 => rw [eb] at h; exact fun H' R' => h σ H' (Rel.dropX (s := s) (v := v) (en ▸ R'))
      | ok t s2 =>
        rw [eb] at h
        simp only [Res.bind_ok] at h
        cases n2 : isNo t with
        | true => simp only [n2, cond_true] at h
        | false =>
          simp only [n2, cond_false] at h
          refine ⟨n2, fun w' H2 R2 => ⟨v, w', rfl, ?_⟩⟩
          by_cases c : i < s2.r.length ∧ j < s2.r.length
          · rw [if_pos c] at h
            rw [en] at R2
            have R3 := R2.putX n2 c.2
            have R4 := R3.putX (i := i) n1 (by rw [setSl_len]; exact c.1)
            rw [List.set_comm _ _ (Ne.symm hij)] at R4
            exact h _ H2 R4
          · rw [if_neg c] at h
            exact h.elim
/-- a, b, c = x, y, z -/
def sPar3 (i j l : Nat) (ma mb mc : M Sl) : M Fl := fun st => (ma st).bind fun x s1 => bif isNo x then .bad else (mb s1).bind fun y s2 => bif isNo y then .bad else (mc s2).bind fun z s3 => bif isNo z then .bad else if i < s3.r.length ∧ j < s3.r.length ∧ l < s3.r.length then .ok .nx ⟨setSl (setSl (setSl s3.r l z) j y) i x, s3.s⟩ else .bad
theorem nob_psh {s : Sl} {v : V} (hp : p.nob = p) : (p.psh s v).nob = p.psh s v := by
  cases s with
  | no => exact hp
  | im d =>
    show Pd.nob (Pd.sh p v d) = Pd.sh p v d
    rw [← hp]
  | ow d =>
    show Pd.nob (Pd.own p v d) = Pd.own p v d
    rw [← hp]
theorem s_par3 {i j l : Nat} {x y z : Str} {a b c : Expr} {ma mb mc : M Sl} {px py pz pt : Pos} {kt k2 pt2} (hc : X.calm = true) (hN : X.N.Nodup) (hi : X.N[i]? = some x) (hj : X.N[j]? = some y) (hl : X.N[l]? = some z) (hij : i ≠ j) (hil : i ≠ l) (hjl : j ≠ l)
    (hx : X.env.scope.names.lookup x = some .local) (hy : X.env.scope.names.lookup y = some .local) (hz : X.env.scope.names.lookup z = some .local) (ha : PE X a (rdX X.K Γ W ma)) (hb : PE X b (rdX X.K Γ W mb)) (hcc : PE X c (rdX X.K Γ W mc))
    (hw : swappedStores [.Tuple [.Name x px, .Name y py, .Name z pz] kt pt] (.Tuple [a, b, c] k2 pt2) X.env = pure (some [x, y, z]))
    (hs : swapsWithSole [.Tuple [.Name x px, .Name y py, .Name z pz] kt pt] (.Tuple [a, b, c] k2 pt2) pos.line X.env = pure false := by rfl)
    (hs1 : starEach [a, b, c] X.env = (false, eval a X.env) :: starEach [b, c] X.env := by rfl) (hs2 : starEach [b, c] X.env = (false, eval b X.env) :: starEach [c] X.env := by rfl) (hs3 : starEach [c] X.env = (false, eval c X.env) :: starEach [] X.env := by rfl) :
    PS X (.Assign [.Tuple [.Name x px, .Name y py, .Name z pz] kt pt] (.Tuple [a, b, c] k2 pt2) pos) (rdS X.K Γ W (sPar3 i j l ma mb mc)) := by
  refine ps_imp (ps_par3 hc hN hi hj hl hij hil hjl hx hy hz (pa_cons ha (pa_cons hb (pa_cons hcc pa_nil hs3) hs2) hs1) hw hs) fun D σ H h => ?_
  obtain ⟨st, p, R, hp, h⟩ := h
  unfold sPar3 at h
  refine rdX_in (R := R) ?_
  cases ea : ma st with
  | bad => rw [ea] at h; exact h
  | err c s1 => rw [ea] at h; exact fun H' R' => h σ H' (hp ▸ R')
  | ok s s1 =>
    rw [ea] at h
    simp only [Res.bind_ok] at h
    cases n1 : isNo s with
    | true => simp only [n1, cond_true] at h
    | false =>
      simp only [n1, cond_false] at h
      refine ⟨n1, fun v H1 R1 => rdX_in (R := R1) ?_⟩
      rw [hp]
      have en := nob_psh (s := s) (v := v) hp
      cases eb : mb s1 with
      | bad => rw [eb] at h; exact h
      | err c s2 => rw [eb] at h; exact fun H' R' => h σ H' (Rel.dropX (s := s) (v := v) (en ▸ R'))
      | ok t s2 =>
        rw [eb] at h
        simp only [Res.bind_ok] at h
        cases n2 : isNo t with
        | true => simp only [n2, cond_true] at h
        | false =>
          simp only [n2, cond_false] at h
          refine ⟨n2, fun w' H2 R2 => rdX_in (R := R2) ?_⟩
          rw [en]
          have en2 := nob_psh (s := t) (v := w') en
          cases ec : mc s2 with
          | bad => rw [ec] at h; exact h
          | err c s3 => rw [ec] at h; exact fun H' R' => h σ H' (Rel.dropX (s := s) (v := v) (Rel.dropX (s := t) (v := w') (en2 ▸ R')))
          | ok u s3 =>
            rw [ec] at h
            simp only [Res.bind_ok] at h
            cases n3 : isNo u with
            | true => simp only [n3, cond_true] at h
            | false =>
              simp only [n3, cond_false] at h
              refine ⟨n3, fun w2 H3 R3 => ⟨v, w', w2, rfl, ?_⟩⟩
              by_cases c : i < s3.r.length ∧ j < s3.r.length ∧ l < s3.r.length
              · rw [if_pos c] at h
                rw [en2] at R3
                have R4 := R3.putX n3 c.2.2
                have R5 := R4.putX (i := j) n2 (by rw [setSl_len]; exact c.2.1)
                have R6 := R5.putX (i := i) n1 (by rw [setSl_len, setSl_len]; exact c.1)
                rw [List.set_comm _ _ (Ne.symm hjl), List.set_comm _ _ (Ne.symm hil), List.set_comm _ _ (Ne.symm hij)] at R6
                exact h _ H3 R6
              · rw [if_neg c] at h
                exact h.elim
/-! ### target = value, by unpacking -/
def sAsgG (t : Tg) (m : M AV) : M Fl := fun st => (m st).bind fun d s1 => match t d s1 with
  | some s2 => .ok .nx s2
  | none => .bad
theorem s_asgG {tg e : Expr} {ns : List Nat} {t : Tg} {m : M AV} (he : PE X e (rdE X.K Γ W m)) (hg : PG X tg (rdG X.K Γ ns t)) (hs : swapsWithSole [tg] e pos.line X.env = pure false := by rfl) (hw : swappedStores [tg] e X.env = pure none := by rfl)
    (h1 : (assignEach [tg] X.env).map (·.2) = [assign tg X.env] := by rfl) : PS X (.Assign [tg] e pos) (rdS X.K Γ W (sAsgG t m)) := by
  refine ps_imp (ps_asg he hg hs hw h1) fun D σ H h => ?_
  obtain ⟨st, p, R, hp, h⟩ := h
  refine ⟨st, p, R, ?_⟩
  unfold sAsgG at h
  cases ea : m st with
  | bad => rw [ea] at h; exact h
  | err c s1 => rw [ea] at h; exact fun H' R' => h σ H' (hp ▸ R')
  | ok d s1 =>
    rw [ea] at h
    simp only [Res.bind_ok] at h
    intro v H1 R1
    cases et : t d s1 with
    | none => simp only [et] at h
    | some s2 =>
      simp only [et] at h
      exact ⟨s1, p, d, s2, nob_sh hp ▸ R1, et, fun σ' H' _ R' => h σ' H' R'⟩
/-! ### [..] * n, owned -/
def oMulO : AV → AV → Option AV
  | .lst _ xs, .int k => if k < 1000000 ∧ -1000000 < k ∧ xs.length * k.toNat ≤ 16777216 then some (.lst true (repA k xs)) else none
  | _, _ => none
theorem s_mulO {a b : Expr} {ma mb : M AV} (ha : PE X a (rdE X.K Γ W ma)) (hb : PE X b (rdE X.K Γ W mb)) : PE X (.BinOp a .Mult b pos) (rdO X.K Γ W (e2 oMulO ma mb)) := by
  refine pe_imp (pe_op o_mul ha hb) fun σ H Q h => ?_
  obtain ⟨st, p, R, h⟩ := h
  refine ⟨st, p, R, ?_⟩
  unfold e2 at h
  cases ea : ma st with
  | bad => rw [ea] at h; exact h
  | err c s1 => rw [ea] at h; exact h
  | ok x s1 =>
    rw [ea] at h
    intro v1 H1 R1
    refine ⟨s1, _, R1, ?_⟩
    simp only [Res.bind_ok] at h
    cases eb : mb s1 with
    | bad => rw [eb] at h; exact h
    | err c s2 =>
      rw [eb] at h
      intro H2 R2
      exact h H2 R2.drop
    | ok y s2 =>
      rw [eb] at h
      simp only [Res.bind_ok] at h
      intro v2 H2 R2
      cases ef : oMulO x y with
      | none => simp only [ef, ofO_none] at h
      | some d =>
        simp only [ef, ofO_some] at h
        obtain ⟨m, ar, am, ao, ab, R3, r1, r2⟩ := R2.two
        unfold oMulO at ef
        split at ef
        · split at ef
          · cases ef
            obtain ⟨a, us, rfl, h1, q1⟩ := r1.lst_i
            obtain rfl := r2.int_i
            rename_i c
            have l1 := q1.len
            exact .inr ⟨a, _, us, rfl, rfl, h1, by omega, by omega, by rw [l1, mx_eq]; exact c.2.2, fun q hq => h _ _ (R3.newLst hq (rep_rp q1 _))⟩
          · cases ef
        · cases ef
end
end Fk
/-! ## zip, enumerate, dicts, isinstance of own classes -/
namespace Fk
open PySem PySem.Spec PyProof.Rows L2
def zipL : List AV → List AV → List AV
  | x :: xs, y :: ys => .tup [x, y] :: zipL xs ys
  | _, _ => []
def zipA : List AV → Option (List AV)
  | [.lst _ xs, .lst _ ys] => some (zipL xs ys)
  | [.tup xs, .tup ys] => some (zipL xs ys)
  | _ => none
def enuL (n : Nat) : List AV → List AV
  | [] => []
  | x :: xs => .tup [.int n, x] :: enuL (n + 1) xs
def enuA : List AV → Option (List AV)
  | [.lst _ xs] => some (enuL 0 xs)
  | [.tup xs] => some (enuL 0 xs)
  | _ => none
theorem zipL_get {d : AV} : ∀ {xs ys : List AV} {i : Nat}, (zipL xs ys)[i]? = some d → ∃ x y, xs[i]? = some x ∧ ys[i]? = some y ∧ d = .tup [x, y]
  | [], ys, i, h => by cases i <;> cases h
  | x :: xs, [], i, h => by cases i <;> cases h
  | x :: xs, y :: ys, 0, h => by cases h; exact ⟨x, y, rfl, rfl, rfl⟩
  | x :: xs, y :: ys, i + 1, h => zipL_get (xs := xs) (ys := ys) (i := i) h
theorem zipL_len : ∀ xs ys : List AV, xs.length ≤ (zipL xs ys).length ∨ ys.length ≤ (zipL xs ys).length
  | [], ys => .inl (Nat.zero_le _)
  | x :: xs, [] => .inr (Nat.zero_le _)
  | x :: xs, y :: ys => by
    rcases zipL_len xs ys with h | h
    · exact .inl (Nat.succ_le_succ h)
    · exact .inr (Nat.succ_le_succ h)
theorem enuL_get {d : AV} : ∀ {xs : List AV} {i n : Nat}, (enuL n xs)[i]? = some d → ∃ x, xs[i]? = some x ∧ d = .tup [.int ((n + i : Nat) : Int), x]
  | [], i, n, h => by cases i <;> cases h
  | x :: xs, 0, n, h => by cases h; exact ⟨x, rfl, rfl⟩
  | x :: xs, i + 1, n, h => by
    obtain ⟨y, h1, h2⟩ := enuL_get (xs := xs) (i := i) (n := n + 1) h
    exact ⟨y, h1, by rw [h2]; congr 4; omega⟩
theorem enuL_len : ∀ (xs : List AV) (n : Nat), (enuL n xs).length = xs.length
  | [], _ => rfl
  | _ :: xs, n => by
    show (enuL (n + 1) xs).length + 1 = xs.length + 1
    rw [enuL_len]
section
variable {X : Cx} {Γ : Gam} {W : WX} {σ : L2.St} {H : Hp} {st : Ss} {p : Pd} {K : PySem.W.Frag} {pos q : Pos} {e e2 : Expr} {ma : M (List AV)} {kk : Nat} {elts : List Expr} {tpos : Pos}
theorem s_zip (hg : Gl X "zip") (hm : X.mg "zip" = none) (ha : PA X [e, e2] (rdA X.K Γ W ma)) (hs : starEach [e, e2] X.env = (false, eval e X.env) :: starEach [e2] X.env := by rfl) (hpl : (backTo pos (starEach [e2] X.env)).any (·.1) = false := by rfl) :
    PI X (.Tuple elts kk tpos) (.Call (.Name "zip" q) [e, e2] [] pos) (rdI X.K Γ W (iArg zipA ma)) := by
  refine pi_imp (RZ.pi_zipA hg hm ha hs hpl) fun σ H R h => ?_
  obtain ⟨st, p, R0, h⟩ := h
  refine ⟨st, p, R0, ?_⟩
  unfold iArg at h
  cases ea : ma st with
  | bad => rw [ea] at h; exact h
  | err c s1 => rw [ea] at h; exact h
  | ok xs s1 =>
    rw [ea] at h
    simp only [Res.bind_ok] at h
    intro vs H1 hl R1
    obtain ⟨m, ar, am, ao, ab, R2, r⟩ := Rel.args (p := p.nob) hl R1
    cases e : zipA xs with
    | none => rw [e] at h; exact h.elim
    | some ds =>
      rw [e] at h
      unfold zipA at e
      split at e
      · rename_i o1 xs o2 ys
        cases e
        obtain ⟨v, w', a1, a2, rfl, r1, r2⟩ := r.twoL
        obtain ⟨a, us, rfl, hs1, q1⟩ := r1.lst_i
        obtain ⟨b, us', rfl, hs2, q2⟩ := r2.lst_i
        refine ⟨a, b, us, us', rfl, .inl ⟨SqL.of hs1, SqL.of hs2, h (Itz X.K a b) H1 [.ref a, .ref b] [(.lst o1 xs), (.lst o2 ys)] rfl R1 ⟨fun i d σ H st ov ox e R3 => ?_, fun σ H st ov ox R3 => ?_⟩⟩⟩
        · obtain ⟨m3, ar3, am3, ao3, ab3, R4⟩ := id R3
          have q3 : Rp X.K H (wOf Γ ar3 am3 ao3) m3 (.ref a :: .ref b :: p.iv) (.lst o1 xs :: .lst o2 ys :: p.ix) [] := R4.ri
          obtain ⟨a', us3, e3, hs3, p3⟩ := q3.head0.1.lst_i
          obtain ⟨b', us4, e4, hs4, p4⟩ := q3.head0.2.head0.1.lst_i
          cases e3; cases e4
          obtain ⟨x, y, ex, ey, rfl⟩ := zipL_get e
          obtain ⟨u, eu, ru⟩ := p3.get0 ex
          obtain ⟨u', eu', ru'⟩ := p4.get0 ey
          refine ⟨⟨us3, us4, u, u', SqL.of hs3, SqL.of hs4, eu, eu'⟩, fun z H' yl => ?_⟩
          obtain ⟨T, x2, y2, rfl, hT, rfl, f1, f2⟩ := yl
          have z1 := f1 us3 (SqL.of hs3)
          have z2 := f2 us4 (SqL.of hs4)
          rw [eu] at z1
          rw [eu'] at z2
          cases z1; cases z2
          exact (R4.tup hT (ru.cons0 ru')).rel
        · obtain ⟨m3, ar3, am3, ao3, ab3, R4⟩ := id R3
          have q3 : Rp X.K H (wOf Γ ar3 am3 ao3) m3 (.ref a :: .ref b :: p.iv) (.lst o1 xs :: .lst o2 ys :: p.ix) [] := R4.ri
          obtain ⟨a', us3, e3, hs3, p3⟩ := q3.head0.1.lst_i
          obtain ⟨b', us4, e4, hs4, p4⟩ := q3.head0.2.head0.1.lst_i
          cases e3; cases e4
          exact ⟨us3, us4, SqL.of hs3, SqL.of hs4, by rw [p3.len, p4.len]; exact zipL_len xs ys⟩
      · rename_i xs ys
        cases e
        obtain ⟨v, w', a1, a2, rfl, r1, r2⟩ := r.twoL
        obtain ⟨a, us, rfl, hs1, q1⟩ := r1.tup_i
        obtain ⟨b, us', rfl, hs2, q2⟩ := r2.tup_i
        refine ⟨a, b, us, us', rfl, .inr ⟨hs1, hs2, h (RZ.ItzT X.K a b) H1 [.ref a, .ref b] [(.tup xs), (.tup ys)] rfl R1 ⟨fun i d σ H st ov ox e R3 => ?_, fun σ H st ov ox R3 => ?_⟩⟩⟩
        · obtain ⟨m3, ar3, am3, ao3, ab3, R4⟩ := id R3
          have q3 : Rp X.K H (wOf Γ ar3 am3 ao3) m3 (.ref a :: .ref b :: p.iv) (.tup xs :: .tup ys :: p.ix) [] := R4.ri
          obtain ⟨a', us3, e3, hs3, p3⟩ := q3.head0.1.tup_i
          obtain ⟨b', us4, e4, hs4, p4⟩ := q3.head0.2.head0.1.tup_i
          cases e3; cases e4
          obtain ⟨x, y, ex, ey, rfl⟩ := zipL_get e
          obtain ⟨u, eu, ru⟩ := p3.get0 ex
          obtain ⟨u', eu', ru'⟩ := p4.get0 ey
          refine ⟨⟨us3, us4, u, u', hs3, hs4, eu, eu'⟩, fun z H' yl => ?_⟩
          obtain ⟨T, x2, y2, rfl, hT, rfl, f1, f2⟩ := yl
          have z1 := f1 us3 hs3
          have z2 := f2 us4 hs4
          rw [eu] at z1
          rw [eu'] at z2
          cases z1; cases z2
          exact (R4.tup hT (ru.cons0 ru')).rel
        · obtain ⟨m3, ar3, am3, ao3, ab3, R4⟩ := id R3
          have q3 : Rp X.K H (wOf Γ ar3 am3 ao3) m3 (.ref a :: .ref b :: p.iv) (.tup xs :: .tup ys :: p.ix) [] := R4.ri
          obtain ⟨a', us3, e3, hs3, p3⟩ := q3.head0.1.tup_i
          obtain ⟨b', us4, e4, hs4, p4⟩ := q3.head0.2.head0.1.tup_i
          cases e3; cases e4
          exact ⟨us3, us4, hs3, hs4, by rw [p3.len, p4.len]; exact zipL_len xs ys⟩
      · cases e
theorem s_enum (hg : Gl X "enumerate") (hm : X.mg "enumerate" = none) (ha : PA X [e] (rdA X.K Γ W ma)) (hs : starEach [e] X.env = [(false, eval e X.env)] := by rfl) :
    PI X (.Tuple elts kk tpos) (.Call (.Name "enumerate" q) [e] [] pos) (rdI X.K Γ W (iArg enuA ma)) := by
  refine pi_imp (pi_enumA hg hm ha hs) fun σ H R h => ?_
  obtain ⟨st, p, R0, h⟩ := h
  unfold iArg at h
  cases ea : ma st with
  | bad => rw [ea] at h; exact h.elim
  | err c s1 => rw [ea] at h; exact .inl ⟨st, p, R0, by rw [ea]; exact h⟩
  | ok xs s1 =>
    rw [ea] at h
    simp only [Res.bind_ok] at h
    cases e : enuA xs with
    | none => rw [e] at h; exact h.elim
    | some ds =>
      rw [e] at h
      unfold enuA at e
      split at e
      · rename_i o1 xs
        cases e
        refine .inl ⟨st, p, R0, ?_⟩
        rw [ea]
        intro vs H1 hl R1
        obtain ⟨m, ar, am, ao, ab, R2, r⟩ := Rel.args (p := p.nob) hl R1
        obtain ⟨v, rfl, r1⟩ := r.one
        obtain ⟨a, us, rfl, hs1, q1⟩ := r1.lst_i
        refine ⟨a, us, rfl, SqL.of hs1, h (Ite X.K a) H1 [.ref a] [(.lst o1 xs)] rfl R1 ⟨fun i d σ H st ov ox e R3 => ?_, fun σ H st ov ox R3 => ?_⟩⟩
        · obtain ⟨m3, ar3, am3, ao3, ab3, R4⟩ := id R3
          have q3 : Rp X.K H (wOf Γ ar3 am3 ao3) m3 (.ref a :: p.iv) (.lst o1 xs :: p.ix) [] := R4.ri
          obtain ⟨a', us3, e3, hs3, p3⟩ := q3.head0.1.lst_i
          cases e3
          obtain ⟨x, ex, rfl⟩ := enuL_get e
          obtain ⟨u, eu, ru⟩ := p3.get0 ex
          refine ⟨⟨us3, u, SqL.of hs3, eu⟩, fun z H' yl => ?_⟩
          obtain ⟨T, x2, rfl, hT, rfl, f1⟩ := yl
          have z1 := f1 us3 (SqL.of hs3)
          rw [eu] at z1
          cases z1
          rw [Nat.zero_add]
          exact (R4.tup hT (.int ru)).rel
        · obtain ⟨m3, ar3, am3, ao3, ab3, R4⟩ := id R3
          have q3 : Rp X.K H (wOf Γ ar3 am3 ao3) m3 (.ref a :: p.iv) (.lst o1 xs :: p.ix) [] := R4.ri
          obtain ⟨a', us3, e3, hs3, p3⟩ := q3.head0.1.lst_i
          cases e3
          exact ⟨us3, SqL.of hs3, by rw [p3.len, enuL_len]; exact Nat.le_refl _⟩
      · rename_i xs
        cases e
        refine .inr ⟨st, p, R0, ?_⟩
        rw [ea]
        intro vs H1 hl R1
        obtain ⟨m, ar, am, ao, ab, R2, r⟩ := Rel.args (p := p.nob) hl R1
        obtain ⟨v, rfl, r1⟩ := r.one
        obtain ⟨a, us, rfl, hs1, q1⟩ := r1.tup_i
        refine ⟨a, us, rfl, hs1, h (IteT X.K a) H1 [.ref a] [(.tup xs)] rfl R1 ⟨fun i d σ H st ov ox e R3 => ?_, fun σ H st ov ox R3 => ?_⟩⟩
        · obtain ⟨m3, ar3, am3, ao3, ab3, R4⟩ := id R3
          have q3 : Rp X.K H (wOf Γ ar3 am3 ao3) m3 (.ref a :: p.iv) (.tup xs :: p.ix) [] := R4.ri
          obtain ⟨a', us3, e3, hs3, p3⟩ := q3.head0.1.tup_i
          cases e3
          obtain ⟨x, ex, rfl⟩ := enuL_get e
          obtain ⟨u, eu, ru⟩ := p3.get0 ex
          refine ⟨⟨us3, u, hs3, eu⟩, fun z H' yl => ?_⟩
          obtain ⟨T, x2, rfl, hT, rfl, f1⟩ := yl
          have z1 := f1 us3 hs3
          rw [eu] at z1
          cases z1
          rw [Nat.zero_add]
          exact (R4.tup hT (.int ru)).rel
        · obtain ⟨m3, ar3, am3, ao3, ab3, R4⟩ := id R3
          have q3 : Rp X.K H (wOf Γ ar3 am3 ao3) m3 (.ref a :: p.iv) (.tup xs :: p.ix) [] := R4.ri
          obtain ⟨a', us3, e3, hs3, p3⟩ := q3.head0.1.tup_i
          cases e3
          exact ⟨us3, hs3, by rw [p3.len, enuL_len]; exact Nat.le_refl _⟩
      · cases e
/-! ### dicts -/
def eDnew : M AV := fun st => .ok (.dct true [] []) st
theorem s_dnew : PE X (.Dict [] [] pos) (rdO X.K Γ W eDnew) := by
  refine pe_imp pe_dnewK fun σ H Q h => ?_
  obtain ⟨st, p, R, h⟩ := h
  intro a ha
  obtain ⟨m, ar, am, ao, ab, R⟩ := R
  exact h _ _ (R.nob.newO ha fun t h1 => .dcO (kvs := []) h1 rfl .nil .nil).rel
/-- d.get(k, x), looked at -/
def getD' (S : List AV) (x k d : AV) : Option AV := ((deref S x).bind dicA).bind fun t => (keyA k).bind fun k => some ((getK t.1 t.2 k).getD d)
def pGet (a b c : Ss → Option AV) : Ss → Option AV := fun st => (a st).bind fun x => (b st).bind fun k => (c st).bind fun d => getD' st.s x k d
theorem getK_n {H : Hp} {W m as : List Addr} {k : Key} : ∀ {kvs : List (Key × V)} {ys : List AV}, Rp K H W m (kvs.map (·.2)) ys as → getK (kvs.map (·.1)) ys k = none → valV kvs k = none
  | [], ys, r, h => rfl
  | (k', v) :: kvs, [], r, h => by cases r.nil_inv.1
  | (k', v) :: kvs, y :: ys, r, h => by
    obtain ⟨a1, a2, _, _, r2⟩ := Rp.head (show Rp K H W m (v :: kvs.map (·.2)) (y :: ys) as from r)
    have h2 : (if k' = k then some y else getK (kvs.map (·.1)) ys k) = none := h
    by_cases c : k' = k
    · rw [if_pos c] at h2; cases h2
    · rw [if_neg c] at h2
      have ih := getK_n r2 h2
      unfold valV at ih ⊢
      rw [List.find?_cons_of_neg (by simpa using c)]
      exact ih
theorem q_get {o k d : Expr} {apos : Pos} {a b c : Ss → Option AV} (hu : X.A.units + 1 < cLine) (ho : PE X o (rdP X.K Γ a)) (hk : PE X k (rdP X.K Γ b)) (hd : PE X d (rdP X.K Γ c)) (m : M2 X o "get" apos k d pos) : PE X (.Call (.Attribute o "get" apos) [k, d] [] pos) (rdP X.K Γ (pGet a b c)) := by
  refine pe_imp (pe_dget2 hu ho hk hd m) fun σ H Q h => ?_
  obtain ⟨st, p, z, R, e, h⟩ := h
  obtain ⟨x, ex, e⟩ := Option.bind_eq_some_iff.mp e
  obtain ⟨y, ey, e⟩ := Option.bind_eq_some_iff.mp e
  obtain ⟨w', ew, e⟩ := Option.bind_eq_some_iff.mp e
  refine ⟨st, p, x, R, ex, fun v R1 => ?_⟩
  obtain ⟨⟨ks, xs⟩, e1, e⟩ := Option.bind_eq_some_iff.mp e
  obtain ⟨z1, ez1, ed⟩ := Option.bind_eq_some_iff.mp e1
  obtain ⟨key, ekey, e⟩ := Option.bind_eq_some_iff.mp e
  obtain ⟨m1, ar, am, ao, ab, R2⟩ := id R1
  obtain ⟨c1, c2, _, r1, r2⟩ := R2.rb.head
  obtain ⟨as', r1'⟩ := R2.deref r1 ez1
  obtain ⟨ad, kvs, bd, rfl, hs, _, _⟩ := dicA_v r1' ed
  refine ⟨ad, rfl, .inl ⟨kvs, .inl hs⟩, st, _, y, R1, ey, fun vy R3 => ⟨st, _, w', R3, ew, fun vd R4 => ?_⟩⟩
  obtain ⟨m4, ar4, am4, ao4, ab4, R5⟩ := R4
  obtain ⟨d1, d2, _, rd, s2⟩ := R5.rb.head
  obtain ⟨d3, d4, _, ry, s3⟩ := s2.head
  obtain ⟨d5, d6, _, rx, s4⟩ := s3.head
  obtain ⟨as2, rx'⟩ := R5.deref rx ez1
  obtain ⟨ad2, kvs2, bd2, e2, hs2, ek2, q2⟩ := dicA_v rx' ed
  cases e2
  rw [hs] at hs2
  cases hs2
  subst ek2
  refine ⟨valV kvs key, .inl ⟨kvs, key, .inl hs, keyA_v ry ekey, rfl⟩, ?_⟩
  have e' : (getK (kvs.map (·.1)) xs key).getD w' = z := Option.some.inj e
  cases eg : getK (kvs.map (·.1)) xs key with
  | some z2 =>
    rw [eg] at e'
    have e'' : z2 = z := e'
    subst e''
    obtain ⟨u, b2, h1, h2⟩ := getK_v q2 eg
    rw [h1]
    exact h u ⟨m4, ar4, am4, ao4, _, R5.setB (h2.cons s4)⟩
  | none =>
    rw [eg] at e'
    have e'' : w' = z := e'
    subst e''
    rw [getK_n q2 eg]
    exact h vd ⟨m4, ar4, am4, ao4, _, R5.setB (rd.cons s4)⟩
/-- dict([..pairs..]) -/
def mrgA : List Key × List AV → List AV → Option (List Key × List AV)
  | acc, [] => some acc
  | (ks, xs), .tup [k, v] :: r => (keyA k).bind fun k => mrgA (putKA ks xs k v) r
  | _, _ => none
def fDict : AV → Option AV
  | .lst _ ps => (mrgA ([], []) ps).map fun t => AV.dct true t.1 t.2
  | _ => none
theorem mrg_v {H : Hp} {W m : List Addr} : ∀ {ps : List AV} {us : List V} {kvs : List (Key × V)} {ys : List AV} {t : List Key × List AV}, Rp K H W m us ps [] → Rp K H W m (kvs.map (·.2)) ys [] → mrgA (kvs.map (·.1), ys) ps = some t →
    ∃ (as : List Addr) (more : List (Key × V)), us = as.map V.ref ∧ Paired (fun p kv => SqT K H p [kV kv.1, kv.2]) as more ∧ ((mergeK kvs more).map (·.1)) = t.1 ∧ Rp K H W m ((mergeK kvs more).map (·.2)) t.2 []
  | [], us, kvs, ys, t, r, q, h => by
    obtain ⟨rfl, _⟩ := r.nil_inv
    cases h
    exact ⟨[], [], rfl, .nil, rfl, q⟩
  | p :: ps, [], kvs, ys, t, r, q, h => by cases r.nil_inv'.1
  | p :: ps, u :: us, kvs, ys, t, r, q, h => by
    unfold mrgA at h
    split at h
    · rename_i e; cases e
    · rename_i ks' xs' k v r' e1 e2
      cases e1
      cases e2
      obtain ⟨key, ek, h⟩ := Option.bind_eq_some_iff.mp h
      obtain ⟨a, us2, rfl, hs, q2⟩ := r.head0.1.tup_i
      obtain ⟨v1, v2, b1, b2, rfl, rk, rv⟩ := q2.twoL
      have hb2 := q2
      have rv0 : Rp K H W m [v2] [v] [] := q2.head0.2
      obtain ⟨p1, p2⟩ := putK_v (k := key) q rv0
      have h2 : mrgA ((putK kvs key v2).map (·.1), (putKA (kvs.map (·.1)) ys key v).2) ps = some t := by
        rw [p1]
        exact h
      obtain ⟨as, more, rfl, pr, z1, z2⟩ := mrg_v r.head0.2 p2 h2
      refine ⟨a :: as, (key, v2) :: more, rfl, .cons ?_ pr, z1, z2⟩
      show SqT K H a [kV key, v2]
      rw [← keyA_v rk ek]
      exact hs
    · cases h
theorem s_dictO {m : M AV} (hg : Gl X "dict") (hm : X.mg "dict" = none) (hc : X.calm = true) (he : PE X e (rdE X.K Γ W m))
    (hs : starEach [e] X.env = (false, eval e X.env) :: starEach [] X.env := by rfl) (hpl : (backTo pos (starEach [] X.env)).any (·.1) = false := by rfl) : PE X (.Call (.Name "dict" q) [e] [] pos) (rdO X.K Γ W (e1 fDict m)) := by
  refine pe_imp (pe_callTy (call_dictP hc) hg hm (by decide +kernel) (pa_cons he pa_nil hs) (by decide) (by decide) hs hpl) fun σ H Q h => ?_
  obtain ⟨st, p, R, h⟩ := h
  refine ⟨st, p, R, ?_⟩
  unfold e1 at h
  cases ea : m st with
  | bad => rw [ea] at h; exact h
  | err c s1 => rw [ea] at h; exact h
  | ok x s1 =>
    rw [ea] at h
    simp only [Res.bind_ok] at h
    intro v H1 R1
    cases ef : fDict x with
    | none => simp only [ef, ofO_none] at h
    | some d =>
      simp only [ef, ofO_some] at h
      unfold fDict at ef
      split at ef
      · obtain ⟨t, et, rfl⟩ := Option.map_eq_some_iff.mp ef
        obtain ⟨m1, ar, am, ao, ab, R2, r⟩ := R1.one
        obtain ⟨a, us, rfl, hs1, q1⟩ := r.lst_i
        obtain ⟨as, more, rfl, pr, z1, z2⟩ := mrg_v (kvs := []) (ys := []) q1 .nil et
        refine ⟨a, as, more, rfl, SqL.of hs1, pr, fun b hb => h _ _ (R2.newO hb fun {H' W'} t' h1 => ?_).rel⟩
        exact .dcO h1 z1 (t'.rp0 z2) .nil
      · cases ef
end
end Fk
/-! ## isinstance of own classes -/
namespace Fk
open PySem PySem.Spec PyProof.Rows L2
def tyNames : List String := ["NoneType", "bool", "int", "str", "tuple", "list", "dict"]
/-- what isinstance(.., C) asks: Ds the other classes -/
structure IsF (K : PySem.W.Frag) (C : Str) (Ds : List Str) : Prop where
  ins : ∀ D ∈ C :: Ds, PySem.W.findIn K (.ref (He.ga K D)) "__class__" = some (some (.builtin "object.__class__")) ∧ PySem.W.mroIn K (He.ga K D) (.type "object") = some true
  hn : PySem.W.specialIn K (.builtin "object.__class__") "__get__" = some (some (.builtin "getset_descriptor.__get__"))
  htk : PySem.W.takesIn K (.builtin "object.__class__") = some true
  ty : ∀ n ∈ tyNames, PySem.W.kitOne K (.type n) (.ref (He.ga K C)) = some false
  oth : ∀ D ∈ Ds, PySem.W.kitOne K (.ref (He.ga K D)) (.ref (He.ga K C)) = some false
def isfB (K : PySem.W.Frag) (C : Str) (Ds : List Str) : Bool :=
  ((C :: Ds).all fun D => decide (PySem.W.findIn K (.ref (He.ga K D)) "__class__" = some (some (.builtin "object.__class__"))) && decide (PySem.W.mroIn K (He.ga K D) (.type "object") = some true))
    && decide (PySem.W.specialIn K (.builtin "object.__class__") "__get__" = some (some (.builtin "getset_descriptor.__get__"))) && decide (PySem.W.takesIn K (.builtin "object.__class__") = some true)
    && (tyNames.all fun n => decide (PySem.W.kitOne K (.type n) (.ref (He.ga K C)) = some false)) && (Ds.all fun D => decide (PySem.W.kitOne K (.ref (He.ga K D)) (.ref (He.ga K C)) = some false))
theorem isfB_ok {K : PySem.W.Frag} {C : Str} {Ds : List Str} (h : isfB K C Ds = true) : IsF K C Ds := by
  unfold isfB at h
  simp only [Bool.and_eq_true, List.all_eq_true, decide_eq_true_eq] at h
  exact ⟨h.1.1.1.1, h.1.1.1.2, h.1.1.2, h.1.2, h.2⟩
def clsA (S : List AV) (x : AV) : Option Str := ((deref S x).bind insOf).map (·.1)
def eIsC (C : Str) (Ds : List Str) (m : M AV) : M AV := fun st => (m st).bind fun x s1 => bif okT x then .ok (.bl false) s1 else match clsA s1.s x with
  | some D => if D = C then .ok (.bl true) s1 else if D ∈ Ds then .ok (.bl false) s1 else .bad
  | none => .bad
section
variable {X : Cx} {Γ : Gam} {W : WX} {σ : L2.St} {H : Hp} {st : Ss} {p : Pd} {K : PySem.W.Frag} {pos q : Pos} {C : Str} {Ds : List Str}
theorem tyA_mem (x : AV) : tyA x ∈ tyNames := by cases x <;> simp [tyA, tyNames]
theorem s_isC {e : Expr} {m : M AV} {q2 : Pos} (F : IsF X.K C Ds) (hcl : ∀ D ∈ C :: Ds, Cls X.K (He.ga X.K D)) (hg : Gl X "isinstance") (hm : X.mg "isinstance" = none) (hgt : Gl X C) (hmt : X.mg C = some (.ref (He.ga X.K C))) (he : PE X e (rdE X.K Γ W m)) (hdy : (C == ("__debug__" : Str)) = false := by decide)
    (hs : starEach [e, .Name C q2] X.env = (false, eval e X.env) :: starEach [.Name C q2] X.env := by rfl) (hs2 : starEach [.Name C q2] X.env = (false, eval (.Name C q2) X.env) :: starEach [] X.env := by rfl) (hpl : (backTo pos (starEach [.Name C q2] X.env)).any (·.1) = false := by rfl) :
    PE X (.Call (.Name "isinstance" q) [e, .Name C q2] [] pos) (rdE X.K Γ W (eIsC C Ds m)) := by
  refine pe_imp (pe_callB call_isi hg hm (by decide +kernel) (pa_cons he (pa_cons (pe_glob (v := .ref (He.ga X.K C)) hgt hmt rfl hdy) pa_nil hs2) hs) (by decide) (by decide) hs hpl) fun σ H Q h => ?_
  obtain ⟨st, p, R, h⟩ := h
  refine ⟨st, p, R, ?_⟩
  unfold eIsC at h
  cases ea : m st with
  | bad => rw [ea] at h; exact h
  | err c s1 => rw [ea] at h; exact h
  | ok x s1 =>
    rw [ea] at h
    simp only [Res.bind_ok] at h
    intro v H1 R1
    obtain ⟨mm, ar, am, ao, ab, R2, r⟩ := R1.one
    cases eo : okT x with
    | true =>
      simp only [eo, cond_true] at h
      exact ⟨v, .ref (He.ga X.K C), .type (tyA x), .ref (He.ga X.K C), false, rfl, .own _, tyX_of r eo, F.ty _ (tyA_mem x), h _ _ (R2.rel.bl _)⟩
    | false =>
      simp only [eo, cond_false] at h
      cases ec : clsA s1.s x with
      | none => simp only [ec] at h
      | some D =>
        simp only [ec] at h
        obtain ⟨⟨D', ks, ys⟩, e1, e2⟩ := Option.map_eq_some_iff.mp ec
        have e3 : D' = D := e2
        subst e3
        obtain ⟨z, ez, ei⟩ := Option.bind_eq_some_iff.mp e1
        obtain ⟨as', r2⟩ := R2.deref r ez
        obtain ⟨a, dx, gs, b, rfl, hs', ek, _⟩ := ins_v r2 ei
        have mk : D' ∈ C :: Ds → TyX X.K H1 (.ref a) (.ref (He.ga X.K D')) := fun hD => .base (.ins hs' (hcl _ hD) (F.ins _ hD).1 F.hn F.htk (F.ins _ hD).2)
        by_cases c : D' = C
        · subst c
          rw [if_pos rfl] at h
          refine ⟨_, .ref (He.ga X.K D'), _, .ref (He.ga X.K D'), true, rfl, .own _, mk (by simp), ?_, h _ _ (R2.rel.bl _)⟩
          unfold PySem.W.kitOne
          rw [if_pos (beq_self_eq_true _)]
        · rw [if_neg c] at h
          by_cases c2 : D' ∈ Ds
          · rw [if_pos c2] at h
            exact ⟨_, .ref (He.ga X.K C), _, .ref (He.ga X.K C), false, rfl, .own _, mk (by simp [c2]), F.oth _ c2, h _ _ (R2.rel.bl _)⟩
          · rw [if_neg c2] at h
            exact h.elim
end
end Fk
/-! ## the law's call, its end -/
namespace Fk
open PySem PySem.Spec PyProof.Rows L2
theorem law_N {P : Program} {w : World} {K : PySem.W.Frag} {mg mb : Str → Option Value} {k : Nat} {fa a : Addr} {fd : FuncData} {x : Str} {sp : Sp} {s1 : Shared} {vs : List Value} {ns : List Int}
    (KX : K.In s1.heap) (hns : s1.heap.Ns mainGlobals mg) (hb : s1.heap.Ns builtinsNs mb) (hbb : ∀ x : Str, x ≠ "__name__" → mb x = bootBuiltins x) (hlim : s1.heap.NoLimit) (hg : s1.gens = #[])
    (ha : s1.heap.get? a = some { cls := .type "list", data := .seq vs.toArray }) (hi : IntsAre vs ns) (hl : ns.length ≤ sizeLine) (hr : Room k callerA)
    (Fn : ∀ base : Heap, K.In base → base.Ns mainGlobals mg → FnN P w K mg base k fa fd [x] sp) (hbind : ∀ (s : Shared) (u : Value), BindsTo s fd ⟨[u], []⟩ [(x, u)])
    (hsp : ∀ H : Hp, Scr K H a (ns.map V.int) → sp [.ref a] H (fun v _ => v = .bl true) fun _ _ _ => False) :
    codeAny (model P w) callerA (.call (.ref fa) ⟨[.ref a], []⟩) (fun r s' => r = .ok (.ret (.bool true)) ∧ OldK s1.heap s'.heap ∧ s'.os = s1.os ∧ AllBare s'.gens) s1 := by
  have rv := vals_ints hi
  have lenV := hi.length
  let ob : Obj := { cls := .type "list", data := .seq vs.toArray }
  let Hs : Hp := fun b => if b = a ∧ K.lookup a = none then some (.frz ob (.lst (ns.map V.int))) else none
  have at_ : ∀ b u, Hs b = some u → b = a ∧ K.lookup a = none ∧ u = .frz ob (.lst (ns.map V.int)) := fun b u q => by
    by_cases c : b = a ∧ K.lookup a = none
    · have q2 : some (HO.frz ob (.lst (ns.map V.int))) = some u := (if_pos c).symm.trans q
      exact ⟨c.1, c.2, (Option.some.inj q2).symm⟩
    · have q2 : (none : Option HO) = some u := (if_neg c).symm.trans q
      cases q2
  have hS : Scr K Hs a (ns.map V.int) := by
    cases hk : K.lookup a with
    | none => exact .inl ⟨ob, if_pos ⟨rfl, hk⟩⟩
    | some o =>
      have e := KX a o hk
      rw [ha] at e
      cases e
      exact .inr ⟨_, vs.toArray, _, hk, rfl, rfl, rfl, by rw [List.size_toArray, lenV]; exact hl, by simpa using rv⟩
  have hok : HOk P w Hs s1.heap := fun b u q => by
    obtain ⟨rfl, _, rfl⟩ := at_ b u q
    exact ⟨ha, by rw [List.length_map]; exact hl, vs, _, rv, ha⟩
  have hid : ∀ {b : Addr} {o : Obj}, s1.heap.get? b = some o → (b = a → K.lookup a ≠ none) → (hidT s1.heap Hs).get? b = some o := fun {b o} e n => by
    refine hidT_get e ?_
    cases q : Hs b with
    | none => rfl
    | some u =>
      obtain ⟨e1, e2, _⟩ := at_ b u q
      exact absurd e2 (n e1)
  have nsK : ∀ {b : Addr} {m : Str → Option Value}, s1.heap.Ns b m → (hidT s1.heap Hs).Ns b m := fun {b m} ⟨o, es, ep, e, d, rr⟩ => by
    refine ⟨o, es, ep, hid e ?_, d, rr⟩
    rintro rfl
    rw [ha] at e
    cases e
    cases d
  have hKb : K.In (hidT s1.heap Hs) := fun b o e => hid (KX b o e) (fun z => by rw [← z, e]; exact fun q => nomatch q)
  have hM : Mod K mg (hidT s1.heap Hs) := by
    refine ⟨hKb, nsK hns, ⟨mb, nsK hb, hbb⟩, ?_⟩
    obtain ⟨mc, h1, h2⟩ := hlim
    exact ⟨mc, nsK h1, h2⟩
  have e0 : Env0 P w K mg (hidT s1.heap Hs) callerA [] s1 Hs := ⟨rfl, hM, fun b o e => of_hidT e, Nat.le_of_eq (hidT_size _ _), trivial, fun b z => absurd (show b ∈ ([] : List Addr) from z) (by simp), hok, .of_eq hg⟩
  refine codeAny_mono ((Fn _ hKb (nsK hns)).run callerA [] s1 Hs ⟨[.ref a], []⟩ [.ref a] [.ref a] _ _ rfl hr e0 (hbind s1 (.ref a)) (.cons rfl .nil) (hsp Hs hS)) ?_
  intro r s' h
  cases r with
  | error e =>
    obtain ⟨_, _, _, _, _, _, _, _, _, _, _, _, z⟩ := h
    exact z.elim
  | ok fl =>
    cases fl with
    | next => exact h.elim
    | brk => exact h.elim
    | cont => exact h.elim
    | ret u =>
      obtain ⟨v, H', os, bare, un, hok', r', q⟩ := h
      have q' : v = .bl true := q
      subst q'
      obtain rfl : u = Value.bool true := r'
      refine ⟨rfl, OldK.of_keep fun b o e => ?_, os, bare⟩
      cases q : Hs b with
      | none => exact un.keep b o e q (fun z => absurd (show b ∈ ([] : List Addr) from z) (by simp)) (by simp)
      | some u =>
        obtain ⟨e1, e2, e3⟩ := at_ b u q
        subst e3
        have z2 := un.frzs b ob _ q
        obtain ⟨g1, _⟩ := hok b _ q
        obtain ⟨g2, _⟩ := hok' b _ z2
        rw [e] at g1
        cases g1
        exact g2
theorem walk_endN {l : PySem.W.OpenLaw} {n k : Nat} {q : Program} {loose : List Str} {XP : (Str → Option Value) → Heap → Prop} {YP : World → Heap → Prop} {d : DefRec} {x : Str}
    (hn : l.most = some n) (hn2 : n ≤ sizeLine) (hdf : d.params.defaults = []) (hr : Room k callerA)
    (Fx : ∀ (w : World) (mg : Str → Option Value) (fa : Addr) (h : Heap), YP w h → h.Ns mainGlobals mg → mg d.name = some (.ref fa) →
      ∃ (K : PySem.W.Frag) (fd : FuncData) (sp : Sp), K.In h ∧ (∀ (s : Shared) (u : Value), BindsTo s fd ⟨[u], []⟩ [(x, u)]) ∧
        (∀ (H : Hp) (a : Addr) (ns : List Int), ns.length ≤ n → (∀ z ∈ ns, Builtin.Int.intBits z ≤ 1048576) → Scr K H a (ns.map V.int) → sp [.ref a] H (fun v _ => v = .bl true) fun _ _ _ => False) ∧
        ∀ base : Heap, K.In base → base.Ns mainGlobals mg → FnN l.prog w K mg base k fa fd [x] sp) :
    PySem.W.WalkO q loose XP YP l.row.toRowW d [] (fun f vs => PySem.call f vs) := by
  refine Att.attach_callB hn hdf ?_
  intro w s0 s1 mg mb fa o pm cd doc a vs ns G Y ho hd hcd hmg hobj hints hlen hbits hg
  obtain ⟨K, fd, sp, KX, hb, hsp, hF⟩ := Fx w mg fa _ Y G.T.g hmg
  exact law_N KX G.T.g G.T.b G.T.builtins G.T.nolimit hg hobj hints (Nat.le_trans hlen hn2) hr hF hb (fun H hS => hsp H a ns hlen hbits hS)
theorem rp_intsA {K : PySem.W.Frag} {H : Hp} {W m : List Addr} : ∀ ns : List Int, Rp K H W m (ns.map V.int) (ns.map AV.int) []
  | [] => .nil
  | _ :: ns => .int (rp_intsA ns)
theorem law_sp {K : PySem.W.Frag} {f : Fn} {H : Hp} {a : Addr} {ns : List Int} (h : ∃ S, f [.scr (ns.map AV.int)] [] = .ok (.bl true) S) (hS : Scr K H a (ns.map V.int)) : spM K [] 1 f [.ref a] H (fun v _ => v = .bl true) fun _ _ _ => False := by
  obtain ⟨S, e⟩ := h
  refine ⟨rfl, [], [], [], [.scr (ns.map AV.int)], [], .scr hS (rp_intsA ns) .nil, .nil, .nil, (fun _ z => nomatch z), (fun _ z => nomatch z), ?_⟩
  rw [e]
  intro v H' hp
  obtain ⟨m', am', r, _⟩ := hp
  exact r.bl_i
theorem own_N {P : Program} {w : World} {K : PySem.W.Frag} {mg : Str → Option Value} {base : Heap} {N : List Str} {qual : Str} {scope : Scope} {f : Addr} {cd : Value} {A : Around} {outer : List Env} {s : Shared} {H : Hp} {E : XK} :
    PassesOwn (model P w) (cxN P w K mg base N qual scope f cd A outer s H E).A (cxN P w K mg base N qual scope f cd A outer s H E).env (cxN P w K mg base N qual scope f cd A outer s H E).xe := passes_of rfl
end Fk
/-! ## short words for what is printed -/
namespace Fk
open PySem PySem.Spec PyProof.Rows L2
def eFrz (m : M AV) : M AV := fun st => (m st).bind fun d s1 => ofO (frz d) s1
def pAlt (a b : Ss → Option AV) : Ss → Option AV := fun st => match a st with
  | some d => some d
  | none => b st
section
variable {X : Cx} {Γ : Gam} {W : WX} {σ : L2.St} {H : Hp} {st : Ss} {p : Pd} {K : PySem.W.Frag} {pos : Pos} {e : Expr}
theorem sv (i : Nat) {x : Str} (hN : X.N[i]? = some x := by rfl) (hv : Vis X.env.scope x := by first | exact Or.inl rfl | exact Or.inr (Or.inl rfl) | exact Or.inr (Or.inr rfl)) (hd : (x == ("__debug__" : Str)) = false := by decide) (hcd : (x == ("__classdict__" : Str)) = false := by decide) : PE X (.Name x pos) (rdE X.K Γ W (eVar i)) := s_var hN hv hd hcd
theorem qv (i : Nat) {x : Str} (hN : X.N[i]? = some x := by rfl) (hv : Vis X.env.scope x := by first | exact Or.inl rfl | exact Or.inr (Or.inl rfl) | exact Or.inr (Or.inr rfl)) (hd : (x == ("__debug__" : Str)) = false := by decide) (hcd : (x == ("__classdict__" : Str)) = false := by decide) : PE X (.Name x pos) (rdP X.K Γ (pVar i)) := q_var hN hv hd hcd
theorem s_frz {m : M AV} (h : PE X e (rdO X.K Γ W m)) : PE X e (rdE X.K Γ W (eFrz m)) := by
  refine pe_imp h fun σ H Q h => ?_
  obtain ⟨st, p, R, h⟩ := h
  refine ⟨st, p, R, ?_⟩
  unfold eFrz at h
  cases ea : m st with
  | bad => rw [ea] at h; exact h
  | err c s1 => rw [ea] at h; exact h
  | ok d s1 =>
    rw [ea] at h
    simp only [Res.bind_ok] at h
    intro v H1 R1
    cases ef : frz d with
    | none => simp only [ef, ofO_none] at h
    | some d' =>
      simp only [ef, ofO_some] at h
      exact h v H1 (R1.frzO ef)
theorem q_alt {a b : Ss → Option AV} (h1 : PE X e (rdP X.K Γ a)) (h2 : PE X e (rdP X.K Γ b)) : PE X e (rdP X.K Γ (pAlt a b)) := by
  refine pe_imp (pe_or' h1 h2) fun σ H Q h => ?_
  obtain ⟨st, p, d, R, e, h⟩ := h
  unfold pAlt at e
  cases ea : a st with
  | some d' =>
    rw [ea] at e
    cases e
    exact .inl ⟨st, p, d, R, ea, h⟩
  | none =>
    rw [ea] at e
    exact .inr ⟨st, p, d, R, e, h⟩
theorem c_len : CallR X (.builtin "len") (uLen X.K) := CallR.or call_len call_lenD
/-- name = [..] on one line, the name a builder -/
theorem s_asgLcO {i : Nat} {y : Str} {py spos : Pos} {elt tg iter : Expr} {ifs : List Expr} {scope : Scope} {own : List (Str × Nat)} {mi : M (List AV)} {ns : List Nat} {t : Tg} {mt : M Bool} {me : M AV} (hc : X.calm = true) (hN : X.N.Nodup) (hy : X.N[i]? = some y) (hyl : X.env.scope.names.lookup y = some .local)
    (hsw : swapsWith (.ListComp elt [⟨tg, iter, ifs, 0⟩] scope pos) (some (.Name y py)) spos.line X.env = pure true) (hi : PI X tg iter (rdI X.K Γ W mi)) (ok : BlkOk X.N X.env.scope scope own)
    (hg : ∀ (s : Shared) (H : Hp) (C : Addr) (cl : List (Str × Addr)) (fp : List Addr), PG (X.blk s H scope (compEnvC scope cl C X.env) fp) tg (rdG X.K Γ ns t)) (ht : ∀ (s : Shared) (H : Hp) (C : Addr) (cl : List (Str × Addr)) (fp : List Addr), PTs (X.blk s H scope (compEnvC scope cl C X.env) fp) ifs (rdT X.K Γ noX mt))
    (he : ∀ (s : Shared) (H : Hp) (C : Addr) (cl : List (Str × Addr)) (fp : List Addr), PE (X.blk s H scope (compEnvC scope cl C X.env) fp) elt (rdE X.K Γ noX me)) (hns : ∀ i ∈ ns, i ∈ own.map (·.2) := by decide) (hs : ∀ x, foldedSetIterable iter X.env x = pure x := by intro _; rfl) :
    PS X (.Assign [.Name y py] (.ListComp elt [⟨tg, iter, ifs, 0⟩] scope pos) spos) (rdS X.K Γ W (sAsgOw i (eLc true (lcM mi t mt me (own.map (·.2)))))) := by
  refine ps_imp (ps_setLc hc hN hy hyl hsw hi ok hg ht he hs) fun D σ H h => ?_
  obtain ⟨st, p, R, hp, h⟩ := h
  refine lc_in hns ⟨st, p, R, ?_⟩
  unfold sAsgOw at h
  cases ea : eLc true (lcM mi t mt me (own.map (·.2))) st with
  | bad => rw [ea] at h; exact h
  | err c s1 => rw [ea] at h; exact fun H' R' => h σ H' (hp ▸ R')
  | ok d s1 =>
    rw [ea] at h
    simp only [Res.bind_ok] at h
    by_cases c : i < s1.r.length
    · rw [if_pos c] at h
      intro v H' R'
      rw [hp] at R'
      exact h _ H' (R'.putO i c)
    · rw [if_neg c] at h
      exact h.elim
end
section
variable {X : Cx} {Γ : Gam} {W : WX} {pos apos q : Pos} {o e : Expr} {es : List Expr} {x : Str} {k j n : Nat} {C nm : Str} {ps : List Str} {ds : List AV} {f : Fn} {mo : M AV} {ma : M (List AV)}
theorem sCl (F : CalN X.prog X.w X.K X.mg X.base Γ.T k x ps ds f) (hG : X.A.guards = some []) (hr : Room j X.A) (hk : k ≤ j) (hg : Gl X x) (tk : L2N.Takes X W) (ha : PA X (e :: es) (rdA X.K Γ W ma)) (hn : ps.length = n := by rfl)
    (hdb : (x == ("__debug__" : Str)) = false := by decide) (he : starEach (e :: es) X.env = (false, eval e X.env) :: starEach es X.env := by rfl) (hpl : (backTo pos (starEach es X.env)).any (·.1) = false := by rfl) :
    PE X (.Call (.Name x q) (e :: es) [] pos) (rdE X.K Γ W (eCall n f ds ma)) := by
  subst hn
  exact s_call F hG hr hk hg tk ha hdb he hpl
theorem sCl0 (F : CalN X.prog X.w X.K X.mg X.base Γ.T k x ps ds f) (hG : X.A.guards = some []) (hr : Room j X.A) (hk : k ≤ j) (hg : Gl X x) (tk : L2N.Takes X W) (hn : ps.length = n := by rfl)
    (hdb : (x == ("__debug__" : Str)) = false := by decide) : PE X (.Call (.Name x q) [] [] pos) (rdE X.K Γ W (eCall n f ds aNil)) := by
  subst hn
  exact s_call0 F hG hr hk hg tk hdb
theorem sMt {pl : Sem Bool} (F : MetN X.prog X.w X.K X.mg X.base Γ.T k C nm ps ds f) (hG : X.A.guards = some []) (hr : Room j X.A) (hk : k ≤ j) (tk : L2N.Takes X W) (ho : PE X o (rdE X.K Γ W mo)) (ha : PA X (e :: es) (rdA X.K Γ W ma)) (hn : ps.length = n := by rfl)
    (hst : starEach (e :: es) X.env = (false, eval e X.env) :: starEach es X.env := by rfl) (hpl : (backTo pos (starEach es X.env)).any (·.1) = false := by rfl)
    (ht : eval (.Call (.Attribute o nm apos) (e :: es) [] pos) X.env = (do
      let ov ← eval o X.env
      standAt apos.atName
      let (f, first) ← holding [ov] (getMethod ov nm pl)
      callWith pos f first (backTo pos (starEach (e :: es) X.env)) (backToKw pos (keywordEach [] X.env))) := by rfl) :
    PE X (.Call (.Attribute o nm apos) (e :: es) [] pos) (rdE X.K Γ W (eMeth C nm n f ds mo ma)) := by
  subst hn
  exact s_meth (pl := pl) F hG hr hk tk ho ha hst hpl ht
theorem sMt0 {pl : Sem Bool} (F : MetN X.prog X.w X.K X.mg X.base Γ.T k C nm ps ds f) (hG : X.A.guards = some []) (hr : Room j X.A) (hk : k ≤ j) (tk : L2N.Takes X W) (ho : PE X o (rdE X.K Γ W mo)) (hn : ps.length = n := by rfl)
    (ht : eval (.Call (.Attribute o nm apos) [] [] pos) X.env = (do
      let ov ← eval o X.env
      standAt apos.atName
      let (f, first) ← holding [ov] (getMethod ov nm pl)
      callWith pos f first (backTo pos (starEach [] X.env)) (backToKw pos (keywordEach [] X.env))) := by rfl) :
    PE X (.Call (.Attribute o nm apos) [] [] pos) (rdE X.K Γ W (eMeth C nm n f ds mo aNil)) := by
  subst hn
  exact s_meth0 (pl := pl) F hG hr hk tk ho ht
theorem sMk (F : MakN X.prog X.w X.K X.mg X.base Γ.T k C ps ds f) (hG : X.A.guards = some []) (hr : Room j X.A) (hk : k + 1 ≤ j) (hg : Gl X C) (tk : L2N.Takes X W) (ha : PA X (e :: es) (rdA X.K Γ W ma)) (hn : ps.length = n := by rfl)
    (hdb : (C == ("__debug__" : Str)) = false := by decide) (he : starEach (e :: es) X.env = (false, eval e X.env) :: starEach es X.env := by rfl) (hpl : (backTo pos (starEach es X.env)).any (·.1) = false := by rfl) :
    PE X (.Call (.Name C q) (e :: es) [] pos) (rdE X.K Γ W (eMake C n f ds ma)) := by
  subst hn
  exact s_make F hG hr hk hg tk ha hdb he hpl
end
section
variable {X : Cx} {Γ : Gam} {W : WX} {pos : Pos} {o : Expr}
theorem sStI {fo : Option (Str × Str)} {ek ev : Expr} {mv : M AV} {mo mk : Ss → Option AV} {pos' : Pos} (hu : X.A.units + 1 < cLine) (ho : PE X o (rdB X.K Γ mo fo)) (hk : PE X ek (rdP X.K Γ mk)) (hv : PE X ev (rdE X.K Γ W mv))
    (hsw : swapsWith ev (some (.Subscript o ek pos')) pos.line X.env = pure false := by rfl)
    (hs1 : swapsWithSole [.Subscript o ek pos'] ev pos.line X.env = pure false := by rfl) (hw1 : swappedStores [.Subscript o ek pos'] ev X.env = pure none := by rfl)
    (ha : ∀ v, assign (.Subscript o ek pos') X.env v = (do
      let ov ← holding [v] (eval o X.env)
      let iv ← holding [v, ov] (eval ek X.env)
      standAt pos'
      holding [v, ov, iv] (setItem ov iv v)
      release [v, ov, iv] []) := by intro _; rfl) : PS X (.Assign [.Subscript o ek pos'] ev pos) (rdS X.K Γ W (sSetP false fo mo mk mv)) := s_setP (w := false) hu ho hk hv hsw hs1 hw1 ha
theorem sStO {fo : Option (Str × Str)} {ek ev : Expr} {mv : M AV} {mo mk : Ss → Option AV} {pos' : Pos} (hu : X.A.units + 1 < cLine) (ho : PE X o (rdB X.K Γ mo fo)) (hk : PE X ek (rdP X.K Γ mk)) (hv : PE X ev (rdO X.K Γ W mv))
    (hsw : swapsWith ev (some (.Subscript o ek pos')) pos.line X.env = pure false := by rfl)
    (hs1 : swapsWithSole [.Subscript o ek pos'] ev pos.line X.env = pure false := by rfl) (hw1 : swappedStores [.Subscript o ek pos'] ev X.env = pure none := by rfl)
    (ha : ∀ v, assign (.Subscript o ek pos') X.env v = (do
      let ov ← holding [v] (eval o X.env)
      let iv ← holding [v, ov] (eval ek X.env)
      standAt pos'
      holding [v, ov, iv] (setItem ov iv v)
      release [v, ov, iv] []) := by intro _; rfl) : PS X (.Assign [.Subscript o ek pos'] ev pos) (rdS X.K Γ W (sSetP true fo mo mk mv)) := s_setP (w := true) hu ho hk hv hsw hs1 hw1 ha
end
/-- an empty tuple that stands -/
def nilT (K : PySem.W.Frag) (a : Addr) : Bool := match K.lookup a with
  | some ⟨.type c, _, .seq its _, _⟩ => decide (c = "tuple") && decide (its.size = 0)
  | _ => false
theorem nilT_ok {K : PySem.W.Frag} {a : Addr} (h : nilT K a = true) (H : Hp) : SqT K H a [] := by
  unfold nilT at h
  cases q : K.lookup a with
  | none => rw [q] at h; cases h
  | some o =>
    obtain ⟨oc, od, dt, osl⟩ := o
    rw [q] at h
    cases oc with
    | type c =>
      cases dt with
      | seq its n =>
        have h2 : (decide (c = "tuple") && decide (its.size = 0)) = true := h
        rw [Bool.and_eq_true] at h2
        have e1 : c = "tuple" := of_decide_eq_true h2.1
        have e2 : its.size = 0 := of_decide_eq_true h2.2
        subst e1
        refine .inr ⟨_, its, n, q, rfl, rfl, by rw [e2]; exact Nat.zero_le _, ?_⟩
        have e3 : its = #[] := Array.size_eq_zero_iff.mp e2
        subst e3
        exact .nil
      | _ => cases h
    | _ => cases h
theorem rp_tupC {K : PySem.W.Frag} {a : Addr} {us : List V} {xs : List AV} (h : ∀ H, SqT K H a us) (r : ∀ H W m, Rp K H W m us xs []) : ∀ H W m, Rp K H W m [.ref a] [.tup xs] [] := fun H W m => .tup (h H) (r H W m) .nil
end Fk
namespace Fk
open PySem PySem.Spec PyProof.Rows L2
/-! ### mirrors -/
def m_is_whole : Fn := fnM 0 ((sRet (eAnd (eIsi "int" (eVar 0)) (e1 oNot (eIsi "bool" (eVar 0))))))
def m_is_within : Fn := fnM 0 ((sRet (eAnd (eCall 1 m_is_whole [] (aCons (eVar 0) aNil)) (eChn oLe oLe (eVar 1) (eVar 0) (eVar 2)))))
def m_rises : Fn := fnM 2 ((sRet (eB fAll (aCons (eLc false (lcM (iArg zipA (aCons (eVar 0) (aCons (eSl (eVar 0) (some (eC (.int 1))) none) aNil))) (gT 2 (gCons' (gN 1) (gCons' (gN 2) gNil'))) tTrue (e2P oLt (pVar 1) (pVar 2)) [1, 2])) aNil))))
def m_is_fault : Fn := fnM 0 ((sSeq (sIf (tOrM (tOf (e2P oEq (pVar 0) (pC (.tup [.str "cut"])))) (tOf (e2P oEq (pVar 0) (pC (.tup [.str "bad"]))))) (sRet (eC (.bl true))) sNx)
    (sSeq (sIf (tOrM (tNotM (tOf (eIsi "tuple" (eVar 0)))) (tOrM (tOf (e2 oNe (eBP fLen (pCons (pVar 0) pNil)) (eC (.int 2)))) (tOrM (tNotM (tOf (eIsi "str" (eP (pIx (pVar 0) (pC (.int 0))))))) (tOf (e2P oNe (pIx (pVar 0) (pC (.int 0))) (pC (.str "bit"))))))) (sRet (eC (.bl false))) sNx)
    (sRet (eCall 3 m_is_within [] (aCons (eP (pIx (pVar 0) (pC (.int 1)))) (aCons (eC (.int 0)) (aCons (e2 oSub (eC (.int 47)) (eC (.int 1))) aNil))))))))
def m_is_weather : Fn := fnM 3 ((sSeq (sIf (tOrM (tNotM (tOf (eIsi "tuple" (eVar 0)))) (tOf (e2 oGt (eBP fLen (pCons (pVar 0) pNil)) (eC (.int 40))))) (sRet (eC (.bl false))) sNx)
    (sSeq (sIf (tNotM (tOf (eB fAll (aCons (eLc false (lcM (iOf (eVar 0)) (gN 1) tTrue (eAnd (eIsi "tuple" (eVar 1)) (e2 oEq (eBP fLen (pCons (pVar 1) pNil)) (eC (.int 2)))) [1])) aNil)))) (sRet (eC (.bl false))) sNx)
    (sSeq (sIf (tNotM (tOf (eB fAll (aCons (eLc false (lcM (iOf (eVar 0)) (gT 2 (gCons' (gN 2) (gCons' (gN 3) gNil'))) tTrue (eAnd (eCall 3 m_is_within [] (aCons (eVar 2) (aCons (eC (.int 0)) (aCons (eC (.int 9999)) aNil)))) (eCall 1 m_is_fault [] (aCons (eVar 3) aNil))) [2, 3])) aNil)))) (sRet (eC (.bl false))) sNx)
    (sRet (eCall 1 m_rises [] (aCons (eLc false (lcM (iOf (eVar 0)) (gT 2 (gCons' (gN 2) (gCons' (gN 3) gNil'))) tTrue (eVar 2) [2, 3])) aNil)))))))
def m_need_weather : Fn := fnM 0 ((sIf (tNotM (tOf (eCall 1 m_is_weather [] (aCons (eVar 0) aNil)))) (sRaise "NoWeather") sNx))
def m_need_count : Fn := fnM 0 ((sIf (tNotM (tOf (eCall 3 m_is_within [] (aCons (eVar 0) (aCons (eC (.int 1)) (aCons (eVar 1) aNil)))))) (sRaise "NoNumber") sNx))
def m_Flash___init__ : Fn := fnM 1 ((sSeq (sExp (eCall 2 m_need_count [] (aCons (eVar 1) (aCons (eC (.int 8)) aNil))))
    (sSeq (sExp (eCall 2 m_need_count [] (aCons (eVar 2) (aCons (eC (.int 8)) aNil))))
    (sSeq (sExp (eCall 1 m_need_weather [] (aCons (eVar 3) aNil)))
    (sSeq (sFld "Flash" "cells" (pVar 0) (eLn (lcM (iArg rng1 (aCons (eVar 1) aNil)) (gN 4) tTrue (e2 oMulO (eLst (aCons (eC .non) aNil)) (eVar 2)) [4])))
    (sSeq (sFld "Flash" "worn" (pVar 0) (e2 oMulO (eLst (aCons (eC (.int 0)) aNil)) (eVar 1)))
    (sSeq (sFld "Flash" "failed" (pVar 0) (e2 oMulO (eLst (aCons (eC (.bl false)) aNil)) (eVar 1)))
    (sSeq (sFld "Flash" "faults" (pVar 0) (eFrz (e1 fDict (eFrz (eBP (fL true fList) (pCons (pVar 3) pNil))))))
    (sSeq (sFld "Flash" "count" (pVar 0) (eC (.int 0)))
    (sFld "Flash" "power" (pVar 0) (eC (.bl true))))))))))))
def m_Flash_need_power : Fn := fnM 0 ((sIf (tNotM (tOf (eP (pFld "Flash" "power" (pVar 0))))) (sRaise "Off") sNx))
def m_Flash_need_block : Fn := fnM 0 ((sIf (tNotM (tOf (eCall 3 m_is_within [] (aCons (eVar 1) (aCons (eC (.int 0)) (aCons (e2 oSub (eBP fLen (pCons (pFld "Flash" "cells" (pVar 0)) pNil)) (eC (.int 1))) aNil)))))) (sRaise "NoBlock") sNx))
def m_Flash_fault : Fn := fnM 1 ((sSeq (sAsg 1 (eP (pGet (pFld "Flash" "faults" (pVar 0)) (pFld "Flash" "count" (pVar 0)) (pC (.tup [.str "fine"])))))
    (sSeq (sFAug "Flash" "count" (eVar 0) (eC (.int 1)))
    (sRet (eVar 1)))))
def m_Flash_go_off : Fn := fnM 0 ((sSeq (sFld "Flash" "power" (pVar 0) (eC (.bl false)))
    (sRaise "Off")))
def m_Flash_fails : Fn := fnM 0 ((sSeq (sSetP false (some ("Flash", "failed")) (pVar 0) (pVar 1) (eC (.bl true)))
    (sRet (eC (.bl false)))))
def m_Flash_wipe : Fn := fnM 2 ((sSeq (sExp (eMeth "Flash" "need_power" 1 m_Flash_need_power [] (eVar 0) aNil))
    (sSeq (sExp (eMeth "Flash" "need_block" 2 m_Flash_need_block [] (eVar 0) (aCons (eVar 1) aNil)))
    (sSeq (sIf (tOf (eP (pIx (pFld "Flash" "failed" (pVar 0)) (pVar 1)))) (sRaise "Bad") sNx)
    (sSeq (sPar 2 3 (xI (eMeth "Flash" "fault" 1 m_Flash_fault [] (eVar 0) aNil)) (xI (eBP fLen (pCons (pIx (pFld "Flash" "cells" (pVar 0)) (pVar 1)) pNil))))
    (sSeq (sIf (tOf (e2P oEq (pVar 2) (pC (.tup [.str "cut"])))) (sSeq (sSetP true (some ("Flash", "cells")) (pVar 0) (pVar 1) (e2 oMulO (eLst (aCons (eC (.str "torn")) aNil)) (eVar 3)))
    (sExp (eMeth "Flash" "go_off" 1 m_Flash_go_off [] (eVar 0) aNil))) sNx)
    (sSeq (sIf (tOf (e2P oEq (pVar 2) (pC (.tup [.str "bad"])))) (sRet (eMeth "Flash" "fails" 2 m_Flash_fails [] (eVar 0) (aCons (eVar 1) aNil))) sNx)
    (sSeq (sSetP true (some ("Flash", "cells")) (pVar 0) (pVar 1) (e2 oMulO (eLst (aCons (eC .non) aNil)) (eVar 3)))
    (sSeq (sAugP (some ("Flash", "worn")) (pVar 0) (pVar 1) (pC (.int 1)))
    (sRet (eC (.bl true))))))))))))
def m_Flash_wipes : Fn := fnM 0 ((sSeq (sExp (eMeth "Flash" "need_block" 2 m_Flash_need_block [] (eVar 0) (aCons (eVar 1) aNil)))
    (sRet (eP (pIx (pFld "Flash" "worn" (pVar 0)) (pVar 1))))))
def m_Flash_is_bad : Fn := fnM 0 ((sSeq (sExp (eMeth "Flash" "need_block" 2 m_Flash_need_block [] (eVar 0) (aCons (eVar 1) aNil)))
    (sRet (eP (pIx (pFld "Flash" "failed" (pVar 0)) (pVar 1))))))
def m_Flash_steps : Fn := fnM 0 ((sRet (eP (pFld "Flash" "count" (pVar 0)))))
def m_Flash_blocks : Fn := fnM 0 ((sRet (eBP fLen (pCons (pFld "Flash" "cells" (pVar 0)) pNil))))
def m_good_blocks : Fn := fnM 1 ((sRet (eLc false (lcM (iArg rng1 (aCons (eMeth "Flash" "blocks" 1 m_Flash_blocks [] (eVar 0) aNil) aNil)) (gN 1) (tNotM (tOf (eMeth "Flash" "is_bad" 2 m_Flash_is_bad [] (eVar 0) (aCons (eVar 1) aNil)))) (eVar 1) [1]))))
def m_worn : Fn := fnM 2 ((sSeq (sIf (tNotM (tOf (eIsC "Flash" [] (eVar 0)))) (sRaise "NoFlash") sNx)
    (sSeq (sAsg 1 (eLc false (lcM (iOf (eCall 1 m_good_blocks [] (aCons (eVar 0) aNil))) (gN 2) tTrue (eMeth "Flash" "wipes" 2 m_Flash_wipes [] (eVar 0) (aCons (eVar 2) aNil)) [2])))
    (sRet (eIf (tOf (e2 oNe (eVar 1) (eLst aNil))) (eTup (aCons (eBP fMinL (pCons (pVar 1) pNil)) (aCons (eBP fMaxL (pCons (pVar 1) pNil)) aNil))) (eC .non))))))
def m__law_cell_at : Fn := fnM 0 ((sSeq (sIf (tOf (e2 oLt (eVar 1) (eBP fLen (pCons (pVar 0) pNil)))) (sRet (eP (pIx (pVar 0) (pVar 1)))) sNx)
    (sRet (eC (.int 0)))))
def m__law_state : Fn := fnM 1 ((sSeq (sAsg 2 (eCall 2 m__law_cell_at [] (aCons (eVar 0) (aCons (eVar 1) aNil))))
    (sRet (eProm (eLstO (aCons (eB fMax2 (aCons (eC (.int 0)) (aCons (e2 oSub (eVar 2) (e2 oPow (eC (.int 10)) (eC (.int 18)))) aNil))) (aCons (e2 oAdd (e2 oMod (eVar 2) (eC (.int 2147483629))) (eC (.int 1))) (aCons (eC (.int 0)) aNil))))))))
def m__law_choice : Fn := fnM 2 ((sSeq (sIf (tOf (e2P oGt (pIx (pVar 0) (pC (.int 0))) (pC (.int 0)))) (sSeq (sAsg 2 (e2 oMod (eP (pIx (pVar 0) (pC (.int 0)))) (eVar 1)))
    (sSeq (sSetP false none (pVar 0) (pC (.int 0)) (e2 oFdv (eP (pIx (pVar 0) (pC (.int 0)))) (eVar 1)))
    (sRet (eVar 2)))) sNx)
    (sSeq (sSetP false none (pVar 0) (pC (.int 2)) (e2 oAdd (eP (pIx (pVar 0) (pC (.int 2)))) (eC (.int 1))))
    (sSeq (sSetP false none (pVar 0) (pC (.int 1)) (e2 oMod (e2 oAdd (e2 oAdd (e2 oMul (eP (pIx (pVar 0) (pC (.int 1)))) (eC (.int 48271))) (eC (.int 29))) (eP (pIx (pVar 0) (pC (.int 2))))) (eC (.int 2147483647))))
    (sSeq (sAsg 3 (e2 oMod (e2 oAdd (e2 oAdd (e2 oMul (eP (pIx (pVar 0) (pC (.int 1)))) (eP (pIx (pVar 0) (pC (.int 1))))) (e2 oMul (eC (.int 39373)) (eP (pIx (pVar 0) (pC (.int 1)))))) (eC (.int 7))) (eC (.int 2147483629))))
    (sSeq (sAsg 3 (e2 oMod (e2 oAdd (e2 oMul (eVar 3) (eVar 3)) (e2 oMul (eC (.int 50021)) (eVar 3))) (eC (.int 2147483587))))
    (sRet (e2 oMod (e2 oFdv (eVar 3) (eC (.int 8))) (eVar 1)))))))))
def m__law_weather : Fn := fnM 4 ((sSeq (sAsgOw 3 eDnew)
    (sSeq (sFor (iArg rng1 (aCons (eCall 2 m__law_choice [] (aCons (eVar 0) (aCons (eC (.int 7)) aNil))) aNil)) (gN 4) (sSeq (sAsg 5 (eIx (eVar 2) (eCall 2 m__law_choice [] (aCons (eVar 0) (aCons (eBP fLen (pCons (pVar 2) pNil)) aNil)))))
    (sSetB 3 (eCall 2 m__law_choice [] (aCons (eVar 0) (aCons (eVar 1) aNil))) (eIf (tOf (e2P oEq (pVar 5) (pC (.str "bit")))) (eTup (aCons (eC (.str "bit")) (aCons (eCall 2 m__law_choice [] (aCons (eVar 0) (aCons (eC (.int 47)) aNil))) aNil))) (eTup (aCons (eVar 5) aNil))))))
    (sRet (eB fTup (aCons (eLc false (lcM (iOf (eFrz (eBP (fL true fSrt) (pCons (pVar 3) pNil)))) (gN 6) tTrue (eTup (aCons (eVar 6) (aCons (eP (pIx (pVar 3) (pVar 6))) aNil))) [6])) aNil))))))
def m__law_same : Fn := fnM 0 ((sRet (e2 oEq (eBP fRepr (pCons (pVar 0) pNil)) (eBP fRepr (pCons (pVar 1) pNil)))))
def m__law_wiped : Fn := fnM 4 ((sSeq (sPar 3 4 (xI (eMake "Flash" 4 m_Flash___init__ [] (aCons (eVar 1) (aCons (eC (.int 2)) (aCons (eVar 2) aNil))))) (xO (e2 oMulO (eLst (aCons (eC (.int 0)) aNil)) (eVar 1))))
    (sSeq (sFor (iArg rng1 (aCons (eC (.int 12)) aNil)) (gN 5) (sSeq (sAsg 6 (eCall 2 m__law_choice [] (aCons (eVar 0) (aCons (eVar 1) aNil))))
    (sIf (tOf (e2P oNis (pIx (pVar 4) (pVar 6)) (pC .non))) (sSetB 4 (eVar 6) (eIf (tOf (eMeth "Flash" "wipe" 2 m_Flash_wipe [] (eVar 3) (aCons (eVar 6) aNil))) (e2 oAdd (eP (pIx (pVar 4) (pVar 6))) (eC (.int 1))) (eC .non))) sNx)))
    (sRet (eTup (aCons (eVar 3) (aCons (eVar 4) aNil)))))))
def m_law : Fn := fnM 12 ((sSeq (sFor (iArg rng1 (aCons (eB fMax2 (aCons (eC (.int 1)) (aCons (eB fMin2 (aCons (eBP fLen (pCons (pVar 0) pNil)) (aCons (eC (.int 5)) aNil))) aNil))) aNil)) (gN 1) (sSeq (sAsg 2 (eCall 2 m__law_state [] (aCons (eVar 0) (aCons (eVar 1) aNil))))
    (sSeq (sAsg 3 (e2 oAdd (eC (.int 1)) (eCall 2 m__law_choice [] (aCons (eVar 2) (aCons (eC (.int 8)) aNil)))))
    (sSeq (sAsg 4 (eB fTup (aCons (eLc false (lcM (iArg rng1 (aCons (eC (.int 12)) aNil)) (gN 11) tTrue (eTup (aCons (eVar 11) (aCons (eTup (aCons (eC (.str "bad")) aNil)) aNil))) [11])) aNil)))
    (sFor (iOf (eLst (aCons (eCall 3 m__law_weather [] (aCons (eVar 2) (aCons (eC (.int 12)) (aCons (eLst (aCons (eC (.str "bad")) (aCons (eC (.str "bit")) aNil))) aNil)))) (aCons (eSl (eVar 4) none (some (eCall 2 m__law_choice [] (aCons (eVar 2) (aCons (eC (.int 13)) aNil))))) (aCons (eTup aNil) aNil))))) (gN 5) (sSeq (sAsgG (gT 2 (gCons' (gN 6) (gCons' (gN 7) gNil'))) (eCall 3 m__law_wiped [] (aCons (eVar 2) (aCons (eVar 3) (aCons (eVar 5) aNil)))))
    (sSeq (sPar 8 9 (xI (eLc false (lcM (iOf (eVar 7)) (gN 12) (tOf (e2P oNis (pVar 12) (pC .non))) (eVar 12) [12]))) (xI (eMeth "Flash" "steps" 1 m_Flash_steps [] (eVar 6) aNil)))
    (sSeq (sAsg 10 (eIf (tOf (e2 oNe (eVar 8) (eLst aNil))) (eTup (aCons (eBP fMinL (pCons (pVar 8) pNil)) (aCons (eBP fMaxL (pCons (pVar 8) pNil)) aNil))) (eC .non)))
    (sIf (tOrM (tNotM (tOf (eCall 2 m__law_same [] (aCons (eLst (aCons (eCall 1 m_worn [] (aCons (eVar 6) aNil)) (aCons (eCall 1 m_worn [] (aCons (eVar 6) aNil)) aNil))) (aCons (eLst (aCons (eVar 10) (aCons (eVar 10) aNil))) aNil))))) (tOf (e2 oNe (eMeth "Flash" "steps" 1 m_Flash_steps [] (eVar 6) aNil) (eVar 9)))) (sRet (eC (.bl false))) sNx)))))))))
    (sRet (eC (.bl true)))))
end Fk
namespace Fk
open PySem PySem.Spec PyProof.Rows L2
/-! ### the text -/
def top (i : Nat) : Stmt := PySem.Challenge.pw_flashkeep_k29_wear_of_blocks.main.body.getD i (.Pass ⟨0, 0, 0, 0⟩)
def clsAt (s : Stmt) (j : Nat) : Stmt := match s with
  | .ClassDef _ _ _ b _ _ _ _ _ _ _ => b.getD j (.Pass ⟨0, 0, 0, 0⟩)
  | _ => .Pass ⟨0, 0, 0, 0⟩
abbrev z_is_whole : Stmt := top 13
abbrev N_is_whole : List Str := ["thing"]
theorem sc_is_whole : FnScope N_is_whole ["thing"] (defScope z_is_whole) := ⟨rfl, rfl, rfl, by decide +kernel, rfl, by decide +kernel, by decide +kernel⟩
abbrev z_is_within : Stmt := top 14
abbrev N_is_within : List Str := ["thing", "least", "most"]
theorem sc_is_within : FnScope N_is_within ["thing", "least", "most"] (defScope z_is_within) := ⟨rfl, rfl, rfl, by decide +kernel, rfl, by decide +kernel, by decide +kernel⟩
abbrev z_rises : Stmt := top 15
abbrev N_rises : List Str := ["row", "one", "later"]
theorem sc_rises : FnScope N_rises ["row"] (defScope z_rises) := ⟨rfl, rfl, rfl, by decide +kernel, rfl, by decide +kernel, by decide +kernel⟩
abbrev z_is_fault : Stmt := top 28
abbrev N_is_fault : List Str := ["thing"]
theorem sc_is_fault : FnScope N_is_fault ["thing"] (defScope z_is_fault) := ⟨rfl, rfl, rfl, by decide +kernel, rfl, by decide +kernel, by decide +kernel⟩
abbrev z_is_weather : Stmt := top 29
abbrev N_is_weather : List Str := ["thing", "row", "step", "fault"]
theorem sc_is_weather : FnScope N_is_weather ["thing"] (defScope z_is_weather) := ⟨rfl, rfl, rfl, by decide +kernel, rfl, by decide +kernel, by decide +kernel⟩
abbrev z_need_weather : Stmt := top 30
abbrev N_need_weather : List Str := ["thing"]
theorem sc_need_weather : FnScope N_need_weather ["thing"] (defScope z_need_weather) := ⟨rfl, rfl, rfl, by decide +kernel, rfl, by decide +kernel, by decide +kernel⟩
abbrev z_need_count : Stmt := top 31
abbrev N_need_count : List Str := ["thing", "most"]
theorem sc_need_count : FnScope N_need_count ["thing", "most"] (defScope z_need_count) := ⟨rfl, rfl, rfl, by decide +kernel, rfl, by decide +kernel, by decide +kernel⟩
abbrev z_Flash___init__ : Stmt := clsAt (top 32) 0
abbrev N_Flash___init__ : List Str := ["self", "blocks", "pages", "weather", "block"]
theorem sc_Flash___init__ : FnScope N_Flash___init__ ["self", "blocks", "pages", "weather"] (defScope z_Flash___init__) := ⟨rfl, rfl, rfl, by decide +kernel, rfl, by decide +kernel, by decide +kernel⟩
abbrev z_Flash_need_power : Stmt := clsAt (top 32) 4
abbrev N_Flash_need_power : List Str := ["self"]
theorem sc_Flash_need_power : FnScope N_Flash_need_power ["self"] (defScope z_Flash_need_power) := ⟨rfl, rfl, rfl, by decide +kernel, rfl, by decide +kernel, by decide +kernel⟩
abbrev z_Flash_need_block : Stmt := clsAt (top 32) 5
abbrev N_Flash_need_block : List Str := ["self", "block"]
theorem sc_Flash_need_block : FnScope N_Flash_need_block ["self", "block"] (defScope z_Flash_need_block) := ⟨rfl, rfl, rfl, by decide +kernel, rfl, by decide +kernel, by decide +kernel⟩
abbrev z_Flash_fault : Stmt := clsAt (top 32) 7
abbrev N_Flash_fault : List Str := ["self", "found"]
theorem sc_Flash_fault : FnScope N_Flash_fault ["self"] (defScope z_Flash_fault) := ⟨rfl, rfl, rfl, by decide +kernel, rfl, by decide +kernel, by decide +kernel⟩
abbrev z_Flash_go_off : Stmt := clsAt (top 32) 8
abbrev N_Flash_go_off : List Str := ["self"]
theorem sc_Flash_go_off : FnScope N_Flash_go_off ["self"] (defScope z_Flash_go_off) := ⟨rfl, rfl, rfl, by decide +kernel, rfl, by decide +kernel, by decide +kernel⟩
abbrev z_Flash_fails : Stmt := clsAt (top 32) 9
abbrev N_Flash_fails : List Str := ["self", "block"]
theorem sc_Flash_fails : FnScope N_Flash_fails ["self", "block"] (defScope z_Flash_fails) := ⟨rfl, rfl, rfl, by decide +kernel, rfl, by decide +kernel, by decide +kernel⟩
abbrev z_Flash_wipe : Stmt := clsAt (top 32) 12
abbrev N_Flash_wipe : List Str := ["self", "block", "fault", "many"]
theorem sc_Flash_wipe : FnScope N_Flash_wipe ["self", "block"] (defScope z_Flash_wipe) := ⟨rfl, rfl, rfl, by decide +kernel, rfl, by decide +kernel, by decide +kernel⟩
abbrev z_Flash_wipes : Stmt := clsAt (top 32) 17
abbrev N_Flash_wipes : List Str := ["self", "block"]
theorem sc_Flash_wipes : FnScope N_Flash_wipes ["self", "block"] (defScope z_Flash_wipes) := ⟨rfl, rfl, rfl, by decide +kernel, rfl, by decide +kernel, by decide +kernel⟩
abbrev z_Flash_is_bad : Stmt := clsAt (top 32) 18
abbrev N_Flash_is_bad : List Str := ["self", "block"]
theorem sc_Flash_is_bad : FnScope N_Flash_is_bad ["self", "block"] (defScope z_Flash_is_bad) := ⟨rfl, rfl, rfl, by decide +kernel, rfl, by decide +kernel, by decide +kernel⟩
abbrev z_Flash_steps : Stmt := clsAt (top 32) 20
abbrev N_Flash_steps : List Str := ["self"]
theorem sc_Flash_steps : FnScope N_Flash_steps ["self"] (defScope z_Flash_steps) := ⟨rfl, rfl, rfl, by decide +kernel, rfl, by decide +kernel, by decide +kernel⟩
abbrev z_Flash_blocks : Stmt := clsAt (top 32) 21
abbrev N_Flash_blocks : List Str := ["self"]
theorem sc_Flash_blocks : FnScope N_Flash_blocks ["self"] (defScope z_Flash_blocks) := ⟨rfl, rfl, rfl, by decide +kernel, rfl, by decide +kernel, by decide +kernel⟩
abbrev z_good_blocks : Stmt := top 34
abbrev N_good_blocks : List Str := ["flash", "block"]
theorem sc_good_blocks : FnScope N_good_blocks ["flash"] (defScope z_good_blocks) := ⟨rfl, rfl, rfl, by decide +kernel, rfl, by decide +kernel, by decide +kernel⟩
abbrev z_worn : Stmt := top 36
abbrev N_worn : List Str := ["flash", "wipes", "block"]
theorem sc_worn : FnScope N_worn ["flash"] (defScope z_worn) := ⟨rfl, rfl, rfl, by decide +kernel, rfl, by decide +kernel, by decide +kernel⟩
abbrev z__law_cell_at : Stmt := top 38
abbrev N__law_cell_at : List Str := ["_law_script", "_law_k"]
theorem sc__law_cell_at : FnScope N__law_cell_at ["_law_script", "_law_k"] (defScope z__law_cell_at) := ⟨rfl, rfl, rfl, by decide +kernel, rfl, by decide +kernel, by decide +kernel⟩
abbrev z__law_state : Stmt := top 39
abbrev N__law_state : List Str := ["_law_script", "_law_k", "_law_cell"]
theorem sc__law_state : FnScope N__law_state ["_law_script", "_law_k"] (defScope z__law_state) := ⟨rfl, rfl, rfl, by decide +kernel, rfl, by decide +kernel, by decide +kernel⟩
abbrev z__law_choice : Stmt := top 40
abbrev N__law_choice : List Str := ["_law_state_here", "_law_many", "_law_found", "_law_mixed"]
theorem sc__law_choice : FnScope N__law_choice ["_law_state_here", "_law_many"] (defScope z__law_choice) := ⟨rfl, rfl, rfl, by decide +kernel, rfl, by decide +kernel, by decide +kernel⟩
abbrev z__law_weather : Stmt := top 41
abbrev N__law_weather : List Str := ["_law_state_here", "_law_limit", "_law_words", "_law_rows", "_law_lap", "_law_word", "_law_step"]
theorem sc__law_weather : FnScope N__law_weather ["_law_state_here", "_law_limit", "_law_words"] (defScope z__law_weather) := ⟨rfl, rfl, rfl, by decide +kernel, rfl, by decide +kernel, by decide +kernel⟩
abbrev z__law_same : Stmt := top 42
abbrev N__law_same : List Str := ["_law_found", "_law_owed"]
theorem sc__law_same : FnScope N__law_same ["_law_found", "_law_owed"] (defScope z__law_same) := ⟨rfl, rfl, rfl, by decide +kernel, rfl, by decide +kernel, by decide +kernel⟩
abbrev z__law_wiped : Stmt := top 43
abbrev N__law_wiped : List Str := ["_law_state_here", "_law_blocks", "_law_weather_here", "_law_flash", "_law_owed_to", "_law_lap", "_law_block"]
theorem sc__law_wiped : FnScope N__law_wiped ["_law_state_here", "_law_blocks", "_law_weather_here"] (defScope z__law_wiped) := ⟨rfl, rfl, rfl, by decide +kernel, rfl, by decide +kernel, by decide +kernel⟩
abbrev z_law : Stmt := top 44
abbrev N_law : List Str := ["_law_script", "_law_k", "_law_state_here", "_law_blocks", "_law_every", "_law_weather_here", "_law_flash", "_law_owed_to", "_law_good", "_law_gone", "_law_owed", "_law_step", "_law_one"]
theorem sc_law : FnScope N_law ["_law_script"] (defScope z_law) := ⟨rfl, rfl, rfl, by decide +kernel, rfl, by decide +kernel, by decide +kernel⟩
/-! ### what the top has written -/
structure Bs (K : PySem.W.Frag) (mg : Str → Option Value) : Prop where
  yes : True
  n_all : mg "all" = none
  n_bool : mg "bool" = none
  n_dict : mg "dict" = none
  n_int : mg "int" = none
  n_isinstance : mg "isinstance" = none
  n_len : mg "len" = none
  n_list : mg "list" = none
  n_max : mg "max" = none
  n_min : mg "min" = none
  n_range : mg "range" = none
  n_repr : mg "repr" = none
  n_sorted : mg "sorted" = none
  n_str : mg "str" = none
  n_tuple : mg "tuple" = none
  n_zip : mg "zip" = none
  r_BAD : mg "BAD" = some (.ref (He.ga K "BAD"))
  p_BAD : ∀ H W m, Rp K H W m [.ref (He.ga K "BAD")] [.tup [.str "bad"]] []
  r_CUT : mg "CUT" = some (.ref (He.ga K "CUT"))
  p_CUT : ∀ H W m, Rp K H W m [.ref (He.ga K "CUT")] [.tup [.str "cut"]] []
  r_FINE : mg "FINE" = some (.ref (He.ga K "FINE"))
  p_FINE : ∀ H W m, Rp K H W m [.ref (He.ga K "FINE")] [.tup [.str "fine"]] []
  c_MOST_BLOCKS : ∃ t, mg "MOST_BLOCKS" = some (.int 8 t)
  c_MOST_FAULTS : ∃ t, mg "MOST_FAULTS" = some (.int 40 t)
  c_MOST_PAGES : ∃ t, mg "MOST_PAGES" = some (.int 8 t)
  c_MOST_STEP : ∃ t, mg "MOST_STEP" = some (.int 9999 t)
  c_TORN : ∃ t, mg "TORN" = some (.str "torn" t)
  c_WORD_BITS : ∃ t, mg "WORD_BITS" = some (.int 47 t)
  r_Flash : mg "Flash" = some (.ref (He.ga K "Flash"))
  x_Bad : ExcF K mg "Bad"
  x_NoBlock : ExcF K mg "NoBlock"
  x_NoFlash : ExcF K mg "NoFlash"
  x_NoNumber : ExcF K mg "NoNumber"
  x_NoWeather : ExcF K mg "NoWeather"
  x_Off : ExcF K mg "Off"
  f_Flash : ClsF K "Flash" ["cells", "count", "failed", "faults", "power", "worn"]
  i_Flash : IsF K "Flash" []
  l_Flash : ∀ D ∈ (["Flash"] : List Str), Cls K (He.ga K D)
/-! ### each def is worth its mirror -/
section
variable {P : Program} {w : World} {K : PySem.W.Frag} {mg : Str → Option Value} {base : Heap} {f : Addr} {fd : FuncData}
theorem ok_is_whole (F : FunD K "is_whole" "is_whole" (defArgs z_is_whole) (defBody z_is_whole) (defScope z_is_whole) [] [] f fd) (B : Bs K mg) : FnN P w K mg base 1 f fd ["thing"] (spM K [] 1 m_is_whole) := by
  have sc := sc_is_whole
  refine okM (T := []) F sc rfl (fun cdv A outer s H E Γ hT hG hr => ?_)
  obtain ⟨U0, H0, A0, m0, T0⟩ := Γ
  obtain rfl : T0 = [] := hT
  have tk := takes_N (P := P) (w := w) (K := K) (mg := mg) (base := base) (N := N_is_whole) (qual := "is_whole") (scope := defScope z_is_whole) (f := f) (cd := cdv) (A := A) (outer := outer) (s := s) (H := H) (E := E)
  have pO := own_N (P := P) (w := w) (K := K) (mg := mg) (base := base) (N := N_is_whole) (qual := "is_whole") (scope := defScope z_is_whole) (f := f) (cd := cdv) (A := A) (outer := outer) (s := s) (H := H) (E := E)
  have hU := hr.units
  have hU1 : (A.deeper (envOfC "is_whole" (defScope z_is_whole) s.heap.objs.size f cdv)).units + 1 < cLine := by have := hr.un; omega
  exact (s_one (s_ret (s_vand (s_isi (n := "int") (by decide) rfl B.n_isinstance rfl B.n_int (by decide +kernel) (sv 0)) (s_vone (s_vnot (s_isi (n := "bool") (by decide) rfl B.n_isinstance rfl B.n_bool (by decide +kernel) (sv 0)))))))
theorem ok_is_within (F : FunD K "is_within" "is_within" (defArgs z_is_within) (defBody z_is_within) (defScope z_is_within) [] [] f fd) (B : Bs K mg) (C_is_whole : CalN P w K mg base [] 1 "is_whole" ["thing"] [] m_is_whole) : FnN P w K mg base 2 f fd ["thing", "least", "most"] (spM K [] 3 m_is_within) := by
  have sc := sc_is_within
  refine okM (T := []) F sc rfl (fun cdv A outer s H E Γ hT hG hr => ?_)
  obtain ⟨U0, H0, A0, m0, T0⟩ := Γ
  obtain rfl : T0 = [] := hT
  have tk := takes_N (P := P) (w := w) (K := K) (mg := mg) (base := base) (N := N_is_within) (qual := "is_within") (scope := defScope z_is_within) (f := f) (cd := cdv) (A := A) (outer := outer) (s := s) (H := H) (E := E)
  have pO := own_N (P := P) (w := w) (K := K) (mg := mg) (base := base) (N := N_is_within) (qual := "is_within") (scope := defScope z_is_within) (f := f) (cd := cdv) (A := A) (outer := outer) (s := s) (H := H) (E := E)
  have hU := hr.units
  have hU1 : (A.deeper (envOfC "is_within" (defScope z_is_within) s.heap.objs.size f cdv)).units + 1 < cLine := by have := hr.un; omega
  exact (s_one (s_ret (s_vand (sCl C_is_whole hG hr (by decide) rfl tk (s_cons (sv 0) s_nil)) (s_vone (s_chn o_le o_le p_le p_le (sv 1) (sv 0) (sv 2) (fun h1 h2 h3 h4 h5 => pe_chain h1 h2 h3 h4 h5))))))
theorem ok_rises (F : FunD K "rises" "rises" (defArgs z_rises) (defBody z_rises) (defScope z_rises) [] [] f fd) (B : Bs K mg) : FnN P w K mg base 1 f fd ["row"] (spM K [] 1 m_rises) := by
  have sc := sc_rises
  refine okM (T := []) F sc rfl (fun cdv A outer s H E Γ hT hG hr => ?_)
  obtain ⟨U0, H0, A0, m0, T0⟩ := Γ
  obtain rfl : T0 = [] := hT
  have tk := takes_N (P := P) (w := w) (K := K) (mg := mg) (base := base) (N := N_rises) (qual := "rises") (scope := defScope z_rises) (f := f) (cd := cdv) (A := A) (outer := outer) (s := s) (H := H) (E := E)
  have pO := own_N (P := P) (w := w) (K := K) (mg := mg) (base := base) (N := N_rises) (qual := "rises") (scope := defScope z_rises) (f := f) (cd := cdv) (A := A) (outer := outer) (s := s) (H := H) (E := E)
  have hU := hr.units
  have hU1 : (A.deeper (envOfC "rises" (defScope z_rises) s.heap.objs.size f cdv)).units + 1 < cLine := by have := hr.un; omega
  exact (s_one (s_ret (s_cb (cr_all rfl) o_all rfl B.n_all (by decide +kernel) (s_cons (s_lc (own := [("one", 1), ("later", 2)]) rfl sc.nd (s_zip rfl B.n_zip (s_cons (sv 0) (s_cons (s_sl (sv 0) (s_po1 s_int) s_po0) s_nil))) (blkOk_by (own := [("one", 1), ("later", 2)]) (N := N_rises) (sc := defScope z_rises) (by decide +kernel)) (fun _ _ _ _ _ => (s_gt rfl (s_gcons (s_gn (i := 1) sc.nd rfl (Or.inl rfl)) (s_gcons (s_gn (i := 2) sc.nd rfl (Or.inl rfl)) s_gnil)))) (fun _ _ _ _ _ => s_ts0) (fun _ _ _ _ _ => (s_cmpP o_lt p_lt (qv 1) (qv 2) (nomark _)))) s_nil))))
theorem ok_is_fault (F : FunD K "is_fault" "is_fault" (defArgs z_is_fault) (defBody z_is_fault) (defScope z_is_fault) [] [] f fd) (B : Bs K mg) (C_is_within : CalN P w K mg base [] 2 "is_within" ["thing", "least", "most"] [] m_is_within) : FnN P w K mg base 3 f fd ["thing"] (spM K [] 1 m_is_fault) := by
  have sc := sc_is_fault
  obtain ⟨_, h_WORD_BITS⟩ := B.c_WORD_BITS
  refine okM (T := []) F sc rfl (fun cdv A outer s H E Γ hT hG hr => ?_)
  obtain ⟨U0, H0, A0, m0, T0⟩ := Γ
  obtain rfl : T0 = [] := hT
  have tk := takes_N (P := P) (w := w) (K := K) (mg := mg) (base := base) (N := N_is_fault) (qual := "is_fault") (scope := defScope z_is_fault) (f := f) (cd := cdv) (A := A) (outer := outer) (s := s) (H := H) (E := E)
  have pO := own_N (P := P) (w := w) (K := K) (mg := mg) (base := base) (N := N_is_fault) (qual := "is_fault") (scope := defScope z_is_fault) (f := f) (cd := cdv) (A := A) (outer := outer) (s := s) (H := H) (E := E)
  have hU := hr.units
  have hU1 : (A.deeper (envOfC "is_fault" (defScope z_is_fault) s.heap.objs.size f cdv)).units + 1 < cLine := by have := hr.un; omega
  exact (s_seq (s_if (PW.pt (s_or (s_tcmpP (o_eq hU) p_eq (qv 0) (q_gl (v := .ref (He.ga K "CUT")) rfl B.r_CUT rfl B.p_CUT) (nomark _)) (s_or1 (s_tcmpP (o_eq hU) p_eq (qv 0) (q_gl (v := .ref (He.ga K "BAD")) rfl B.r_BAD rfl B.p_BAD) (nomark _))))) (s_one (s_ret s_bl)) s_end)
      (s_seq (s_if (PW.pt (s_or (s_not (s_tval (s_isi (n := "tuple") (by decide) rfl B.n_isinstance rfl B.n_tuple (by decide +kernel) (sv 0)))) (s_or (s_tcmp (o_ne hU) p_ne (s_cbP c_len o_len rfl B.n_len (by decide +kernel) (q_cons (qv 0) q_nil)) s_int (nomark _)) (s_or (s_not (s_tval (s_isi (n := "str") (by decide) rfl B.n_isinstance rfl B.n_str (by decide +kernel) (s_ofP (q_ix hU1 (qv 0) q_int))))) (s_or1 (s_tcmpP (o_ne hU) p_ne (q_ix hU1 (qv 0) q_int) q_str (nomark _))))))) (s_one (s_ret s_bl)) s_end)
      (s_one (s_ret (sCl C_is_within hG hr (by decide) rfl tk (s_cons (s_ofP (q_ix hU1 (qv 0) q_int)) (s_cons s_int (s_cons (s_op o_subB p_sub (s_gl (v := .int 47) rfl h_WORD_BITS ⟨_, rfl⟩ (fun _ _ _ => .int .nil)) s_int) s_nil))))))))
theorem ok_is_weather (F : FunD K "is_weather" "is_weather" (defArgs z_is_weather) (defBody z_is_weather) (defScope z_is_weather) [] [] f fd) (B : Bs K mg) (C_is_fault : CalN P w K mg base [] 3 "is_fault" ["thing"] [] m_is_fault) (C_is_within : CalN P w K mg base [] 2 "is_within" ["thing", "least", "most"] [] m_is_within) (C_rises : CalN P w K mg base [] 1 "rises" ["row"] [] m_rises) : FnN P w K mg base 4 f fd ["thing"] (spM K [] 1 m_is_weather) := by
  have sc := sc_is_weather
  obtain ⟨_, h_MOST_FAULTS⟩ := B.c_MOST_FAULTS
  obtain ⟨_, h_MOST_STEP⟩ := B.c_MOST_STEP
  refine okM (T := []) F sc rfl (fun cdv A outer s H E Γ hT hG hr => ?_)
  obtain ⟨U0, H0, A0, m0, T0⟩ := Γ
  obtain rfl : T0 = [] := hT
  have tk := takes_N (P := P) (w := w) (K := K) (mg := mg) (base := base) (N := N_is_weather) (qual := "is_weather") (scope := defScope z_is_weather) (f := f) (cd := cdv) (A := A) (outer := outer) (s := s) (H := H) (E := E)
  have pO := own_N (P := P) (w := w) (K := K) (mg := mg) (base := base) (N := N_is_weather) (qual := "is_weather") (scope := defScope z_is_weather) (f := f) (cd := cdv) (A := A) (outer := outer) (s := s) (H := H) (E := E)
  have hU := hr.units
  have hU1 : (A.deeper (envOfC "is_weather" (defScope z_is_weather) s.heap.objs.size f cdv)).units + 1 < cLine := by have := hr.un; omega
  exact (s_seq (s_if (PW.pt (s_or (s_not (s_tval (s_isi (n := "tuple") (by decide) rfl B.n_isinstance rfl B.n_tuple (by decide +kernel) (sv 0)))) (s_or1 (s_tcmp o_gt p_gt (s_cbP c_len o_len rfl B.n_len (by decide +kernel) (q_cons (qv 0) q_nil)) (s_gl (v := .int 40) rfl h_MOST_FAULTS ⟨_, rfl⟩ (fun _ _ _ => .int .nil)) (nomark _))))) (s_one (s_ret s_bl)) s_end)
      (s_seq (s_if (s_not (s_tval (s_cb (cr_all rfl) o_all rfl B.n_all (by decide +kernel) (s_cons (s_lc (own := [("row", 1)]) rfl sc.nd (s_it (sv 0)) (blkOk_by (own := [("row", 1)]) (N := N_is_weather) (sc := defScope z_is_weather) (by decide +kernel)) (fun _ _ _ _ _ => (s_gn (i := 1) sc.nd rfl (Or.inl rfl))) (fun _ _ _ _ _ => s_ts0) (fun _ _ _ _ _ => (s_vand (s_isi (n := "tuple") (by decide) rfl B.n_isinstance rfl B.n_tuple (by decide +kernel) (sv 1)) (s_vone (s_cmp (o_eq hU) p_eq (s_cbP c_len o_len rfl B.n_len (by decide +kernel) (q_cons (qv 1) q_nil)) s_int (nomark _)))))) s_nil)))) (s_one (s_ret s_bl)) s_end)
      (s_seq (s_if (s_not (s_tval (s_cb (cr_all rfl) o_all rfl B.n_all (by decide +kernel) (s_cons (s_lc (own := [("step", 2), ("fault", 3)]) rfl sc.nd (s_it (sv 0)) (blkOk_by (own := [("step", 2), ("fault", 3)]) (N := N_is_weather) (sc := defScope z_is_weather) (by decide +kernel)) (fun _ _ _ _ _ => (s_gt rfl (s_gcons (s_gn (i := 2) sc.nd rfl (Or.inl rfl)) (s_gcons (s_gn (i := 3) sc.nd rfl (Or.inl rfl)) s_gnil)))) (fun _ _ _ _ _ => s_ts0) (fun _ _ _ _ _ => (s_vand (sCl C_is_within hG hr (by decide) rfl takes_noX (s_cons (sv 2) (s_cons s_int (s_cons (s_gl (v := .int 9999) rfl h_MOST_STEP ⟨_, rfl⟩ (fun _ _ _ => .int .nil)) s_nil)))) (s_vone (sCl C_is_fault hG hr (by decide) rfl takes_noX (s_cons (sv 3) s_nil)))))) s_nil)))) (s_one (s_ret s_bl)) s_end)
      (s_one (s_ret (sCl C_rises hG hr (by decide) rfl tk (s_cons (s_lc (own := [("step", 2), ("fault", 3)]) rfl sc.nd (s_it (sv 0)) (blkOk_by (own := [("step", 2), ("fault", 3)]) (N := N_is_weather) (sc := defScope z_is_weather) (by decide +kernel)) (fun _ _ _ _ _ => (s_gt rfl (s_gcons (s_gn (i := 2) sc.nd rfl (Or.inl rfl)) (s_gcons (s_gn (i := 3) sc.nd rfl (Or.inl rfl)) s_gnil)))) (fun _ _ _ _ _ => s_ts0) (fun _ _ _ _ _ => (sv 2))) s_nil)))))))
theorem ok_need_weather (F : FunD K "need_weather" "need_weather" (defArgs z_need_weather) (defBody z_need_weather) (defScope z_need_weather) [] [] f fd) (B : Bs K mg) (C_is_weather : CalN P w K mg base [] 4 "is_weather" ["thing"] [] m_is_weather) : FnN P w K mg base 5 f fd ["thing"] (spM K [] 1 m_need_weather) := by
  have sc := sc_need_weather
  refine okM (T := []) F sc rfl (fun cdv A outer s H E Γ hT hG hr => ?_)
  obtain ⟨U0, H0, A0, m0, T0⟩ := Γ
  obtain rfl : T0 = [] := hT
  have tk := takes_N (P := P) (w := w) (K := K) (mg := mg) (base := base) (N := N_need_weather) (qual := "need_weather") (scope := defScope z_need_weather) (f := f) (cd := cdv) (A := A) (outer := outer) (s := s) (H := H) (E := E)
  have pO := own_N (P := P) (w := w) (K := K) (mg := mg) (base := base) (N := N_need_weather) (qual := "need_weather") (scope := defScope z_need_weather) (f := f) (cd := cdv) (A := A) (outer := outer) (s := s) (H := H) (E := E)
  have hU := hr.units
  have hU1 : (A.deeper (envOfC "need_weather" (defScope z_need_weather) s.heap.objs.size f cdv)).units + 1 < cLine := by have := hr.un; omega
  exact (s_one (s_if (s_not (s_tval (sCl C_is_weather hG hr (by decide) rfl tk (s_cons (sv 0) s_nil)))) (s_one (s_raise B.x_NoWeather rfl tk rfl)) s_end))
theorem ok_need_count (F : FunD K "need_count" "need_count" (defArgs z_need_count) (defBody z_need_count) (defScope z_need_count) [] [] f fd) (B : Bs K mg) (C_is_within : CalN P w K mg base [] 2 "is_within" ["thing", "least", "most"] [] m_is_within) : FnN P w K mg base 3 f fd ["thing", "most"] (spM K [] 2 m_need_count) := by
  have sc := sc_need_count
  refine okM (T := []) F sc rfl (fun cdv A outer s H E Γ hT hG hr => ?_)
  obtain ⟨U0, H0, A0, m0, T0⟩ := Γ
  obtain rfl : T0 = [] := hT
  have tk := takes_N (P := P) (w := w) (K := K) (mg := mg) (base := base) (N := N_need_count) (qual := "need_count") (scope := defScope z_need_count) (f := f) (cd := cdv) (A := A) (outer := outer) (s := s) (H := H) (E := E)
  have pO := own_N (P := P) (w := w) (K := K) (mg := mg) (base := base) (N := N_need_count) (qual := "need_count") (scope := defScope z_need_count) (f := f) (cd := cdv) (A := A) (outer := outer) (s := s) (H := H) (E := E)
  have hU := hr.units
  have hU1 : (A.deeper (envOfC "need_count" (defScope z_need_count) s.heap.objs.size f cdv)).units + 1 < cLine := by have := hr.un; omega
  exact (s_one (s_if (s_not (s_tval (sCl C_is_within hG hr (by decide) rfl tk (s_cons (sv 0) (s_cons s_int (s_cons (sv 1) s_nil)))))) (s_one (s_raise B.x_NoNumber rfl tk rfl)) s_end))
theorem ok_Flash___init__ (F : FunD K "__init__" "Flash.__init__" (defArgs z_Flash___init__) (defBody z_Flash___init__) (defScope z_Flash___init__) [.ref (He.dflAt ("Flash", some "__init__") 0 K)] [] f fd) (B : Bs K mg) (C_need_count : CalN P w K mg base [] 3 "need_count" ["thing", "most"] [] m_need_count) (C_need_weather : CalN P w K mg base [] 5 "need_weather" ["thing"] [] m_need_weather) : FnN P w K mg base 6 f fd ["self", "blocks", "pages", "weather"] (spM K [] 4 m_Flash___init__) := by
  have sc := sc_Flash___init__
  obtain ⟨_, h_MOST_BLOCKS⟩ := B.c_MOST_BLOCKS
  obtain ⟨_, h_MOST_PAGES⟩ := B.c_MOST_PAGES
  refine okM (T := []) F sc rfl (fun cdv A outer s H E Γ hT hG hr => ?_)
  obtain ⟨U0, H0, A0, m0, T0⟩ := Γ
  obtain rfl : T0 = [] := hT
  have tk := takes_N (P := P) (w := w) (K := K) (mg := mg) (base := base) (N := N_Flash___init__) (qual := "Flash.__init__") (scope := defScope z_Flash___init__) (f := f) (cd := cdv) (A := A) (outer := outer) (s := s) (H := H) (E := E)
  have pO := own_N (P := P) (w := w) (K := K) (mg := mg) (base := base) (N := N_Flash___init__) (qual := "Flash.__init__") (scope := defScope z_Flash___init__) (f := f) (cd := cdv) (A := A) (outer := outer) (s := s) (H := H) (E := E)
  have hU := hr.units
  have hU1 : (A.deeper (envOfC "Flash.__init__" (defScope z_Flash___init__) s.heap.objs.size f cdv)).units + 1 < cLine := by have := hr.un; omega
  exact (s_seq (s_exp (sCl C_need_count hG hr (by decide) rfl tk (s_cons (sv 1) (s_cons (s_gl (v := .int 8) rfl h_MOST_BLOCKS ⟨_, rfl⟩ (fun _ _ _ => .int .nil)) s_nil))))
      (s_seq (s_exp (sCl C_need_count hG hr (by decide) rfl tk (s_cons (sv 2) (s_cons (s_gl (v := .int 8) rfl h_MOST_PAGES ⟨_, rfl⟩ (fun _ _ _ => .int .nil)) s_nil))))
      (s_seq (s_exp (sCl C_need_weather hG hr (by decide) rfl tk (s_cons (sv 3) s_nil)))
      (s_seq (s_fldO B.f_Flash (by decide) (qv 0) (s_lcN (own := [("block", 4)]) rfl sc.nd (s_rng1 rfl B.n_range (s_cons (sv 1) s_nil)) (blkOk_by (own := [("block", 4)]) (N := N_Flash___init__) (sc := defScope z_Flash___init__) (by decide +kernel)) (fun _ _ _ _ _ => (s_gn (i := 4) sc.nd rfl (Or.inl rfl))) (fun _ _ _ _ _ => s_ts0) (fun _ _ _ _ _ => (s_mulO (s_lst (s_cons s_non s_nil)) (sv 2)))))
      (s_seq (s_fldO B.f_Flash (by decide) (qv 0) (s_mulO (s_lst (s_cons s_int s_nil)) (sv 1)))
      (s_seq (s_fldO B.f_Flash (by decide) (qv 0) (s_mulO (s_lst (s_cons s_bl s_nil)) (sv 1)))
      (s_seq (s_fld B.f_Flash (by decide) (qv 0) (s_frz (s_dictO rfl B.n_dict rfl (s_frz (s_ctOP call_list_of o_list rfl B.n_list (by decide +kernel) (q_cons (qv 3) q_nil))))))
      (s_seq (s_fld B.f_Flash (by decide) (qv 0) s_int)
      (s_one (s_fld B.f_Flash (by decide) (qv 0) s_bl))))))))))
theorem ok_Flash_need_power (F : FunD K "need_power" "Flash.need_power" (defArgs z_Flash_need_power) (defBody z_Flash_need_power) (defScope z_Flash_need_power) [] [] f fd) (B : Bs K mg) : FnN P w K mg base 1 f fd ["self"] (spM K [] 1 m_Flash_need_power) := by
  have sc := sc_Flash_need_power
  refine okM (T := []) F sc rfl (fun cdv A outer s H E Γ hT hG hr => ?_)
  obtain ⟨U0, H0, A0, m0, T0⟩ := Γ
  obtain rfl : T0 = [] := hT
  have tk := takes_N (P := P) (w := w) (K := K) (mg := mg) (base := base) (N := N_Flash_need_power) (qual := "Flash.need_power") (scope := defScope z_Flash_need_power) (f := f) (cd := cdv) (A := A) (outer := outer) (s := s) (H := H) (E := E)
  have pO := own_N (P := P) (w := w) (K := K) (mg := mg) (base := base) (N := N_Flash_need_power) (qual := "Flash.need_power") (scope := defScope z_Flash_need_power) (f := f) (cd := cdv) (A := A) (outer := outer) (s := s) (H := H) (E := E)
  have hU := hr.units
  have hU1 : (A.deeper (envOfC "Flash.need_power" (defScope z_Flash_need_power) s.heap.objs.size f cdv)).units + 1 < cLine := by have := hr.un; omega
  exact (s_one (s_if (s_not (s_tval (s_ofP (q_fld B.f_Flash (by decide) (qv 0))))) (s_one (s_raise B.x_Off rfl tk rfl)) s_end))
theorem ok_Flash_need_block (F : FunD K "need_block" "Flash.need_block" (defArgs z_Flash_need_block) (defBody z_Flash_need_block) (defScope z_Flash_need_block) [] [] f fd) (B : Bs K mg) (C_is_within : CalN P w K mg base [] 2 "is_within" ["thing", "least", "most"] [] m_is_within) : FnN P w K mg base 3 f fd ["self", "block"] (spM K [] 2 m_Flash_need_block) := by
  have sc := sc_Flash_need_block
  refine okM (T := []) F sc rfl (fun cdv A outer s H E Γ hT hG hr => ?_)
  obtain ⟨U0, H0, A0, m0, T0⟩ := Γ
  obtain rfl : T0 = [] := hT
  have tk := takes_N (P := P) (w := w) (K := K) (mg := mg) (base := base) (N := N_Flash_need_block) (qual := "Flash.need_block") (scope := defScope z_Flash_need_block) (f := f) (cd := cdv) (A := A) (outer := outer) (s := s) (H := H) (E := E)
  have pO := own_N (P := P) (w := w) (K := K) (mg := mg) (base := base) (N := N_Flash_need_block) (qual := "Flash.need_block") (scope := defScope z_Flash_need_block) (f := f) (cd := cdv) (A := A) (outer := outer) (s := s) (H := H) (E := E)
  have hU := hr.units
  have hU1 : (A.deeper (envOfC "Flash.need_block" (defScope z_Flash_need_block) s.heap.objs.size f cdv)).units + 1 < cLine := by have := hr.un; omega
  exact (s_one (s_if (s_not (s_tval (sCl C_is_within hG hr (by decide) rfl tk (s_cons (sv 1) (s_cons s_int (s_cons (s_op o_subB p_sub (s_cbP c_len o_len rfl B.n_len (by decide +kernel) (q_cons (q_fld B.f_Flash (by decide) (qv 0)) q_nil)) s_int) s_nil)))))) (s_one (s_raise B.x_NoBlock rfl tk rfl)) s_end))
theorem ok_Flash_fault (F : FunD K "fault" "Flash.fault" (defArgs z_Flash_fault) (defBody z_Flash_fault) (defScope z_Flash_fault) [] [] f fd) (B : Bs K mg) : FnN P w K mg base 1 f fd ["self"] (spM K [] 1 m_Flash_fault) := by
  have sc := sc_Flash_fault
  refine okM (T := []) F sc rfl (fun cdv A outer s H E Γ hT hG hr => ?_)
  obtain ⟨U0, H0, A0, m0, T0⟩ := Γ
  obtain rfl : T0 = [] := hT
  have tk := takes_N (P := P) (w := w) (K := K) (mg := mg) (base := base) (N := N_Flash_fault) (qual := "Flash.fault") (scope := defScope z_Flash_fault) (f := f) (cd := cdv) (A := A) (outer := outer) (s := s) (H := H) (E := E)
  have pO := own_N (P := P) (w := w) (K := K) (mg := mg) (base := base) (N := N_Flash_fault) (qual := "Flash.fault") (scope := defScope z_Flash_fault) (f := f) (cd := cdv) (A := A) (outer := outer) (s := s) (H := H) (E := E)
  have hU := hr.units
  have hU1 : (A.deeper (envOfC "Flash.fault" (defScope z_Flash_fault) s.heap.objs.size f cdv)).units + 1 < cLine := by have := hr.un; omega
  exact (s_seq (s_asg (i := 1) sc.nd rfl (Or.inl rfl) (s_ofP (q_get hU1 (q_fld B.f_Flash (by decide) (qv 0)) (q_fld B.f_Flash (by decide) (qv 0)) (q_gl (v := .ref (He.ga K "FINE")) rfl B.r_FINE rfl B.p_FINE) ⟨rfl, rfl, rfl, rfl⟩)))
      (s_seq (s_faug B.f_Flash (by decide) (sv 0) s_int)
      (s_one (s_ret (sv 1)))))
theorem ok_Flash_go_off (F : FunD K "go_off" "Flash.go_off" (defArgs z_Flash_go_off) (defBody z_Flash_go_off) (defScope z_Flash_go_off) [] [] f fd) (B : Bs K mg) : FnN P w K mg base 1 f fd ["self"] (spM K [] 1 m_Flash_go_off) := by
  have sc := sc_Flash_go_off
  refine okM (T := []) F sc rfl (fun cdv A outer s H E Γ hT hG hr => ?_)
  obtain ⟨U0, H0, A0, m0, T0⟩ := Γ
  obtain rfl : T0 = [] := hT
  have tk := takes_N (P := P) (w := w) (K := K) (mg := mg) (base := base) (N := N_Flash_go_off) (qual := "Flash.go_off") (scope := defScope z_Flash_go_off) (f := f) (cd := cdv) (A := A) (outer := outer) (s := s) (H := H) (E := E)
  have pO := own_N (P := P) (w := w) (K := K) (mg := mg) (base := base) (N := N_Flash_go_off) (qual := "Flash.go_off") (scope := defScope z_Flash_go_off) (f := f) (cd := cdv) (A := A) (outer := outer) (s := s) (H := H) (E := E)
  have hU := hr.units
  have hU1 : (A.deeper (envOfC "Flash.go_off" (defScope z_Flash_go_off) s.heap.objs.size f cdv)).units + 1 < cLine := by have := hr.un; omega
  exact (s_seq (s_fld B.f_Flash (by decide) (qv 0) s_bl)
      (s_one (s_raise B.x_Off rfl tk rfl)))
theorem ok_Flash_fails (F : FunD K "fails" "Flash.fails" (defArgs z_Flash_fails) (defBody z_Flash_fails) (defScope z_Flash_fails) [] [] f fd) (B : Bs K mg) : FnN P w K mg base 1 f fd ["self", "block"] (spM K [] 2 m_Flash_fails) := by
  have sc := sc_Flash_fails
  refine okM (T := []) F sc rfl (fun cdv A outer s H E Γ hT hG hr => ?_)
  obtain ⟨U0, H0, A0, m0, T0⟩ := Γ
  obtain rfl : T0 = [] := hT
  have tk := takes_N (P := P) (w := w) (K := K) (mg := mg) (base := base) (N := N_Flash_fails) (qual := "Flash.fails") (scope := defScope z_Flash_fails) (f := f) (cd := cdv) (A := A) (outer := outer) (s := s) (H := H) (E := E)
  have pO := own_N (P := P) (w := w) (K := K) (mg := mg) (base := base) (N := N_Flash_fails) (qual := "Flash.fails") (scope := defScope z_Flash_fails) (f := f) (cd := cdv) (A := A) (outer := outer) (s := s) (H := H) (E := E)
  have hU := hr.units
  have hU1 : (A.deeper (envOfC "Flash.fails" (defScope z_Flash_fails) s.heap.objs.size f cdv)).units + 1 < cLine := by have := hr.un; omega
  exact (s_seq (sStI hU1 (s_b1 B.f_Flash (by decide) (qv 0)) (qv 1) s_bl)
      (s_one (s_ret s_bl)))
theorem ok_Flash_wipe (F : FunD K "wipe" "Flash.wipe" (defArgs z_Flash_wipe) (defBody z_Flash_wipe) (defScope z_Flash_wipe) [] [] f fd) (B : Bs K mg) (M_Flash_fails : MetN P w K mg base [] 1 "Flash" "fails" ["self", "block"] [] m_Flash_fails) (M_Flash_fault : MetN P w K mg base [] 1 "Flash" "fault" ["self"] [] m_Flash_fault) (M_Flash_go_off : MetN P w K mg base [] 1 "Flash" "go_off" ["self"] [] m_Flash_go_off) (M_Flash_need_block : MetN P w K mg base [] 3 "Flash" "need_block" ["self", "block"] [] m_Flash_need_block) (M_Flash_need_power : MetN P w K mg base [] 1 "Flash" "need_power" ["self"] [] m_Flash_need_power) : FnN P w K mg base 4 f fd ["self", "block"] (spM K [] 2 m_Flash_wipe) := by
  have sc := sc_Flash_wipe
  obtain ⟨_, h_TORN⟩ := B.c_TORN
  refine okM (T := []) F sc rfl (fun cdv A outer s H E Γ hT hG hr => ?_)
  obtain ⟨U0, H0, A0, m0, T0⟩ := Γ
  obtain rfl : T0 = [] := hT
  have tk := takes_N (P := P) (w := w) (K := K) (mg := mg) (base := base) (N := N_Flash_wipe) (qual := "Flash.wipe") (scope := defScope z_Flash_wipe) (f := f) (cd := cdv) (A := A) (outer := outer) (s := s) (H := H) (E := E)
  have pO := own_N (P := P) (w := w) (K := K) (mg := mg) (base := base) (N := N_Flash_wipe) (qual := "Flash.wipe") (scope := defScope z_Flash_wipe) (f := f) (cd := cdv) (A := A) (outer := outer) (s := s) (H := H) (E := E)
  have hU := hr.units
  have hU1 : (A.deeper (envOfC "Flash.wipe" (defScope z_Flash_wipe) s.heap.objs.size f cdv)).units + 1 < cLine := by have := hr.un; omega
  exact (s_seq (s_exp (sMt0 M_Flash_need_power hG hr (by decide) tk (sv 0)))
      (s_seq (s_exp (sMt M_Flash_need_block hG hr (by decide) tk (sv 0) (s_cons (sv 1) s_nil)))
      (s_seq (s_if (s_tval (s_ofP (q_ix hU1 (q_fld B.f_Flash (by decide) (qv 0)) (qv 1)))) (s_one (s_raise B.x_Bad rfl tk rfl)) s_end)
      (s_seq (s_par (i := 2) (j := 3) rfl sc.nd rfl rfl (by decide) rfl rfl (s_xI (sMt0 M_Flash_fault hG hr (by decide) tk (sv 0))) (s_xI (s_cbP c_len o_len rfl B.n_len (by decide +kernel) (q_cons (q_ix hU1 (q_fld B.f_Flash (by decide) (qv 0)) (qv 1)) q_nil))) rfl)
      (s_seq (s_if (s_tcmpP (o_eq hU) p_eq (qv 2) (q_gl (v := .ref (He.ga K "CUT")) rfl B.r_CUT rfl B.p_CUT) (nomark _)) (s_seq (sStO hU1 (s_b1 B.f_Flash (by decide) (qv 0)) (qv 1) (s_mulO (s_lst (s_cons (s_gl (v := .str "torn") rfl h_TORN ⟨_, rfl⟩ (fun _ _ _ => .str .nil)) s_nil)) (sv 3)))
      (s_one (s_exp (sMt0 M_Flash_go_off hG hr (by decide) tk (sv 0))))) s_end)
      (s_seq (s_if (s_tcmpP (o_eq hU) p_eq (qv 2) (q_gl (v := .ref (He.ga K "BAD")) rfl B.r_BAD rfl B.p_BAD) (nomark _)) (s_one (s_ret (sMt M_Flash_fails hG hr (by decide) tk (sv 0) (s_cons (sv 1) s_nil)))) s_end)
      (s_seq (sStO hU1 (s_b1 B.f_Flash (by decide) (qv 0)) (qv 1) (s_mulO (s_lst (s_cons s_non s_nil)) (sv 3)))
      (s_seq (s_augP (s_b1 B.f_Flash (by decide) (qv 0)) (qv 1) q_int)
      (s_one (s_ret s_bl))))))))))
theorem ok_Flash_wipes (F : FunD K "wipes" "Flash.wipes" (defArgs z_Flash_wipes) (defBody z_Flash_wipes) (defScope z_Flash_wipes) [] [] f fd) (B : Bs K mg) (M_Flash_need_block : MetN P w K mg base [] 3 "Flash" "need_block" ["self", "block"] [] m_Flash_need_block) : FnN P w K mg base 4 f fd ["self", "block"] (spM K [] 2 m_Flash_wipes) := by
  have sc := sc_Flash_wipes
  refine okM (T := []) F sc rfl (fun cdv A outer s H E Γ hT hG hr => ?_)
  obtain ⟨U0, H0, A0, m0, T0⟩ := Γ
  obtain rfl : T0 = [] := hT
  have tk := takes_N (P := P) (w := w) (K := K) (mg := mg) (base := base) (N := N_Flash_wipes) (qual := "Flash.wipes") (scope := defScope z_Flash_wipes) (f := f) (cd := cdv) (A := A) (outer := outer) (s := s) (H := H) (E := E)
  have pO := own_N (P := P) (w := w) (K := K) (mg := mg) (base := base) (N := N_Flash_wipes) (qual := "Flash.wipes") (scope := defScope z_Flash_wipes) (f := f) (cd := cdv) (A := A) (outer := outer) (s := s) (H := H) (E := E)
  have hU := hr.units
  have hU1 : (A.deeper (envOfC "Flash.wipes" (defScope z_Flash_wipes) s.heap.objs.size f cdv)).units + 1 < cLine := by have := hr.un; omega
  exact (s_seq (s_exp (sMt M_Flash_need_block hG hr (by decide) tk (sv 0) (s_cons (sv 1) s_nil)))
      (s_one (s_ret (s_ofP (q_ix hU1 (q_fld B.f_Flash (by decide) (qv 0)) (qv 1))))))
theorem ok_Flash_is_bad (F : FunD K "is_bad" "Flash.is_bad" (defArgs z_Flash_is_bad) (defBody z_Flash_is_bad) (defScope z_Flash_is_bad) [] [] f fd) (B : Bs K mg) (M_Flash_need_block : MetN P w K mg base [] 3 "Flash" "need_block" ["self", "block"] [] m_Flash_need_block) : FnN P w K mg base 4 f fd ["self", "block"] (spM K [] 2 m_Flash_is_bad) := by
  have sc := sc_Flash_is_bad
  refine okM (T := []) F sc rfl (fun cdv A outer s H E Γ hT hG hr => ?_)
  obtain ⟨U0, H0, A0, m0, T0⟩ := Γ
  obtain rfl : T0 = [] := hT
  have tk := takes_N (P := P) (w := w) (K := K) (mg := mg) (base := base) (N := N_Flash_is_bad) (qual := "Flash.is_bad") (scope := defScope z_Flash_is_bad) (f := f) (cd := cdv) (A := A) (outer := outer) (s := s) (H := H) (E := E)
  have pO := own_N (P := P) (w := w) (K := K) (mg := mg) (base := base) (N := N_Flash_is_bad) (qual := "Flash.is_bad") (scope := defScope z_Flash_is_bad) (f := f) (cd := cdv) (A := A) (outer := outer) (s := s) (H := H) (E := E)
  have hU := hr.units
  have hU1 : (A.deeper (envOfC "Flash.is_bad" (defScope z_Flash_is_bad) s.heap.objs.size f cdv)).units + 1 < cLine := by have := hr.un; omega
  exact (s_seq (s_exp (sMt M_Flash_need_block hG hr (by decide) tk (sv 0) (s_cons (sv 1) s_nil)))
      (s_one (s_ret (s_ofP (q_ix hU1 (q_fld B.f_Flash (by decide) (qv 0)) (qv 1))))))
theorem ok_Flash_steps (F : FunD K "steps" "Flash.steps" (defArgs z_Flash_steps) (defBody z_Flash_steps) (defScope z_Flash_steps) [] [] f fd) (B : Bs K mg) : FnN P w K mg base 1 f fd ["self"] (spM K [] 1 m_Flash_steps) := by
  have sc := sc_Flash_steps
  refine okM (T := []) F sc rfl (fun cdv A outer s H E Γ hT hG hr => ?_)
  obtain ⟨U0, H0, A0, m0, T0⟩ := Γ
  obtain rfl : T0 = [] := hT
  have tk := takes_N (P := P) (w := w) (K := K) (mg := mg) (base := base) (N := N_Flash_steps) (qual := "Flash.steps") (scope := defScope z_Flash_steps) (f := f) (cd := cdv) (A := A) (outer := outer) (s := s) (H := H) (E := E)
  have pO := own_N (P := P) (w := w) (K := K) (mg := mg) (base := base) (N := N_Flash_steps) (qual := "Flash.steps") (scope := defScope z_Flash_steps) (f := f) (cd := cdv) (A := A) (outer := outer) (s := s) (H := H) (E := E)
  have hU := hr.units
  have hU1 : (A.deeper (envOfC "Flash.steps" (defScope z_Flash_steps) s.heap.objs.size f cdv)).units + 1 < cLine := by have := hr.un; omega
  exact (s_one (s_ret (s_ofP (q_fld B.f_Flash (by decide) (qv 0)))))
theorem ok_Flash_blocks (F : FunD K "blocks" "Flash.blocks" (defArgs z_Flash_blocks) (defBody z_Flash_blocks) (defScope z_Flash_blocks) [] [] f fd) (B : Bs K mg) : FnN P w K mg base 1 f fd ["self"] (spM K [] 1 m_Flash_blocks) := by
  have sc := sc_Flash_blocks
  refine okM (T := []) F sc rfl (fun cdv A outer s H E Γ hT hG hr => ?_)
  obtain ⟨U0, H0, A0, m0, T0⟩ := Γ
  obtain rfl : T0 = [] := hT
  have tk := takes_N (P := P) (w := w) (K := K) (mg := mg) (base := base) (N := N_Flash_blocks) (qual := "Flash.blocks") (scope := defScope z_Flash_blocks) (f := f) (cd := cdv) (A := A) (outer := outer) (s := s) (H := H) (E := E)
  have pO := own_N (P := P) (w := w) (K := K) (mg := mg) (base := base) (N := N_Flash_blocks) (qual := "Flash.blocks") (scope := defScope z_Flash_blocks) (f := f) (cd := cdv) (A := A) (outer := outer) (s := s) (H := H) (E := E)
  have hU := hr.units
  have hU1 : (A.deeper (envOfC "Flash.blocks" (defScope z_Flash_blocks) s.heap.objs.size f cdv)).units + 1 < cLine := by have := hr.un; omega
  exact (s_one (s_ret (s_cbP c_len o_len rfl B.n_len (by decide +kernel) (q_cons (q_fld B.f_Flash (by decide) (qv 0)) q_nil))))
theorem ok_good_blocks (F : FunD K "good_blocks" "good_blocks" (defArgs z_good_blocks) (defBody z_good_blocks) (defScope z_good_blocks) [] [] f fd) (B : Bs K mg) (M_Flash_blocks : MetN P w K mg base [] 1 "Flash" "blocks" ["self"] [] m_Flash_blocks) (M_Flash_is_bad : MetN P w K mg base [] 4 "Flash" "is_bad" ["self", "block"] [] m_Flash_is_bad) : FnN P w K mg base 5 f fd ["flash"] (spM K [] 1 m_good_blocks) := by
  have sc := sc_good_blocks
  refine okM (T := []) F sc rfl (fun cdv A outer s H E Γ hT hG hr => ?_)
  obtain ⟨U0, H0, A0, m0, T0⟩ := Γ
  obtain rfl : T0 = [] := hT
  have tk := takes_N (P := P) (w := w) (K := K) (mg := mg) (base := base) (N := N_good_blocks) (qual := "good_blocks") (scope := defScope z_good_blocks) (f := f) (cd := cdv) (A := A) (outer := outer) (s := s) (H := H) (E := E)
  have pO := own_N (P := P) (w := w) (K := K) (mg := mg) (base := base) (N := N_good_blocks) (qual := "good_blocks") (scope := defScope z_good_blocks) (f := f) (cd := cdv) (A := A) (outer := outer) (s := s) (H := H) (E := E)
  have hU := hr.units
  have hU1 : (A.deeper (envOfC "good_blocks" (defScope z_good_blocks) s.heap.objs.size f cdv)).units + 1 < cLine := by have := hr.un; omega
  exact (s_one (s_ret (s_lc (own := [("block", 1)]) rfl sc.nd (s_rng1 rfl B.n_range (s_cons (sMt0 M_Flash_blocks hG hr (by decide) tk (sv 0)) s_nil)) (blkOk_by (own := [("block", 1)]) (N := N_good_blocks) (sc := defScope z_good_blocks) (by decide +kernel)) (fun _ _ _ _ _ => (s_gn (i := 1) sc.nd rfl (Or.inl rfl))) (fun _ _ _ _ _ => (s_ts1 (s_not (s_tval (sMt M_Flash_is_bad hG hr (by decide) takes_noX (sv 0) (s_cons (sv 1) s_nil)))))) (fun _ _ _ _ _ => (sv 1)))))
theorem ok_worn (F : FunD K "worn" "worn" (defArgs z_worn) (defBody z_worn) (defScope z_worn) [] [] f fd) (B : Bs K mg) (C_good_blocks : CalN P w K mg base [] 5 "good_blocks" ["flash"] [] m_good_blocks) (M_Flash_wipes : MetN P w K mg base [] 4 "Flash" "wipes" ["self", "block"] [] m_Flash_wipes) : FnN P w K mg base 6 f fd ["flash"] (spM K [] 1 m_worn) := by
  have sc := sc_worn
  refine okM (T := []) F sc rfl (fun cdv A outer s H E Γ hT hG hr => ?_)
  obtain ⟨U0, H0, A0, m0, T0⟩ := Γ
  obtain rfl : T0 = [] := hT
  have tk := takes_N (P := P) (w := w) (K := K) (mg := mg) (base := base) (N := N_worn) (qual := "worn") (scope := defScope z_worn) (f := f) (cd := cdv) (A := A) (outer := outer) (s := s) (H := H) (E := E)
  have pO := own_N (P := P) (w := w) (K := K) (mg := mg) (base := base) (N := N_worn) (qual := "worn") (scope := defScope z_worn) (f := f) (cd := cdv) (A := A) (outer := outer) (s := s) (H := H) (E := E)
  have hU := hr.units
  have hU1 : (A.deeper (envOfC "worn" (defScope z_worn) s.heap.objs.size f cdv)).units + 1 < cLine := by have := hr.un; omega
  exact (s_seq (s_if (s_not (s_tval (s_isC B.i_Flash B.l_Flash rfl B.n_isinstance rfl B.r_Flash (sv 0)))) (s_one (s_raise B.x_NoFlash rfl tk rfl)) s_end)
      (s_seq (s_asgLc (i := 1) (own := [("block", 2)]) rfl sc.nd rfl rfl (sw_true rfl rfl rfl (by decide +kernel)) (s_it (sCl C_good_blocks hG hr (by decide) rfl tk (s_cons (sv 0) s_nil))) (blkOk_by (own := [("block", 2)]) (N := N_worn) (sc := defScope z_worn) (by decide +kernel)) (fun _ _ _ _ _ => (s_gn (i := 2) sc.nd rfl (Or.inl rfl))) (fun _ _ _ _ _ => s_ts0) (fun _ _ _ _ _ => (sMt M_Flash_wipes hG hr (by decide) takes_noX (sv 0) (s_cons (sv 2) s_nil))))
      (s_one (s_ret (s_ife (s_tcmp (o_ne hU) p_ne (sv 1) (s_lst s_nil) (nomark _)) (s_tup (s_cons (s_cbP (cr_min rfl) o_minL rfl B.n_min (by decide +kernel) (q_cons (qv 1) q_nil)) (s_cons (s_cbP (cr_max rfl) o_maxL rfl B.n_max (by decide +kernel) (q_cons (qv 1) q_nil)) s_nil))) s_non)))))
theorem ok__law_cell_at (F : FunD K "_law_cell_at" "_law_cell_at" (defArgs z__law_cell_at) (defBody z__law_cell_at) (defScope z__law_cell_at) [] [] f fd) (B : Bs K mg) : FnN P w K mg base 1 f fd ["_law_script", "_law_k"] (spM K [] 2 m__law_cell_at) := by
  have sc := sc__law_cell_at
  refine okM (T := []) F sc rfl (fun cdv A outer s H E Γ hT hG hr => ?_)
  obtain ⟨U0, H0, A0, m0, T0⟩ := Γ
  obtain rfl : T0 = [] := hT
  have tk := takes_N (P := P) (w := w) (K := K) (mg := mg) (base := base) (N := N__law_cell_at) (qual := "_law_cell_at") (scope := defScope z__law_cell_at) (f := f) (cd := cdv) (A := A) (outer := outer) (s := s) (H := H) (E := E)
  have pO := own_N (P := P) (w := w) (K := K) (mg := mg) (base := base) (N := N__law_cell_at) (qual := "_law_cell_at") (scope := defScope z__law_cell_at) (f := f) (cd := cdv) (A := A) (outer := outer) (s := s) (H := H) (E := E)
  have hU := hr.units
  have hU1 : (A.deeper (envOfC "_law_cell_at" (defScope z__law_cell_at) s.heap.objs.size f cdv)).units + 1 < cLine := by have := hr.un; omega
  exact (s_seq (s_if (s_tcmp o_lt p_lt (sv 1) (s_cbP c_len o_len rfl B.n_len (by decide +kernel) (q_cons (qv 0) q_nil)) (nomark _)) (s_one (s_ret (s_ofP (q_ix hU1 (qv 0) (qv 1))))) s_end)
      (s_one (s_ret s_int)))
theorem ok__law_state (F : FunD K "_law_state" "_law_state" (defArgs z__law_state) (defBody z__law_state) (defScope z__law_state) [] [] f fd) (B : Bs K mg) (C__law_cell_at : CalN P w K mg base [] 1 "_law_cell_at" ["_law_script", "_law_k"] [] m__law_cell_at) : FnN P w K mg base 2 f fd ["_law_script", "_law_k"] (spM K [] 2 m__law_state) := by
  have sc := sc__law_state
  refine okM (T := []) F sc rfl (fun cdv A outer s H E Γ hT hG hr => ?_)
  obtain ⟨U0, H0, A0, m0, T0⟩ := Γ
  obtain rfl : T0 = [] := hT
  have tk := takes_N (P := P) (w := w) (K := K) (mg := mg) (base := base) (N := N__law_state) (qual := "_law_state") (scope := defScope z__law_state) (f := f) (cd := cdv) (A := A) (outer := outer) (s := s) (H := H) (E := E)
  have pO := own_N (P := P) (w := w) (K := K) (mg := mg) (base := base) (N := N__law_state) (qual := "_law_state") (scope := defScope z__law_state) (f := f) (cd := cdv) (A := A) (outer := outer) (s := s) (H := H) (E := E)
  have hU := hr.units
  have hU1 : (A.deeper (envOfC "_law_state" (defScope z__law_state) s.heap.objs.size f cdv)).units + 1 < cLine := by have := hr.un; omega
  exact (s_seq (s_asg (i := 2) sc.nd rfl (Or.inl rfl) (sCl C__law_cell_at hG hr (by decide) rfl tk (s_cons (sv 0) (s_cons (sv 1) s_nil))))
      (s_one (s_ret (s_prom (s_lstO (s_cons (s_cb (call_max2 rfl) o_max2 rfl B.n_max (by decide +kernel) (s_cons s_int (s_cons (s_op o_subB p_sub (sv 2) (s_op o_pow p_pow s_int s_int)) s_nil))) (s_cons (s_op o_addB p_add (s_op o_mod p_mod (sv 2) s_int) s_int) (s_cons s_int s_nil))))))))
theorem ok__law_choice (F : FunD K "_law_choice" "_law_choice" (defArgs z__law_choice) (defBody z__law_choice) (defScope z__law_choice) [] [] f fd) (B : Bs K mg) : FnN P w K mg base 1 f fd ["_law_state_here", "_law_many"] (spM K [] 2 m__law_choice) := by
  have sc := sc__law_choice
  refine okM (T := []) F sc rfl (fun cdv A outer s H E Γ hT hG hr => ?_)
  obtain ⟨U0, H0, A0, m0, T0⟩ := Γ
  obtain rfl : T0 = [] := hT
  have tk := takes_N (P := P) (w := w) (K := K) (mg := mg) (base := base) (N := N__law_choice) (qual := "_law_choice") (scope := defScope z__law_choice) (f := f) (cd := cdv) (A := A) (outer := outer) (s := s) (H := H) (E := E)
  have pO := own_N (P := P) (w := w) (K := K) (mg := mg) (base := base) (N := N__law_choice) (qual := "_law_choice") (scope := defScope z__law_choice) (f := f) (cd := cdv) (A := A) (outer := outer) (s := s) (H := H) (E := E)
  have hU := hr.units
  have hU1 : (A.deeper (envOfC "_law_choice" (defScope z__law_choice) s.heap.objs.size f cdv)).units + 1 < cLine := by have := hr.un; omega
  exact (s_seq (s_if (s_tcmpP o_gt p_gt (q_ix hU1 (qv 0) q_int) q_int (nomark _)) (s_seq (s_asg (i := 2) sc.nd rfl (Or.inl rfl) (s_op o_mod p_mod (s_ofP (q_ix hU1 (qv 0) q_int)) (sv 1)))
      (s_seq (sStI hU1 (s_b0 (qv 0)) q_int (s_op o_fdv p_fdv (s_ofP (q_ix hU1 (qv 0) q_int)) (sv 1)))
      (s_one (s_ret (sv 2))))) s_end)
      (s_seq (sStI hU1 (s_b0 (qv 0)) q_int (s_op o_addB p_add (s_ofP (q_ix hU1 (qv 0) q_int)) s_int))
      (s_seq (sStI hU1 (s_b0 (qv 0)) q_int (s_op o_mod p_mod (s_op o_addB p_add (s_op o_addB p_add (s_op o_mul p_mul (s_ofP (q_ix hU1 (qv 0) q_int)) s_int) s_int) (s_ofP (q_ix hU1 (qv 0) q_int))) s_int))
      (s_seq (s_asg (i := 3) sc.nd rfl (Or.inl rfl) (s_op o_mod p_mod (s_op o_addB p_add (s_op o_addB p_add (s_op o_mul p_mul (s_ofP (q_ix hU1 (qv 0) q_int)) (s_ofP (q_ix hU1 (qv 0) q_int))) (s_op o_mul p_mul s_int (s_ofP (q_ix hU1 (qv 0) q_int)))) s_int) s_int))
      (s_seq (s_asg (i := 3) sc.nd rfl (Or.inl rfl) (s_op o_mod p_mod (s_op o_addB p_add (s_op o_mul p_mul (sv 3) (sv 3)) (s_op o_mul p_mul s_int (sv 3))) s_int))
      (s_one (s_ret (s_op o_mod p_mod (s_op o_fdv p_fdv (sv 3) s_int) (sv 1)))))))))
theorem ok__law_weather (F : FunD K "_law_weather" "_law_weather" (defArgs z__law_weather) (defBody z__law_weather) (defScope z__law_weather) [] [] f fd) (B : Bs K mg) (C__law_choice : CalN P w K mg base [] 1 "_law_choice" ["_law_state_here", "_law_many"] [] m__law_choice) : FnN P w K mg base 2 f fd ["_law_state_here", "_law_limit", "_law_words"] (spM K [] 3 m__law_weather) := by
  have sc := sc__law_weather
  refine okM (T := []) F sc rfl (fun cdv A outer s H E Γ hT hG hr => ?_)
  obtain ⟨U0, H0, A0, m0, T0⟩ := Γ
  obtain rfl : T0 = [] := hT
  have tk := takes_N (P := P) (w := w) (K := K) (mg := mg) (base := base) (N := N__law_weather) (qual := "_law_weather") (scope := defScope z__law_weather) (f := f) (cd := cdv) (A := A) (outer := outer) (s := s) (H := H) (E := E)
  have pO := own_N (P := P) (w := w) (K := K) (mg := mg) (base := base) (N := N__law_weather) (qual := "_law_weather") (scope := defScope z__law_weather) (f := f) (cd := cdv) (A := A) (outer := outer) (s := s) (H := H) (E := E)
  have hU := hr.units
  have hU1 : (A.deeper (envOfC "_law_weather" (defScope z__law_weather) s.heap.objs.size f cdv)).units + 1 < cLine := by have := hr.un; omega
  exact (s_seq (s_asgO (i := 3) sc.nd rfl (Or.inr rfl) s_dnew)
      (s_seq (s_for pO rfl (s_rng1 rfl B.n_range (s_cons (sCl C__law_choice hG hr (by decide) rfl tk (s_cons (sv 0) (s_cons s_int s_nil))) s_nil)) (s_gn (i := 4) sc.nd rfl (Or.inl rfl)) (s_seq (s_asg (i := 5) sc.nd rfl (Or.inl rfl) (s_ix hU1 (sv 2) (sCl C__law_choice hG hr (by decide) rfl tk (s_cons (sv 0) (s_cons (s_cbP c_len o_len rfl B.n_len (by decide +kernel) (q_cons (qv 2) q_nil)) s_nil)))))
      (s_one (s_setB (i := 3) rfl (by first | exact Or.inl rfl | exact Or.inr (Or.inl rfl) | exact Or.inr (Or.inr rfl)) hU1 (s_ife (s_tcmpP (o_eq hU) p_eq (qv 5) q_str (nomark _)) (s_tup (s_cons s_str (s_cons (sCl C__law_choice hG hr (by decide) rfl tk (s_cons (sv 0) (s_cons s_int s_nil))) s_nil))) (s_tup (s_cons (sv 5) s_nil))) (sCl C__law_choice hG hr (by decide) rfl tk (s_cons (sv 0) (s_cons (sv 1) s_nil)))))))
      (s_one (s_ret (s_ct call_tuple_of o_tuple rfl B.n_tuple (by decide +kernel) (s_cons (s_lc (own := [("_law_step", 6)]) rfl sc.nd (s_it (s_frz (s_cbOP (c_srt rfl) o_srt rfl B.n_sorted (by decide +kernel) (q_cons (qv 3) q_nil)))) (blkOk_by (own := [("_law_step", 6)]) (N := N__law_weather) (sc := defScope z__law_weather) (by decide +kernel)) (fun _ _ _ _ _ => (s_gn (i := 6) sc.nd rfl (Or.inl rfl))) (fun _ _ _ _ _ => s_ts0) (fun _ _ _ _ _ => (s_tup (s_cons (sv 6) (s_cons (s_ofP (q_ix hU1 (qv 3) (qv 6))) s_nil))))) s_nil))))))
theorem ok__law_same (F : FunD K "_law_same" "_law_same" (defArgs z__law_same) (defBody z__law_same) (defScope z__law_same) [] [] f fd) (B : Bs K mg) : FnN P w K mg base 1 f fd ["_law_found", "_law_owed"] (spM K [] 2 m__law_same) := by
  have sc := sc__law_same
  refine okM (T := []) F sc rfl (fun cdv A outer s H E Γ hT hG hr => ?_)
  obtain ⟨U0, H0, A0, m0, T0⟩ := Γ
  obtain rfl : T0 = [] := hT
  have tk := takes_N (P := P) (w := w) (K := K) (mg := mg) (base := base) (N := N__law_same) (qual := "_law_same") (scope := defScope z__law_same) (f := f) (cd := cdv) (A := A) (outer := outer) (s := s) (H := H) (E := E)
  have pO := own_N (P := P) (w := w) (K := K) (mg := mg) (base := base) (N := N__law_same) (qual := "_law_same") (scope := defScope z__law_same) (f := f) (cd := cdv) (A := A) (outer := outer) (s := s) (H := H) (E := E)
  have hU := hr.units
  have hU1 : (A.deeper (envOfC "_law_same" (defScope z__law_same) s.heap.objs.size f cdv)).units + 1 < cLine := by have := hr.un; omega
  exact (s_one (s_ret (s_cmp (o_eq hU) p_eq (s_cbP (call_repr hG hU) o_repr rfl B.n_repr (by decide +kernel) (q_cons (qv 0) q_nil)) (s_cbP (call_repr hG hU) o_repr rfl B.n_repr (by decide +kernel) (q_cons (qv 1) q_nil)) (nomark _))))
theorem ok__law_wiped (F : FunD K "_law_wiped" "_law_wiped" (defArgs z__law_wiped) (defBody z__law_wiped) (defScope z__law_wiped) [] [] f fd) (B : Bs K mg) (C__law_choice : CalN P w K mg base [] 1 "_law_choice" ["_law_state_here", "_law_many"] [] m__law_choice) (K_Flash___init__ : MakN P w K mg base [] 6 "Flash" ["self", "blocks", "pages", "weather"] [] m_Flash___init__) (M_Flash_wipe : MetN P w K mg base [] 4 "Flash" "wipe" ["self", "block"] [] m_Flash_wipe) : FnN P w K mg base 8 f fd ["_law_state_here", "_law_blocks", "_law_weather_here"] (spM K [] 3 m__law_wiped) := by
  have sc := sc__law_wiped
  refine okM (T := []) F sc rfl (fun cdv A outer s H E Γ hT hG hr => ?_)
  obtain ⟨U0, H0, A0, m0, T0⟩ := Γ
  obtain rfl : T0 = [] := hT
  have tk := takes_N (P := P) (w := w) (K := K) (mg := mg) (base := base) (N := N__law_wiped) (qual := "_law_wiped") (scope := defScope z__law_wiped) (f := f) (cd := cdv) (A := A) (outer := outer) (s := s) (H := H) (E := E)
  have pO := own_N (P := P) (w := w) (K := K) (mg := mg) (base := base) (N := N__law_wiped) (qual := "_law_wiped") (scope := defScope z__law_wiped) (f := f) (cd := cdv) (A := A) (outer := outer) (s := s) (H := H) (E := E)
  have hU := hr.units
  have hU1 : (A.deeper (envOfC "_law_wiped" (defScope z__law_wiped) s.heap.objs.size f cdv)).units + 1 < cLine := by have := hr.un; omega
  exact (s_seq (s_par (i := 3) (j := 4) rfl sc.nd rfl rfl (by decide) rfl rfl (s_xI (sMk K_Flash___init__ hG hr (by decide) rfl tk (s_cons (sv 1) (s_cons s_int (s_cons (sv 2) s_nil))))) (s_xO (s_mulO (s_lst (s_cons s_int s_nil)) (sv 1))) rfl)
      (s_seq (s_for pO rfl (s_rng1 rfl B.n_range (s_cons s_int s_nil)) (s_gn (i := 5) sc.nd rfl (Or.inl rfl)) (s_seq (s_asg (i := 6) sc.nd rfl (Or.inl rfl) (sCl C__law_choice hG hr (by decide) rfl tk (s_cons (sv 0) (s_cons (sv 1) s_nil))))
      (s_one (s_if (s_tcmpP o_nis p_nis (q_ix hU1 (qv 4) (qv 6)) q_non (nomark _)) (s_one (s_setB (i := 4) rfl (by first | exact Or.inl rfl | exact Or.inr (Or.inl rfl) | exact Or.inr (Or.inr rfl)) hU1 (s_ife (s_tval (sMt M_Flash_wipe hG hr (by decide) tk (sv 3) (s_cons (sv 6) s_nil))) (s_op o_addB p_add (s_ofP (q_ix hU1 (qv 4) (qv 6))) s_int) s_non) (sv 6))) s_end))))
      (s_one (s_ret (s_tup (s_cons (sv 3) (s_cons (sv 4) s_nil)))))))
theorem ok_law (F : FunD K "law" "law" (defArgs z_law) (defBody z_law) (defScope z_law) [] [] f fd) (B : Bs K mg) (C__law_choice : CalN P w K mg base [] 1 "_law_choice" ["_law_state_here", "_law_many"] [] m__law_choice) (C__law_same : CalN P w K mg base [] 1 "_law_same" ["_law_found", "_law_owed"] [] m__law_same) (C__law_state : CalN P w K mg base [] 2 "_law_state" ["_law_script", "_law_k"] [] m__law_state) (C__law_weather : CalN P w K mg base [] 2 "_law_weather" ["_law_state_here", "_law_limit", "_law_words"] [] m__law_weather) (C__law_wiped : CalN P w K mg base [] 8 "_law_wiped" ["_law_state_here", "_law_blocks", "_law_weather_here"] [] m__law_wiped) (C_worn : CalN P w K mg base [] 6 "worn" ["flash"] [] m_worn) (M_Flash_steps : MetN P w K mg base [] 1 "Flash" "steps" ["self"] [] m_Flash_steps) : FnN P w K mg base 9 f fd ["_law_script"] (spM K [] 1 m_law) := by
  have sc := sc_law
  refine okM (T := []) F sc rfl (fun cdv A outer s H E Γ hT hG hr => ?_)
  obtain ⟨U0, H0, A0, m0, T0⟩ := Γ
  obtain rfl : T0 = [] := hT
  have tk := takes_N (P := P) (w := w) (K := K) (mg := mg) (base := base) (N := N_law) (qual := "law") (scope := defScope z_law) (f := f) (cd := cdv) (A := A) (outer := outer) (s := s) (H := H) (E := E)
  have pO := own_N (P := P) (w := w) (K := K) (mg := mg) (base := base) (N := N_law) (qual := "law") (scope := defScope z_law) (f := f) (cd := cdv) (A := A) (outer := outer) (s := s) (H := H) (E := E)
  have hU := hr.units
  have hU1 : (A.deeper (envOfC "law" (defScope z_law) s.heap.objs.size f cdv)).units + 1 < cLine := by have := hr.un; omega
  exact (s_seq (s_for pO rfl (s_rng1 rfl B.n_range (s_cons (s_cb (call_max2 rfl) o_max2 rfl B.n_max (by decide +kernel) (s_cons s_int (s_cons (s_cb (call_min2 rfl) o_min2 rfl B.n_min (by decide +kernel) (s_cons (s_cbP c_len o_len rfl B.n_len (by decide +kernel) (q_cons (qv 0) q_nil)) (s_cons s_int s_nil))) s_nil))) s_nil)) (s_gn (i := 1) sc.nd rfl (Or.inl rfl)) (s_seq (s_asg (i := 2) sc.nd rfl (Or.inl rfl) (sCl C__law_state hG hr (by decide) rfl tk (s_cons (sv 0) (s_cons (sv 1) s_nil))))
      (s_seq (s_asg (i := 3) sc.nd rfl (Or.inl rfl) (s_op o_addB p_add s_int (sCl C__law_choice hG hr (by decide) rfl tk (s_cons (sv 2) (s_cons s_int s_nil)))))
      (s_seq (s_asg (i := 4) sc.nd rfl (Or.inl rfl) (s_ct call_tuple_of o_tuple rfl B.n_tuple (by decide +kernel) (s_cons (s_lc (own := [("_law_step", 11)]) rfl sc.nd (s_rng1 rfl B.n_range (s_cons s_int s_nil)) (blkOk_by (own := [("_law_step", 11)]) (N := N_law) (sc := defScope z_law) (by decide +kernel)) (fun _ _ _ _ _ => (s_gn (i := 11) sc.nd rfl (Or.inl rfl))) (fun _ _ _ _ _ => s_ts0) (fun _ _ _ _ _ => (s_tup (s_cons (sv 11) (s_cons (s_tup (s_cons s_str s_nil)) s_nil))))) s_nil)))
      (s_one (s_for pO rfl (s_it (s_lst (s_cons (sCl C__law_weather hG hr (by decide) rfl tk (s_cons (sv 2) (s_cons s_int (s_cons (s_lst (s_cons s_str (s_cons s_str s_nil))) s_nil)))) (s_cons (s_sl (sv 4) s_po0 (s_po1 (sCl C__law_choice hG hr (by decide) rfl tk (s_cons (sv 2) (s_cons s_int s_nil))))) (s_cons (s_tup s_nil) s_nil))))) (s_gn (i := 5) sc.nd rfl (Or.inl rfl)) (s_seq (s_asgG (sCl C__law_wiped hG hr (by decide) rfl tk (s_cons (sv 2) (s_cons (sv 3) (s_cons (sv 5) s_nil)))) (s_gt rfl (s_gcons (s_gn (i := 6) sc.nd rfl (Or.inl rfl)) (s_gcons (s_gn (i := 7) sc.nd rfl (Or.inl rfl)) s_gnil))))
      (s_seq (s_par (i := 8) (j := 9) rfl sc.nd rfl rfl (by decide) rfl rfl (s_xI (s_lc (own := [("_law_one", 12)]) rfl sc.nd (s_it (sv 7)) (blkOk_by (own := [("_law_one", 12)]) (N := N_law) (sc := defScope z_law) (by decide +kernel)) (fun _ _ _ _ _ => (s_gn (i := 12) sc.nd rfl (Or.inl rfl))) (fun _ _ _ _ _ => (s_ts1 (s_tcmpP o_nis p_nis (qv 12) q_non (nomark _)))) (fun _ _ _ _ _ => (sv 12)))) (s_xI (sMt0 M_Flash_steps hG hr (by decide) tk (sv 6))) rfl)
      (s_seq (s_asg (i := 10) sc.nd rfl (Or.inl rfl) (s_ife (s_tcmp (o_ne hU) p_ne (sv 8) (s_lst s_nil) (nomark _)) (s_tup (s_cons (s_cbP (cr_min rfl) o_minL rfl B.n_min (by decide +kernel) (q_cons (qv 8) q_nil)) (s_cons (s_cbP (cr_max rfl) o_maxL rfl B.n_max (by decide +kernel) (q_cons (qv 8) q_nil)) s_nil))) s_non))
      (s_one (s_if (PW.pt (s_or (s_not (s_tval (sCl C__law_same hG hr (by decide) rfl tk (s_cons (s_lst (s_cons (sCl C_worn hG hr (by decide) rfl tk (s_cons (sv 6) s_nil)) (s_cons (sCl C_worn hG hr (by decide) rfl tk (s_cons (sv 6) s_nil)) s_nil))) (s_cons (s_lst (s_cons (sv 10) (s_cons (sv 10) s_nil))) s_nil))))) (s_or1 (s_tcmp (o_ne hU) p_ne (sMt0 M_Flash_steps hG hr (by decide) tk (sv 6)) (sv 9) (nomark _))))) (s_one (s_ret s_bl)) s_end)))))))))))
      (s_one (s_ret s_bl)))
end
/-! ### the head -/
def dd_is_whole : He.DefD := ⟨("is_whole", none), "is_whole", "is_whole", defArgs z_is_whole, defBody z_is_whole, defScope z_is_whole, [], []⟩
def dd_is_within : He.DefD := ⟨("is_within", none), "is_within", "is_within", defArgs z_is_within, defBody z_is_within, defScope z_is_within, [], []⟩
def dd_rises : He.DefD := ⟨("rises", none), "rises", "rises", defArgs z_rises, defBody z_rises, defScope z_rises, [], []⟩
def dd_is_fault : He.DefD := ⟨("is_fault", none), "is_fault", "is_fault", defArgs z_is_fault, defBody z_is_fault, defScope z_is_fault, [], []⟩
def dd_is_weather : He.DefD := ⟨("is_weather", none), "is_weather", "is_weather", defArgs z_is_weather, defBody z_is_weather, defScope z_is_weather, [], []⟩
def dd_need_weather : He.DefD := ⟨("need_weather", none), "need_weather", "need_weather", defArgs z_need_weather, defBody z_need_weather, defScope z_need_weather, [], []⟩
def dd_need_count : He.DefD := ⟨("need_count", none), "need_count", "need_count", defArgs z_need_count, defBody z_need_count, defScope z_need_count, [], []⟩
def dd_Flash___init__ : He.DefD := ⟨("Flash", some "__init__"), "__init__", "Flash.__init__", defArgs z_Flash___init__, defBody z_Flash___init__, defScope z_Flash___init__, [.adr (He.dflAt ("Flash", some "__init__") 0)], []⟩
def dd_Flash_need_power : He.DefD := ⟨("Flash", some "need_power"), "need_power", "Flash.need_power", defArgs z_Flash_need_power, defBody z_Flash_need_power, defScope z_Flash_need_power, [], []⟩
def dd_Flash_need_block : He.DefD := ⟨("Flash", some "need_block"), "need_block", "Flash.need_block", defArgs z_Flash_need_block, defBody z_Flash_need_block, defScope z_Flash_need_block, [], []⟩
def dd_Flash_fault : He.DefD := ⟨("Flash", some "fault"), "fault", "Flash.fault", defArgs z_Flash_fault, defBody z_Flash_fault, defScope z_Flash_fault, [], []⟩
def dd_Flash_go_off : He.DefD := ⟨("Flash", some "go_off"), "go_off", "Flash.go_off", defArgs z_Flash_go_off, defBody z_Flash_go_off, defScope z_Flash_go_off, [], []⟩
def dd_Flash_fails : He.DefD := ⟨("Flash", some "fails"), "fails", "Flash.fails", defArgs z_Flash_fails, defBody z_Flash_fails, defScope z_Flash_fails, [], []⟩
def dd_Flash_wipe : He.DefD := ⟨("Flash", some "wipe"), "wipe", "Flash.wipe", defArgs z_Flash_wipe, defBody z_Flash_wipe, defScope z_Flash_wipe, [], []⟩
def dd_Flash_wipes : He.DefD := ⟨("Flash", some "wipes"), "wipes", "Flash.wipes", defArgs z_Flash_wipes, defBody z_Flash_wipes, defScope z_Flash_wipes, [], []⟩
def dd_Flash_is_bad : He.DefD := ⟨("Flash", some "is_bad"), "is_bad", "Flash.is_bad", defArgs z_Flash_is_bad, defBody z_Flash_is_bad, defScope z_Flash_is_bad, [], []⟩
def dd_Flash_steps : He.DefD := ⟨("Flash", some "steps"), "steps", "Flash.steps", defArgs z_Flash_steps, defBody z_Flash_steps, defScope z_Flash_steps, [], []⟩
def dd_Flash_blocks : He.DefD := ⟨("Flash", some "blocks"), "blocks", "Flash.blocks", defArgs z_Flash_blocks, defBody z_Flash_blocks, defScope z_Flash_blocks, [], []⟩
def dd_good_blocks : He.DefD := ⟨("good_blocks", none), "good_blocks", "good_blocks", defArgs z_good_blocks, defBody z_good_blocks, defScope z_good_blocks, [], []⟩
def dd_worn : He.DefD := ⟨("worn", none), "worn", "worn", defArgs z_worn, defBody z_worn, defScope z_worn, [], []⟩
def dd__law_cell_at : He.DefD := ⟨("_law_cell_at", none), "_law_cell_at", "_law_cell_at", defArgs z__law_cell_at, defBody z__law_cell_at, defScope z__law_cell_at, [], []⟩
def dd__law_state : He.DefD := ⟨("_law_state", none), "_law_state", "_law_state", defArgs z__law_state, defBody z__law_state, defScope z__law_state, [], []⟩
def dd__law_choice : He.DefD := ⟨("_law_choice", none), "_law_choice", "_law_choice", defArgs z__law_choice, defBody z__law_choice, defScope z__law_choice, [], []⟩
def dd__law_weather : He.DefD := ⟨("_law_weather", none), "_law_weather", "_law_weather", defArgs z__law_weather, defBody z__law_weather, defScope z__law_weather, [], []⟩
def dd__law_same : He.DefD := ⟨("_law_same", none), "_law_same", "_law_same", defArgs z__law_same, defBody z__law_same, defScope z__law_same, [], []⟩
def dd__law_wiped : He.DefD := ⟨("_law_wiped", none), "_law_wiped", "_law_wiped", defArgs z__law_wiped, defBody z__law_wiped, defScope z__law_wiped, [], []⟩
def dd_law : He.DefD := ⟨("law", none), "law", "law", defArgs z_law, defBody z_law, defScope z_law, [], []⟩
def fn : List He.DefD := [dd_is_whole, dd_is_within, dd_rises, dd_is_fault, dd_is_weather, dd_need_weather, dd_need_count, dd_Flash___init__, dd_Flash_need_power, dd_Flash_need_block, dd_Flash_fault, dd_Flash_go_off, dd_Flash_fails, dd_Flash_wipe, dd_Flash_wipes, dd_Flash_is_bad, dd_Flash_steps, dd_Flash_blocks, dd_good_blocks, dd_worn, dd__law_cell_at, dd__law_state, dd__law_choice, dd__law_weather, dd__law_same, dd__law_wiped, dd_law]
def fa : List He.Fa := [.free "all", .free "bool", .free "dict", .free "int", .free "isinstance", .free "len", .free "list", .free "max", .free "min", .free "range", .free "repr", .free "sorted", .free "str", .free "tuple", .free "zip", .glo "BAD", .glo "CUT", .glo "FINE", .int "MOST_BLOCKS" 8, .int "MOST_FAULTS" 40, .int "MOST_PAGES" 8, .int "MOST_STEP" 9999, .str "TORN" "torn", .int "WORD_BITS" 47, .glo "Flash", .exc "Bad", .glo "Bad", .exc "NoBlock", .glo "NoBlock", .exc "NoFlash", .glo "NoFlash", .exc "NoNumber", .glo "NoNumber", .exc "NoWeather", .glo "NoWeather", .exc "Off", .glo "Off", .noat "Flash" "cells", .noat "Flash" "count", .noat "Flash" "failed", .noat "Flash" "faults", .noat "Flash" "power", .noat "Flash" "worn", .cls "Flash", .glo "is_whole", .glo "is_within", .glo "rises", .glo "is_fault", .glo "is_weather", .glo "need_weather", .glo "need_count", .mkr "Flash", .meth "Flash" "need_power", .meth "Flash" "need_block", .meth "Flash" "fault", .meth "Flash" "go_off", .meth "Flash" "fails", .meth "Flash" "wipe", .meth "Flash" "wipes", .meth "Flash" "is_bad", .meth "Flash" "steps", .meth "Flash" "blocks", .glo "good_blocks", .glo "worn", .glo "_law_cell_at", .glo "_law_state", .glo "_law_choice", .glo "_law_weather", .glo "_law_same", .glo "_law_wiped", .glo "law"]
def ex (K : PySem.W.Frag) : Bool := (He.tupB K "BAD" [.str "bad"]) && (He.tupB K "CUT" [.str "cut"]) && (He.tupB K "FINE" [.str "fine"]) && (isfB K "Flash" []) && (nilT K (He.dflAt ("Flash", some "__init__") 0 K)) && true
abbrev R : PySem.W.OpenRow := PySem.W.OpenLaw.row PySem.Challenge.rw_flashkeep_k29_wear_of_blocks
abbrev hk : PySem.W.Hook := hookA fa fn ex
noncomputable abbrev ob : PySem.W.SharedT → He.AlD × Bool := obA fa fn ex
def loose0 : List Str := ["_wall", "FlashError", "NoNumber", "NoWord", "NoWeather", "NoBlock", "NoPage", "NoFlash", "Off", "Written", "Bad", "is_whole", "is_within", "rises", "WORD_BITS", "need_word", "MOST_FAULTS", "MOST_STEP", "MOST_BLOCKS", "MOST_PAGES", "TORN", "CUT", "BAD", "FINE", "is_fault"]
def loose1 : List Str := ["is_weather", "need_weather", "need_count", "Flash", "good_blocks", "worn", "_law_cell_at", "_law_state", "_law_choice", "_law_weather", "_law_same", "_law_wiped"]
def loose : List Str := loose0 ++ loose1
theorem run (w : World) : HandSHeadRun.RunEq R (PySem.W.view R.prog [44]) hk ob 20000 loose w := by
  intro os
  kernel_rfl
theorem facts {P : Program} {w : World} {K : PySem.W.Frag} {h : Heap} {mg : Str → Option Value} {f : Addr} (X : K.In h) (G : h.Ns mainGlobals mg) (hfa : mg ("law" : Str) = some (.ref f)) (c : obsK fa fn ex K = (He.valD fn, true)) :
    ∃ fd : FuncData, (∀ (s : Shared) (v : Value), BindsTo s fd ⟨[v], []⟩ [("_law_script", v)]) ∧ ∀ base : Heap, K.In base → base.Ns mainGlobals mg → FnN P w K mg base 9 f fd ["_law_script"] (spM K [] 1 m_law) := by
  have cD : He.SaysD fa fn K := congrArg (fun z : He.AlD × Bool => z.1) c
  have mo : ex K = true := congrArg (fun z : He.AlD × Bool => z.2) c
  simp only [ex, Bool.and_eq_true] at mo
  obtain ⟨⟨⟨⟨⟨m0, m1⟩, m2⟩, m3⟩, m4⟩, _⟩ := mo
  have B : Bs K mg := {
    yes := trivial
    n_all := He.free_ok X G (cD.fact 0 (f := .free "all") rfl)
    n_bool := He.free_ok X G (cD.fact 1 (f := .free "bool") rfl)
    n_dict := He.free_ok X G (cD.fact 2 (f := .free "dict") rfl)
    n_int := He.free_ok X G (cD.fact 3 (f := .free "int") rfl)
    n_isinstance := He.free_ok X G (cD.fact 4 (f := .free "isinstance") rfl)
    n_len := He.free_ok X G (cD.fact 5 (f := .free "len") rfl)
    n_list := He.free_ok X G (cD.fact 6 (f := .free "list") rfl)
    n_max := He.free_ok X G (cD.fact 7 (f := .free "max") rfl)
    n_min := He.free_ok X G (cD.fact 8 (f := .free "min") rfl)
    n_range := He.free_ok X G (cD.fact 9 (f := .free "range") rfl)
    n_repr := He.free_ok X G (cD.fact 10 (f := .free "repr") rfl)
    n_sorted := He.free_ok X G (cD.fact 11 (f := .free "sorted") rfl)
    n_str := He.free_ok X G (cD.fact 12 (f := .free "str") rfl)
    n_tuple := He.free_ok X G (cD.fact 13 (f := .free "tuple") rfl)
    n_zip := He.free_ok X G (cD.fact 14 (f := .free "zip") rfl)
    r_BAD := He.glo_ok X G (cD.fact 15 (f := .glo "BAD") rfl)
    p_BAD := rp_tupC (fun H => He.tupB_ok m0 H) (fun _ _ _ => (.str .nil))
    r_CUT := He.glo_ok X G (cD.fact 16 (f := .glo "CUT") rfl)
    p_CUT := rp_tupC (fun H => He.tupB_ok m1 H) (fun _ _ _ => (.str .nil))
    r_FINE := He.glo_ok X G (cD.fact 17 (f := .glo "FINE") rfl)
    p_FINE := rp_tupC (fun H => He.tupB_ok m2 H) (fun _ _ _ => (.str .nil))
    c_MOST_BLOCKS := He.int_ok X G (cD.fact 18 (f := .int "MOST_BLOCKS" 8) rfl)
    c_MOST_FAULTS := He.int_ok X G (cD.fact 19 (f := .int "MOST_FAULTS" 40) rfl)
    c_MOST_PAGES := He.int_ok X G (cD.fact 20 (f := .int "MOST_PAGES" 8) rfl)
    c_MOST_STEP := He.int_ok X G (cD.fact 21 (f := .int "MOST_STEP" 9999) rfl)
    c_TORN := He.str_ok X G (cD.fact 22 (f := .str "TORN" "torn") rfl)
    c_WORD_BITS := He.int_ok X G (cD.fact 23 (f := .int "WORD_BITS" 47) rfl)
    r_Flash := He.glo_ok X G (cD.fact 24 (f := .glo "Flash") rfl)
    x_Bad := let q := He.exc_ok (x := "Bad") (cD.fact 25 (f := .exc "Bad") rfl); ⟨He.glo_ok X G (cD.fact 26 (f := .glo "Bad") rfl), q.1, q.2.1, q.2.2.1, q.2.2.2⟩
    x_NoBlock := let q := He.exc_ok (x := "NoBlock") (cD.fact 27 (f := .exc "NoBlock") rfl); ⟨He.glo_ok X G (cD.fact 28 (f := .glo "NoBlock") rfl), q.1, q.2.1, q.2.2.1, q.2.2.2⟩
    x_NoFlash := let q := He.exc_ok (x := "NoFlash") (cD.fact 29 (f := .exc "NoFlash") rfl); ⟨He.glo_ok X G (cD.fact 30 (f := .glo "NoFlash") rfl), q.1, q.2.1, q.2.2.1, q.2.2.2⟩
    x_NoNumber := let q := He.exc_ok (x := "NoNumber") (cD.fact 31 (f := .exc "NoNumber") rfl); ⟨He.glo_ok X G (cD.fact 32 (f := .glo "NoNumber") rfl), q.1, q.2.1, q.2.2.1, q.2.2.2⟩
    x_NoWeather := let q := He.exc_ok (x := "NoWeather") (cD.fact 33 (f := .exc "NoWeather") rfl); ⟨He.glo_ok X G (cD.fact 34 (f := .glo "NoWeather") rfl), q.1, q.2.1, q.2.2.1, q.2.2.2⟩
    x_Off := let q := He.exc_ok (x := "Off") (cD.fact 35 (f := .exc "Off") rfl); ⟨He.glo_ok X G (cD.fact 36 (f := .glo "Off") rfl), q.1, q.2.1, q.2.2.1, q.2.2.2⟩
    f_Flash := ⟨He.cls_ok (cD.fact 43 (f := .cls "Flash") rfl), fun f hf => by
      simp only [List.mem_cons, List.mem_nil_iff, or_false] at hf
      rcases hf with rfl | rfl | rfl | rfl | rfl | rfl <;> first | exact He.noat_ok (cD.fact 37 (f := .noat "Flash" "cells") rfl) | exact He.noat_ok (cD.fact 38 (f := .noat "Flash" "count") rfl) | exact He.noat_ok (cD.fact 39 (f := .noat "Flash" "failed") rfl) | exact He.noat_ok (cD.fact 40 (f := .noat "Flash" "faults") rfl) | exact He.noat_ok (cD.fact 41 (f := .noat "Flash" "power") rfl) | exact He.noat_ok (cD.fact 42 (f := .noat "Flash" "worn") rfl)⟩
    i_Flash := isfB_ok m3
    l_Flash := fun D hD => by
      simp only [List.mem_cons, List.mem_nil_iff, or_false] at hD
      rcases hD with rfl <;> first | exact He.cls_ok (cD.fact 43 (f := .cls "Flash") rfl)
  }
  obtain ⟨fd_is_whole, F_is_whole⟩ := cD.def_ 0 (d := dd_is_whole) rfl
  obtain ⟨fd_is_within, F_is_within⟩ := cD.def_ 1 (d := dd_is_within) rfl
  obtain ⟨fd_rises, F_rises⟩ := cD.def_ 2 (d := dd_rises) rfl
  obtain ⟨fd_is_fault, F_is_fault⟩ := cD.def_ 3 (d := dd_is_fault) rfl
  obtain ⟨fd_is_weather, F_is_weather⟩ := cD.def_ 4 (d := dd_is_weather) rfl
  obtain ⟨fd_need_weather, F_need_weather⟩ := cD.def_ 5 (d := dd_need_weather) rfl
  obtain ⟨fd_need_count, F_need_count⟩ := cD.def_ 6 (d := dd_need_count) rfl
  obtain ⟨fd_Flash___init__, F_Flash___init__⟩ := cD.def_ 7 (d := dd_Flash___init__) rfl
  obtain ⟨fd_Flash_need_power, F_Flash_need_power⟩ := cD.def_ 8 (d := dd_Flash_need_power) rfl
  obtain ⟨fd_Flash_need_block, F_Flash_need_block⟩ := cD.def_ 9 (d := dd_Flash_need_block) rfl
  obtain ⟨fd_Flash_fault, F_Flash_fault⟩ := cD.def_ 10 (d := dd_Flash_fault) rfl
  obtain ⟨fd_Flash_go_off, F_Flash_go_off⟩ := cD.def_ 11 (d := dd_Flash_go_off) rfl
  obtain ⟨fd_Flash_fails, F_Flash_fails⟩ := cD.def_ 12 (d := dd_Flash_fails) rfl
  obtain ⟨fd_Flash_wipe, F_Flash_wipe⟩ := cD.def_ 13 (d := dd_Flash_wipe) rfl
  obtain ⟨fd_Flash_wipes, F_Flash_wipes⟩ := cD.def_ 14 (d := dd_Flash_wipes) rfl
  obtain ⟨fd_Flash_is_bad, F_Flash_is_bad⟩ := cD.def_ 15 (d := dd_Flash_is_bad) rfl
  obtain ⟨fd_Flash_steps, F_Flash_steps⟩ := cD.def_ 16 (d := dd_Flash_steps) rfl
  obtain ⟨fd_Flash_blocks, F_Flash_blocks⟩ := cD.def_ 17 (d := dd_Flash_blocks) rfl
  obtain ⟨fd_good_blocks, F_good_blocks⟩ := cD.def_ 18 (d := dd_good_blocks) rfl
  obtain ⟨fd_worn, F_worn⟩ := cD.def_ 19 (d := dd_worn) rfl
  obtain ⟨fd__law_cell_at, F__law_cell_at⟩ := cD.def_ 20 (d := dd__law_cell_at) rfl
  obtain ⟨fd__law_state, F__law_state⟩ := cD.def_ 21 (d := dd__law_state) rfl
  obtain ⟨fd__law_choice, F__law_choice⟩ := cD.def_ 22 (d := dd__law_choice) rfl
  obtain ⟨fd__law_weather, F__law_weather⟩ := cD.def_ 23 (d := dd__law_weather) rfl
  obtain ⟨fd__law_same, F__law_same⟩ := cD.def_ 24 (d := dd__law_same) rfl
  obtain ⟨fd__law_wiped, F__law_wiped⟩ := cD.def_ 25 (d := dd__law_wiped) rfl
  obtain ⟨fd_law, F_law⟩ := cD.def_ 26 (d := dd_law) rfl
  have e := hfa.symm.trans (He.glo_ok X G (cD.fact 70 (f := .glo "law") rfl))
  cases e
  have b := FunD.bindsA (ps := ["_law_script"]) F_law fun _ _ _ _ _ _ us hl => match us, hl with | [_], _ => rfl
  refine ⟨fd_law, fun s v => b s [v] rfl, fun base _ _ => ?_⟩
  have o_is_whole := ok_is_whole (P := P) (w := w) (base := base) F_is_whole B 
  have biC_is_whole : Binds K fd_is_whole ["thing"] [] := F_is_whole.bindsN (fun _ _ _ _ _ _ us hl => match us, hl with | [_], _ => rfl)
  have C_is_whole : CalN P w K mg base [] 1 "is_whole" ["thing"] [] m_is_whole := ⟨⟨_, _, [], [], o_is_whole, He.glo_ok X G (cD.fact 44 (f := .glo "is_whole") rfl), F_is_whole.kp, biC_is_whole, .nil, fun _ _ _ => .nil⟩⟩
  have o_is_within := ok_is_within (P := P) (w := w) (base := base) F_is_within B C_is_whole
  have biC_is_within : Binds K fd_is_within ["thing", "least", "most"] [] := F_is_within.bindsN (fun _ _ _ _ _ _ us hl => match us, hl with | [_, _, _], _ => rfl)
  have C_is_within : CalN P w K mg base [] 2 "is_within" ["thing", "least", "most"] [] m_is_within := ⟨⟨_, _, [], [], o_is_within, He.glo_ok X G (cD.fact 45 (f := .glo "is_within") rfl), F_is_within.kp, biC_is_within, .nil, fun _ _ _ => .nil⟩⟩
  have o_rises := ok_rises (P := P) (w := w) (base := base) F_rises B 
  have biC_rises : Binds K fd_rises ["row"] [] := F_rises.bindsN (fun _ _ _ _ _ _ us hl => match us, hl with | [_], _ => rfl)
  have C_rises : CalN P w K mg base [] 1 "rises" ["row"] [] m_rises := ⟨⟨_, _, [], [], o_rises, He.glo_ok X G (cD.fact 46 (f := .glo "rises") rfl), F_rises.kp, biC_rises, .nil, fun _ _ _ => .nil⟩⟩
  have o_is_fault := ok_is_fault (P := P) (w := w) (base := base) F_is_fault B C_is_within
  have biC_is_fault : Binds K fd_is_fault ["thing"] [] := F_is_fault.bindsN (fun _ _ _ _ _ _ us hl => match us, hl with | [_], _ => rfl)
  have C_is_fault : CalN P w K mg base [] 3 "is_fault" ["thing"] [] m_is_fault := ⟨⟨_, _, [], [], o_is_fault, He.glo_ok X G (cD.fact 47 (f := .glo "is_fault") rfl), F_is_fault.kp, biC_is_fault, .nil, fun _ _ _ => .nil⟩⟩
  have o_is_weather := ok_is_weather (P := P) (w := w) (base := base) F_is_weather B C_is_fault C_is_within C_rises
  have biC_is_weather : Binds K fd_is_weather ["thing"] [] := F_is_weather.bindsN (fun _ _ _ _ _ _ us hl => match us, hl with | [_], _ => rfl)
  have C_is_weather : CalN P w K mg base [] 4 "is_weather" ["thing"] [] m_is_weather := ⟨⟨_, _, [], [], o_is_weather, He.glo_ok X G (cD.fact 48 (f := .glo "is_weather") rfl), F_is_weather.kp, biC_is_weather, .nil, fun _ _ _ => .nil⟩⟩
  have o_need_weather := ok_need_weather (P := P) (w := w) (base := base) F_need_weather B C_is_weather
  have biC_need_weather : Binds K fd_need_weather ["thing"] [] := F_need_weather.bindsN (fun _ _ _ _ _ _ us hl => match us, hl with | [_], _ => rfl)
  have C_need_weather : CalN P w K mg base [] 5 "need_weather" ["thing"] [] m_need_weather := ⟨⟨_, _, [], [], o_need_weather, He.glo_ok X G (cD.fact 49 (f := .glo "need_weather") rfl), F_need_weather.kp, biC_need_weather, .nil, fun _ _ _ => .nil⟩⟩
  have o_need_count := ok_need_count (P := P) (w := w) (base := base) F_need_count B C_is_within
  have biC_need_count : Binds K fd_need_count ["thing", "most"] [] := F_need_count.bindsN (fun _ _ _ _ _ _ us hl => match us, hl with | [_, _], _ => rfl)
  have C_need_count : CalN P w K mg base [] 3 "need_count" ["thing", "most"] [] m_need_count := ⟨⟨_, _, [], [], o_need_count, He.glo_ok X G (cD.fact 50 (f := .glo "need_count") rfl), F_need_count.kp, biC_need_count, .nil, fun _ _ _ => .nil⟩⟩
  have o_Flash___init__ := ok_Flash___init__ (P := P) (w := w) (base := base) F_Flash___init__ B C_need_count C_need_weather
  obtain ⟨dsK_Flash___init__, dvK_Flash___init__, biK_Flash___init__⟩ := FunD.binds1 (ps := ["self", "blocks", "pages", "weather"]) F_Flash___init__ 4 1 (fun h => nomatch h) rfl (fun T kV doc pm an cdv ct us its hl hl2 => match us, hl, its, hl2 with | [_, _, _, _], _, [_], _ => ⟨_, rfl, rfl⟩)
  have K_Flash___init__ : MakN P w K mg base [] 6 "Flash" ["self", "blocks", "pages", "weather"] [] m_Flash___init__ := ⟨⟨_, _, _, _, o_Flash___init__, He.glo_ok X G (cD.fact 24 (f := .glo "Flash") rfl), He.mkr_ok (cD.fact 51 (f := .mkr "Flash") rfl), biK_Flash___init__, dvK_Flash___init__, fun _ _ _ => .nil⟩⟩
  have o_Flash_need_power := ok_Flash_need_power (P := P) (w := w) (base := base) F_Flash_need_power B 
  have biM_Flash_need_power : Binds K fd_Flash_need_power ["self"] [] := F_Flash_need_power.bindsN (fun _ _ _ _ _ _ us hl => match us, hl with | [_], _ => rfl)
  have M_Flash_need_power : MetN P w K mg base [] 1 "Flash" "need_power" ["self"] [] m_Flash_need_power := ⟨He.cls_ok (cD.fact 43 (f := .cls "Flash") rfl), ⟨_, _, [], [], o_Flash_need_power, He.meth_ok (cD.fact 52 (f := .meth "Flash" "need_power") rfl), biM_Flash_need_power, .nil, fun _ _ _ => .nil⟩⟩
  have o_Flash_need_block := ok_Flash_need_block (P := P) (w := w) (base := base) F_Flash_need_block B C_is_within
  have biM_Flash_need_block : Binds K fd_Flash_need_block ["self", "block"] [] := F_Flash_need_block.bindsN (fun _ _ _ _ _ _ us hl => match us, hl with | [_, _], _ => rfl)
  have M_Flash_need_block : MetN P w K mg base [] 3 "Flash" "need_block" ["self", "block"] [] m_Flash_need_block := ⟨He.cls_ok (cD.fact 43 (f := .cls "Flash") rfl), ⟨_, _, [], [], o_Flash_need_block, He.meth_ok (cD.fact 53 (f := .meth "Flash" "need_block") rfl), biM_Flash_need_block, .nil, fun _ _ _ => .nil⟩⟩
  have o_Flash_fault := ok_Flash_fault (P := P) (w := w) (base := base) F_Flash_fault B 
  have biM_Flash_fault : Binds K fd_Flash_fault ["self"] [] := F_Flash_fault.bindsN (fun _ _ _ _ _ _ us hl => match us, hl with | [_], _ => rfl)
  have M_Flash_fault : MetN P w K mg base [] 1 "Flash" "fault" ["self"] [] m_Flash_fault := ⟨He.cls_ok (cD.fact 43 (f := .cls "Flash") rfl), ⟨_, _, [], [], o_Flash_fault, He.meth_ok (cD.fact 54 (f := .meth "Flash" "fault") rfl), biM_Flash_fault, .nil, fun _ _ _ => .nil⟩⟩
  have o_Flash_go_off := ok_Flash_go_off (P := P) (w := w) (base := base) F_Flash_go_off B 
  have biM_Flash_go_off : Binds K fd_Flash_go_off ["self"] [] := F_Flash_go_off.bindsN (fun _ _ _ _ _ _ us hl => match us, hl with | [_], _ => rfl)
  have M_Flash_go_off : MetN P w K mg base [] 1 "Flash" "go_off" ["self"] [] m_Flash_go_off := ⟨He.cls_ok (cD.fact 43 (f := .cls "Flash") rfl), ⟨_, _, [], [], o_Flash_go_off, He.meth_ok (cD.fact 55 (f := .meth "Flash" "go_off") rfl), biM_Flash_go_off, .nil, fun _ _ _ => .nil⟩⟩
  have o_Flash_fails := ok_Flash_fails (P := P) (w := w) (base := base) F_Flash_fails B 
  have biM_Flash_fails : Binds K fd_Flash_fails ["self", "block"] [] := F_Flash_fails.bindsN (fun _ _ _ _ _ _ us hl => match us, hl with | [_, _], _ => rfl)
  have M_Flash_fails : MetN P w K mg base [] 1 "Flash" "fails" ["self", "block"] [] m_Flash_fails := ⟨He.cls_ok (cD.fact 43 (f := .cls "Flash") rfl), ⟨_, _, [], [], o_Flash_fails, He.meth_ok (cD.fact 56 (f := .meth "Flash" "fails") rfl), biM_Flash_fails, .nil, fun _ _ _ => .nil⟩⟩
  have o_Flash_wipe := ok_Flash_wipe (P := P) (w := w) (base := base) F_Flash_wipe B M_Flash_fails M_Flash_fault M_Flash_go_off M_Flash_need_block M_Flash_need_power
  have biM_Flash_wipe : Binds K fd_Flash_wipe ["self", "block"] [] := F_Flash_wipe.bindsN (fun _ _ _ _ _ _ us hl => match us, hl with | [_, _], _ => rfl)
  have M_Flash_wipe : MetN P w K mg base [] 4 "Flash" "wipe" ["self", "block"] [] m_Flash_wipe := ⟨He.cls_ok (cD.fact 43 (f := .cls "Flash") rfl), ⟨_, _, [], [], o_Flash_wipe, He.meth_ok (cD.fact 57 (f := .meth "Flash" "wipe") rfl), biM_Flash_wipe, .nil, fun _ _ _ => .nil⟩⟩
  have o_Flash_wipes := ok_Flash_wipes (P := P) (w := w) (base := base) F_Flash_wipes B M_Flash_need_block
  have biM_Flash_wipes : Binds K fd_Flash_wipes ["self", "block"] [] := F_Flash_wipes.bindsN (fun _ _ _ _ _ _ us hl => match us, hl with | [_, _], _ => rfl)
  have M_Flash_wipes : MetN P w K mg base [] 4 "Flash" "wipes" ["self", "block"] [] m_Flash_wipes := ⟨He.cls_ok (cD.fact 43 (f := .cls "Flash") rfl), ⟨_, _, [], [], o_Flash_wipes, He.meth_ok (cD.fact 58 (f := .meth "Flash" "wipes") rfl), biM_Flash_wipes, .nil, fun _ _ _ => .nil⟩⟩
  have o_Flash_is_bad := ok_Flash_is_bad (P := P) (w := w) (base := base) F_Flash_is_bad B M_Flash_need_block
  have biM_Flash_is_bad : Binds K fd_Flash_is_bad ["self", "block"] [] := F_Flash_is_bad.bindsN (fun _ _ _ _ _ _ us hl => match us, hl with | [_, _], _ => rfl)
  have M_Flash_is_bad : MetN P w K mg base [] 4 "Flash" "is_bad" ["self", "block"] [] m_Flash_is_bad := ⟨He.cls_ok (cD.fact 43 (f := .cls "Flash") rfl), ⟨_, _, [], [], o_Flash_is_bad, He.meth_ok (cD.fact 59 (f := .meth "Flash" "is_bad") rfl), biM_Flash_is_bad, .nil, fun _ _ _ => .nil⟩⟩
  have o_Flash_steps := ok_Flash_steps (P := P) (w := w) (base := base) F_Flash_steps B 
  have biM_Flash_steps : Binds K fd_Flash_steps ["self"] [] := F_Flash_steps.bindsN (fun _ _ _ _ _ _ us hl => match us, hl with | [_], _ => rfl)
  have M_Flash_steps : MetN P w K mg base [] 1 "Flash" "steps" ["self"] [] m_Flash_steps := ⟨He.cls_ok (cD.fact 43 (f := .cls "Flash") rfl), ⟨_, _, [], [], o_Flash_steps, He.meth_ok (cD.fact 60 (f := .meth "Flash" "steps") rfl), biM_Flash_steps, .nil, fun _ _ _ => .nil⟩⟩
  have o_Flash_blocks := ok_Flash_blocks (P := P) (w := w) (base := base) F_Flash_blocks B 
  have biM_Flash_blocks : Binds K fd_Flash_blocks ["self"] [] := F_Flash_blocks.bindsN (fun _ _ _ _ _ _ us hl => match us, hl with | [_], _ => rfl)
  have M_Flash_blocks : MetN P w K mg base [] 1 "Flash" "blocks" ["self"] [] m_Flash_blocks := ⟨He.cls_ok (cD.fact 43 (f := .cls "Flash") rfl), ⟨_, _, [], [], o_Flash_blocks, He.meth_ok (cD.fact 61 (f := .meth "Flash" "blocks") rfl), biM_Flash_blocks, .nil, fun _ _ _ => .nil⟩⟩
  have o_good_blocks := ok_good_blocks (P := P) (w := w) (base := base) F_good_blocks B M_Flash_blocks M_Flash_is_bad
  have biC_good_blocks : Binds K fd_good_blocks ["flash"] [] := F_good_blocks.bindsN (fun _ _ _ _ _ _ us hl => match us, hl with | [_], _ => rfl)
  have C_good_blocks : CalN P w K mg base [] 5 "good_blocks" ["flash"] [] m_good_blocks := ⟨⟨_, _, [], [], o_good_blocks, He.glo_ok X G (cD.fact 62 (f := .glo "good_blocks") rfl), F_good_blocks.kp, biC_good_blocks, .nil, fun _ _ _ => .nil⟩⟩
  have o_worn := ok_worn (P := P) (w := w) (base := base) F_worn B C_good_blocks M_Flash_wipes
  have biC_worn : Binds K fd_worn ["flash"] [] := F_worn.bindsN (fun _ _ _ _ _ _ us hl => match us, hl with | [_], _ => rfl)
  have C_worn : CalN P w K mg base [] 6 "worn" ["flash"] [] m_worn := ⟨⟨_, _, [], [], o_worn, He.glo_ok X G (cD.fact 63 (f := .glo "worn") rfl), F_worn.kp, biC_worn, .nil, fun _ _ _ => .nil⟩⟩
  have o__law_cell_at := ok__law_cell_at (P := P) (w := w) (base := base) F__law_cell_at B 
  have biC__law_cell_at : Binds K fd__law_cell_at ["_law_script", "_law_k"] [] := F__law_cell_at.bindsN (fun _ _ _ _ _ _ us hl => match us, hl with | [_, _], _ => rfl)
  have C__law_cell_at : CalN P w K mg base [] 1 "_law_cell_at" ["_law_script", "_law_k"] [] m__law_cell_at := ⟨⟨_, _, [], [], o__law_cell_at, He.glo_ok X G (cD.fact 64 (f := .glo "_law_cell_at") rfl), F__law_cell_at.kp, biC__law_cell_at, .nil, fun _ _ _ => .nil⟩⟩
  have o__law_state := ok__law_state (P := P) (w := w) (base := base) F__law_state B C__law_cell_at
  have biC__law_state : Binds K fd__law_state ["_law_script", "_law_k"] [] := F__law_state.bindsN (fun _ _ _ _ _ _ us hl => match us, hl with | [_, _], _ => rfl)
  have C__law_state : CalN P w K mg base [] 2 "_law_state" ["_law_script", "_law_k"] [] m__law_state := ⟨⟨_, _, [], [], o__law_state, He.glo_ok X G (cD.fact 65 (f := .glo "_law_state") rfl), F__law_state.kp, biC__law_state, .nil, fun _ _ _ => .nil⟩⟩
  have o__law_choice := ok__law_choice (P := P) (w := w) (base := base) F__law_choice B 
  have biC__law_choice : Binds K fd__law_choice ["_law_state_here", "_law_many"] [] := F__law_choice.bindsN (fun _ _ _ _ _ _ us hl => match us, hl with | [_, _], _ => rfl)
  have C__law_choice : CalN P w K mg base [] 1 "_law_choice" ["_law_state_here", "_law_many"] [] m__law_choice := ⟨⟨_, _, [], [], o__law_choice, He.glo_ok X G (cD.fact 66 (f := .glo "_law_choice") rfl), F__law_choice.kp, biC__law_choice, .nil, fun _ _ _ => .nil⟩⟩
  have o__law_weather := ok__law_weather (P := P) (w := w) (base := base) F__law_weather B C__law_choice
  have biC__law_weather : Binds K fd__law_weather ["_law_state_here", "_law_limit", "_law_words"] [] := F__law_weather.bindsN (fun _ _ _ _ _ _ us hl => match us, hl with | [_, _, _], _ => rfl)
  have C__law_weather : CalN P w K mg base [] 2 "_law_weather" ["_law_state_here", "_law_limit", "_law_words"] [] m__law_weather := ⟨⟨_, _, [], [], o__law_weather, He.glo_ok X G (cD.fact 67 (f := .glo "_law_weather") rfl), F__law_weather.kp, biC__law_weather, .nil, fun _ _ _ => .nil⟩⟩
  have o__law_same := ok__law_same (P := P) (w := w) (base := base) F__law_same B 
  have biC__law_same : Binds K fd__law_same ["_law_found", "_law_owed"] [] := F__law_same.bindsN (fun _ _ _ _ _ _ us hl => match us, hl with | [_, _], _ => rfl)
  have C__law_same : CalN P w K mg base [] 1 "_law_same" ["_law_found", "_law_owed"] [] m__law_same := ⟨⟨_, _, [], [], o__law_same, He.glo_ok X G (cD.fact 68 (f := .glo "_law_same") rfl), F__law_same.kp, biC__law_same, .nil, fun _ _ _ => .nil⟩⟩
  have o__law_wiped := ok__law_wiped (P := P) (w := w) (base := base) F__law_wiped B C__law_choice K_Flash___init__ M_Flash_wipe
  have biC__law_wiped : Binds K fd__law_wiped ["_law_state_here", "_law_blocks", "_law_weather_here"] [] := F__law_wiped.bindsN (fun _ _ _ _ _ _ us hl => match us, hl with | [_, _, _], _ => rfl)
  have C__law_wiped : CalN P w K mg base [] 8 "_law_wiped" ["_law_state_here", "_law_blocks", "_law_weather_here"] [] m__law_wiped := ⟨⟨_, _, [], [], o__law_wiped, He.glo_ok X G (cD.fact 69 (f := .glo "_law_wiped") rfl), F__law_wiped.kp, biC__law_wiped, .nil, fun _ _ _ => .nil⟩⟩
  exact ok_law F_law B C__law_choice C__law_same C__law_state C__law_weather C__law_wiped C_worn M_Flash_steps
end Fk
/-! ## the evaluator's rows -/
namespace Fk
open PySem PySem.Spec PyProof.Rows L2
@[simp] theorem k_eVar (i : Nat) (r0 : List Sl) (s0 : List AV) : eVar i (Ss.mk r0 s0) = match getSl r0 i with
  | .im d => .ok d (Ss.mk r0 s0)
  | .ow d => match frz d with
    | some d' => .ok d' ⟨setSl r0 i (.im d'), s0⟩
    | none => .bad
  | .no => .bad := id rfl
@[simp] theorem k_eC (d : AV) (r0 : List Sl) (s0 : List AV) : eC d (Ss.mk r0 s0) = .ok d (Ss.mk r0 s0) := id rfl
@[simp] theorem k_e1 (f : AV → Option AV) (a : M AV) (r0 : List Sl) (s0 : List AV) : e1 f a (Ss.mk r0 s0) = (a (Ss.mk r0 s0)).bind fun x s1 => ofO (f x) s1 := id rfl
@[simp] theorem k_e2 (f : AV → AV → Option AV) (a b : M AV) (r0 : List Sl) (s0 : List AV) : e2 f a b (Ss.mk r0 s0) = (a (Ss.mk r0 s0)).bind fun x s1 => (b s1).bind fun y s2 => ofO (f x y) s2 := id rfl
@[simp] theorem k_tOf (m : M AV) (r0 : List Sl) (s0 : List AV) : tOf m (Ss.mk r0 s0) = (m (Ss.mk r0 s0)).bind fun x s1 => match x with
  | .bl b => .ok b s1
  | _ => .bad := id rfl
@[simp] theorem k_aNil  (r0 : List Sl) (s0 : List AV) : aNil (Ss.mk r0 s0) = .ok [] (Ss.mk r0 s0) := id rfl
@[simp] theorem k_aCons (a : M AV) (r : M (List AV)) (r0 : List Sl) (s0 : List AV) : aCons a r (Ss.mk r0 s0) = (a (Ss.mk r0 s0)).bind fun x s1 => (r s1).bind fun xs s2 => .ok (x :: xs) s2 := id rfl
@[simp] theorem k_eTup (a : M (List AV)) (r0 : List Sl) (s0 : List AV) : eTup a (Ss.mk r0 s0) = (a (Ss.mk r0 s0)).bind fun xs s1 => if xs.length ≤ 16777216 then .ok (.tup xs) s1 else .bad := id rfl
@[simp] theorem k_eLst (a : M (List AV)) (r0 : List Sl) (s0 : List AV) : eLst a (Ss.mk r0 s0) = (a (Ss.mk r0 s0)).bind fun xs s1 => if xs.length ≤ 16777216 then .ok (.lst false xs) s1 else .bad := id rfl
@[simp] theorem k_eLstO (a : M (List AV)) (r0 : List Sl) (s0 : List AV) : eLstO a (Ss.mk r0 s0) = (a (Ss.mk r0 s0)).bind fun xs s1 => if xs.length ≤ 16777216 then .ok (.lst true xs) s1 else .bad := id rfl
@[simp] theorem k_tNotM (a : M Bool) (r0 : List Sl) (s0 : List AV) : tNotM a (Ss.mk r0 s0) = (a (Ss.mk r0 s0)).bind fun x s1 => .ok (!x) s1 := id rfl
@[simp] theorem k_tAndM (a b : M Bool) (r0 : List Sl) (s0 : List AV) : tAndM a b (Ss.mk r0 s0) = (a (Ss.mk r0 s0)).bind fun x s1 => bif x then b s1 else .ok false s1 := id rfl
@[simp] theorem k_tOrM (a b : M Bool) (r0 : List Sl) (s0 : List AV) : tOrM a b (Ss.mk r0 s0) = (a (Ss.mk r0 s0)).bind fun x s1 => bif x then .ok true s1 else b s1 := id rfl
@[simp] theorem k_eAnd (a b : M AV) (r0 : List Sl) (s0 : List AV) : eAnd a b (Ss.mk r0 s0) = (a (Ss.mk r0 s0)).bind fun x s1 => (ofO (asB x) s1).bind fun c s2 => bif c then b s2 else .ok (.bl false) s2 := id rfl
@[simp] theorem k_eOr (a b : M AV) (r0 : List Sl) (s0 : List AV) : eOr a b (Ss.mk r0 s0) = (a (Ss.mk r0 s0)).bind fun x s1 => (ofO (asB x) s1).bind fun c s2 => bif c then .ok (.bl true) s2 else b s2 := id rfl
@[simp] theorem k_eIf (t : M Bool) (a b : M AV) (r0 : List Sl) (s0 : List AV) : eIf t a b (Ss.mk r0 s0) = (t (Ss.mk r0 s0)).bind fun c s1 => bif c then a s1 else b s1 := id rfl
@[simp] theorem k_eChn (f g : AV → AV → Option AV) (a b c : M AV) (r0 : List Sl) (s0 : List AV) : eChn f g a b c (Ss.mk r0 s0) = (a (Ss.mk r0 s0)).bind fun x s1 => (b s1).bind fun y s2 => (ofO ((f x y).bind asB) s2).bind fun k s3 => bif k then (c s3).bind fun z s4 => ofO (g y z) s4 else .ok (.bl false) s3 := id rfl
@[simp] theorem k_sNx  (r0 : List Sl) (s0 : List AV) : sNx (Ss.mk r0 s0) = .ok .nx (Ss.mk r0 s0) := id rfl
@[simp] theorem k_sSeq (a b : M Fl) (r0 : List Sl) (s0 : List AV) : sSeq a b (Ss.mk r0 s0) = (a (Ss.mk r0 s0)).bind fun f s1 => match f with
  | .nx => b s1
  | f => .ok f s1 := id rfl
@[simp] theorem k_sAsg (i : Nat) (e : M AV) (r0 : List Sl) (s0 : List AV) : sAsg i e (Ss.mk r0 s0) = (e (Ss.mk r0 s0)).bind fun d s1 => .ok .nx ⟨setSl s1.r i (.im d), s1.s⟩ := id rfl
@[simp] theorem k_sAsgO (i : Nat) (e : M AV) (r0 : List Sl) (s0 : List AV) : sAsgO i e (Ss.mk r0 s0) = (e (Ss.mk r0 s0)).bind fun d s1 => .ok .nx ⟨setSl s1.r i (.ow d), s1.s⟩ := id rfl
@[simp] theorem k_sExp (e : M AV) (r0 : List Sl) (s0 : List AV) : sExp e (Ss.mk r0 s0) = (e (Ss.mk r0 s0)).bind fun _ s1 => .ok .nx s1 := id rfl
@[simp] theorem k_sRet (e : M AV) (r0 : List Sl) (s0 : List AV) : sRet e (Ss.mk r0 s0) = (e (Ss.mk r0 s0)).bind fun d s1 => .ok (.rt d) s1 := id rfl
@[simp] theorem k_sIf (t : M Bool) (a b : M Fl) (r0 : List Sl) (s0 : List AV) : sIf t a b (Ss.mk r0 s0) = (t (Ss.mk r0 s0)).bind fun c s1 => bif c then a s1 else b s1 := id rfl
@[simp] theorem k_sBrk  (r0 : List Sl) (s0 : List AV) : sBrk (Ss.mk r0 s0) = .ok .bk (Ss.mk r0 s0) := id rfl
@[simp] theorem k_sCnt  (r0 : List Sl) (s0 : List AV) : sCnt (Ss.mk r0 s0) = .ok .ct (Ss.mk r0 s0) := id rfl
@[simp] theorem k_sAsgOw (i : Nat) (e : M AV) (r0 : List Sl) (s0 : List AV) : sAsgOw i e (Ss.mk r0 s0) = (e (Ss.mk r0 s0)).bind fun d s1 => if i < s1.r.length then .ok .nx ⟨setSl s1.r i (.ow d), s1.s⟩ else .bad := id rfl
@[simp] theorem k_eCall (n : Nat) (f : Fn) (ds : List AV) (a : M (List AV)) (r0 : List Sl) (s0 : List AV) : eCall n f ds a (Ss.mk r0 s0) = (a (Ss.mk r0 s0)).bind fun xs s1 => if xs.length + ds.length = n then back s1.r (f (xs ++ ds) s1.s) else .bad := id rfl
@[simp] theorem k_sRaise (c : Str) (r0 : List Sl) (s0 : List AV) : sRaise c (Ss.mk r0 s0) = .err c (Ss.mk r0 s0) := id rfl
@[simp] theorem k_iOf (m : M AV) (r0 : List Sl) (s0 : List AV) : iOf m (Ss.mk r0 s0) = (m (Ss.mk r0 s0)).bind fun x s1 => ofO (itemsOf x) s1 := id rfl
@[simp] theorem k_iArg (f : List AV → Option (List AV)) (m : M (List AV)) (r0 : List Sl) (s0 : List AV) : iArg f m (Ss.mk r0 s0) = (m (Ss.mk r0 s0)).bind fun xs s1 => ofO (f xs) s1 := id rfl
@[simp] theorem k_sFor (mi : M (List AV)) (t : Tg) (body : M Fl) (r0 : List Sl) (s0 : List AV) : sFor mi t body (Ss.mk r0 s0) = (mi (Ss.mk r0 s0)).bind fun ds s1 => forM t body ds s1 := id rfl
@[simp] theorem k_tTrue  (r0 : List Sl) (s0 : List AV) : tTrue (Ss.mk r0 s0) = .ok true (Ss.mk r0 s0) := id rfl
@[simp] theorem k_lcM (mi : M (List AV)) (t : Tg) (tt : M Bool) (te : M AV) (vs : List Nat) (r0 : List Sl) (s0 : List AV) : lcM mi t tt te vs (Ss.mk r0 s0) = (mi (Ss.mk r0 s0)).bind fun ds s1 => compM t tt te vs ds [] (s1.wipe vs) := id rfl
@[simp] theorem k_eLc (o : Bool) (m : M (List AV)) (r0 : List Sl) (s0 : List AV) : eLc o m (Ss.mk r0 s0) = (m (Ss.mk r0 s0)).bind fun xs s1 => .ok (.lst o xs) s1 := id rfl
@[simp] theorem k_eB (f : List AV → List AV → Option AV) (a : M (List AV)) (r0 : List Sl) (s0 : List AV) : eB f a (Ss.mk r0 s0) = (a (Ss.mk r0 s0)).bind fun xs s1 => ofO (f s1.s xs) s1 := id rfl
@[simp] theorem k_eBP (f : List AV → List AV → Option AV) (a : Ss → Option (List AV)) (r0 : List Sl) (s0 : List AV) : eBP f a (Ss.mk r0 s0) = match a (Ss.mk r0 s0) with
  | some xs => ofO (f s0 xs) (Ss.mk r0 s0)
  | none => .bad := id rfl
@[simp] theorem k_pNil  (r0 : List Sl) (s0 : List AV) : pNil (Ss.mk r0 s0) = some [] := id rfl
@[simp] theorem k_pCons (a : Ss → Option AV) (r : Ss → Option (List AV)) (r0 : List Sl) (s0 : List AV) : pCons a r (Ss.mk r0 s0) = (a (Ss.mk r0 s0)).bind fun x => (r (Ss.mk r0 s0)).map (x :: ·) := id rfl
@[simp] theorem k_pVar (i : Nat) (r0 : List Sl) (s0 : List AV) : pVar i (Ss.mk r0 s0) = match getSl r0 i with
  | .im d => some d
  | .ow d => some d
  | .no => none := id rfl
@[simp] theorem k_pC (d : AV) (r0 : List Sl) (s0 : List AV) : pC d (Ss.mk r0 s0) = some d := id rfl
@[simp] theorem k_p2 (f : AV → AV → Option AV) (a b : Ss → Option AV) (r0 : List Sl) (s0 : List AV) : p2 f a b (Ss.mk r0 s0) = (a (Ss.mk r0 s0)).bind fun x => (b (Ss.mk r0 s0)).bind fun y => f x y := id rfl
@[simp] theorem k_eP (m : Ss → Option AV) (r0 : List Sl) (s0 : List AV) : eP m (Ss.mk r0 s0) = match m (Ss.mk r0 s0) with
  | some d => bif imm d then .ok d (Ss.mk r0 s0) else .bad
  | none => .bad := id rfl
@[simp] theorem k_e2P (f : AV → AV → Option AV) (a b : Ss → Option AV) (r0 : List Sl) (s0 : List AV) : e2P f a b (Ss.mk r0 s0) = match p2 f a b (Ss.mk r0 s0) with
  | some d => .ok d (Ss.mk r0 s0)
  | none => .bad := id rfl
@[simp] theorem k_eIsi (n : String) (m : M AV) (r0 : List Sl) (s0 : List AV) : eIsi n m (Ss.mk r0 s0) = (m (Ss.mk r0 s0)).bind fun x s1 => bif okT x then .ok (.bl (isT n x)) s1 else .bad := id rfl
@[simp] theorem k_eIx (a b : M AV) (r0 : List Sl) (s0 : List AV) : eIx a b (Ss.mk r0 s0) = (a (Ss.mk r0 s0)).bind fun x s1 => (b s1).bind fun y s2 => match ixA s2.s x y with
  | some d => bif imm d then .ok d s2 else .bad
  | none => .bad := id rfl
@[simp] theorem k_pIx (a b : Ss → Option AV) (r0 : List Sl) (s0 : List AV) : pIx a b (Ss.mk r0 s0) = (a (Ss.mk r0 s0)).bind fun x => (b (Ss.mk r0 s0)).bind fun y => ixA s0 x y := id rfl
@[simp] theorem k_eSl (a : M AV) (lo hi : Option (M AV)) (r0 : List Sl) (s0 : List AV) : eSl a lo hi (Ss.mk r0 s0) = (a (Ss.mk r0 s0)).bind fun x s1 => (oPart lo s1).bind fun l s2 => (oPart hi s2).bind fun u s3 => ofO (slA x l u) s3 := id rfl
@[simp] theorem k_eApp (i : Nat) (m : M AV) (r0 : List Sl) (s0 : List AV) : eApp i m (Ss.mk r0 s0) = match ownL (getSl r0 i) with
  | none => .bad
  | some _ => (m (Ss.mk r0 s0)).bind fun d s1 => match ownL (getSl s1.r i) with
    | none => .bad
    | some xs => if xs.length < 16777216 then .ok .non (putL i (xs ++ [d]) s1) else .bad := id rfl
@[simp] theorem k_ePop (i : Nat) (m : M AV) (r0 : List Sl) (s0 : List AV) : ePop i m (Ss.mk r0 s0) = match ownL (getSl r0 i) with
  | none => .bad
  | some _ => (m (Ss.mk r0 s0)).bind fun d s1 => match ownL (getSl s1.r i) with
    | none => .bad
    | some xs => match popA xs d with
      | some (y, ys) => .ok y (putL i ys s1)
      | none => .bad := id rfl
@[simp] theorem k_sSetB (i : Nat) (mk mv : M AV) (r0 : List Sl) (s0 : List AV) : sSetB i mk mv (Ss.mk r0 s0) = (mv (Ss.mk r0 s0)).bind fun d s1 => bif isOw (getSl s1.r i) then (mk s1).bind fun y s2 => storeB i y d s2 else .bad := id rfl
@[simp] theorem k_pFld (C f : Str) (m : Ss → Option AV) (r0 : List Sl) (s0 : List AV) : pFld C f m (Ss.mk r0 s0) = (m (Ss.mk r0 s0)).bind fun x => fldA s0 C f x := id rfl
@[simp] theorem k_sFld (C f : Str) (mo : Ss → Option AV) (mv : M AV) (r0 : List Sl) (s0 : List AV) : sFld C f mo mv (Ss.mk r0 s0) = (mv (Ss.mk r0 s0)).bind fun d s1 => match (mo s1).bind fun x => putFld C f x d s1 with
  | some s2 => .ok .nx s2
  | none => .bad := id rfl
@[simp] theorem k_mAlt {α : Type} (a b : M α) (r0 : List Sl) (s0 : List AV) : mAlt a b (Ss.mk r0 s0) = match a (Ss.mk r0 s0) with
  | .bad => b (Ss.mk r0 s0)
  | r => r := id rfl
@[simp] theorem k_sSetP (w : Bool) (fo : Option (Str × Str)) (mo mk : Ss → Option AV) (mv : M AV) (r0 : List Sl) (s0 : List AV) : sSetP w fo mo mk mv (Ss.mk r0 s0) = (mv (Ss.mk r0 s0)).bind fun d s1 => match (mo s1).bind locOf with
  | some l => (match mk s1 with
    | some y => (match (getPl s1.s l fo).bind fun z => setZ w z y d with
      | some z' => .ok .nx ⟨s1.r, setPl s1.s l fo z'⟩
      | none => .bad)
    | none => .bad)
  | none => .bad := id rfl
@[simp] theorem k_sAug (i : Nat) (m : M AV) (r0 : List Sl) (s0 : List AV) : sAug i m (Ss.mk r0 s0) = match getSl r0 i with
  | .im (.int a) => (m (Ss.mk r0 s0)).bind fun d s1 => match d with
    | .int b => .ok .nx ⟨setSl s1.r i (.im (.int (a + b))), s1.s⟩
    | _ => .bad
  | _ => .bad := id rfl
@[simp] theorem k_sFAug (C f : Str) (mo mv : M AV) (r0 : List Sl) (s0 : List AV) : sFAug C f mo mv (Ss.mk r0 s0) = (mo (Ss.mk r0 s0)).bind fun x s1 => match fldA s1.s C f x with
  | some (.int a) => (mv s1).bind fun d s2 => match d with
    | .int b => (match putFld C f x (.int (a + b)) s2 with
      | some s3 => .ok .nx s3
      | none => .bad)
    | _ => .bad
  | _ => .bad := id rfl
@[simp] theorem k_sAugP (fo : Option (Str × Str)) (mo mk me : Ss → Option AV) (r0 : List Sl) (s0 : List AV) : sAugP fo mo mk me (Ss.mk r0 s0) = match (mo (Ss.mk r0 s0)).bind locOf with
  | some l => (match mk (Ss.mk r0 s0), me (Ss.mk r0 s0) with
    | some y, some d => (match (getPl s0 l fo).bind fun z => augZ z y d with
      | some z' => .ok .nx ⟨r0, setPl s0 l fo z'⟩
      | none => .bad)
    | _, _ => .bad)
  | none => .bad := id rfl
@[simp] theorem k_sAugB (i : Nat) (mk me : Ss → Option AV) (r0 : List Sl) (s0 : List AV) : sAugB i mk me (Ss.mk r0 s0) = match ownL (getSl r0 i) with
  | some xs => (match mk (Ss.mk r0 s0), me (Ss.mk r0 s0) with
    | some y, some d => (match augZ (.lst true xs) y d with
      | some (.lst _ ys) => .ok .nx (putL i ys (Ss.mk r0 s0))
      | _ => .bad)
    | _, _ => .bad)
  | none => .bad := id rfl
@[simp] theorem k_eProm (m : M AV) (r0 : List Sl) (s0 : List AV) : eProm m (Ss.mk r0 s0) = (m (Ss.mk r0 s0)).bind fun d s1 => bif ownA d then .ok (.loc s1.s.length) ⟨s1.r, s1.s ++ [d]⟩ else .bad := id rfl
@[simp] theorem k_eMeth (C nm : Str) (n : Nat) (f : Fn) (ds : List AV) (mo : M AV) (ma : M (List AV)) (r0 : List Sl) (s0 : List AV) : eMeth C nm n f ds mo ma (Ss.mk r0 s0) = (mo (Ss.mk r0 s0)).bind fun x s1 => bif clsOk s1.s C nm x then (ma s1).bind fun xs s2 => if 1 + (xs.length + ds.length) = n then back s2.r (f (x :: (xs ++ ds)) s2.s) else .bad else .bad := id rfl
@[simp] theorem k_eMake (C : Str) (n : Nat) (f : Fn) (ds : List AV) (ma : M (List AV)) (r0 : List Sl) (s0 : List AV) : eMake C n f ds ma (Ss.mk r0 s0) = (ma (Ss.mk r0 s0)).bind fun xs s1 => if 1 + (xs.length + ds.length) = n then mkBack s1.r s1.s.length (f (.loc s1.s.length :: (xs ++ ds)) (s1.s ++ [.ins C [] []])) else .bad := id rfl
@[simp] theorem k_eLn (m : M (List AV)) (r0 : List Sl) (s0 : List AV) : eLn m (Ss.mk r0 s0) = (m (Ss.mk r0 s0)).bind fun xs s1 => .ok (.nst xs) s1 := id rfl
@[simp] theorem k_xI (m : M AV) (r0 : List Sl) (s0 : List AV) : xI m (Ss.mk r0 s0) = (m (Ss.mk r0 s0)).bind fun d s1 => .ok (.im d) s1 := id rfl
@[simp] theorem k_xO (m : M AV) (r0 : List Sl) (s0 : List AV) : xO m (Ss.mk r0 s0) = (m (Ss.mk r0 s0)).bind fun d s1 => .ok (.ow d) s1 := id rfl
@[simp] theorem k_sPar (i j : Nat) (ma mb : M Sl) (r0 : List Sl) (s0 : List AV) : sPar i j ma mb (Ss.mk r0 s0) = (ma (Ss.mk r0 s0)).bind fun x s1 => bif isNo x then .bad else (mb s1).bind fun y s2 => bif isNo y then .bad else if i < s2.r.length ∧ j < s2.r.length then .ok .nx ⟨setSl (setSl s2.r j y) i x, s2.s⟩ else .bad := id rfl
@[simp] theorem k_sPar3 (i j l : Nat) (ma mb mc : M Sl) (r0 : List Sl) (s0 : List AV) : sPar3 i j l ma mb mc (Ss.mk r0 s0) = (ma (Ss.mk r0 s0)).bind fun x s1 => bif isNo x then .bad else (mb s1).bind fun y s2 => bif isNo y then .bad else (mc s2).bind fun z s3 => bif isNo z then .bad else if i < s3.r.length ∧ j < s3.r.length ∧ l < s3.r.length then .ok .nx ⟨setSl (setSl (setSl s3.r l z) j y) i x, s3.s⟩ else .bad := id rfl
@[simp] theorem k_sAsgG (t : Tg) (m : M AV) (r0 : List Sl) (s0 : List AV) : sAsgG t m (Ss.mk r0 s0) = (m (Ss.mk r0 s0)).bind fun d s1 => match t d s1 with
  | some s2 => .ok .nx s2
  | none => .bad := id rfl
@[simp] theorem k_eDnew  (r0 : List Sl) (s0 : List AV) : eDnew (Ss.mk r0 s0) = .ok (.dct true [] []) (Ss.mk r0 s0) := id rfl
@[simp] theorem k_pGet (a b c : Ss → Option AV) (r0 : List Sl) (s0 : List AV) : pGet a b c (Ss.mk r0 s0) = (a (Ss.mk r0 s0)).bind fun x => (b (Ss.mk r0 s0)).bind fun k => (c (Ss.mk r0 s0)).bind fun d => getD' s0 x k d := id rfl
@[simp] theorem k_eIsC (C : Str) (Ds : List Str) (m : M AV) (r0 : List Sl) (s0 : List AV) : eIsC C Ds m (Ss.mk r0 s0) = (m (Ss.mk r0 s0)).bind fun x s1 => bif okT x then .ok (.bl false) s1 else match clsA s1.s x with
  | some D => if D = C then .ok (.bl true) s1 else if D ∈ Ds then .ok (.bl false) s1 else .bad
  | none => .bad := id rfl
@[simp] theorem k_eFrz (m : M AV) (r0 : List Sl) (s0 : List AV) : eFrz m (Ss.mk r0 s0) = (m (Ss.mk r0 s0)).bind fun d s1 => ofO (frz d) s1 := id rfl
@[simp] theorem k_pAlt (a b : Ss → Option AV) (r0 : List Sl) (s0 : List AV) : pAlt a b (Ss.mk r0 s0) = match a (Ss.mk r0 s0) with
  | some d => some d
  | none => b (Ss.mk r0 s0) := id rfl
end Fk
/-! ## what a run is wanted to give -/
namespace Fk
open PySem PySem.Spec PyProof.Rows L2
def WpR {α β : Type} (x : Res α β) (Q : α → β → Prop) (E : Str → β → Prop) : Prop := match x with
  | .ok a s => Q a s
  | .err c s => E c s
  | .bad => False
abbrev noE {β : Type} : Str → β → Prop := fun _ _ => False
section
variable {α β γ : Type}
@[simp] theorem WpR_ok (a : α) (s : β) (Q : α → β → Prop) (E : Str → β → Prop) : WpR (.ok a s) Q E = Q a s := rfl
@[simp] theorem WpR_err (c : Str) (s : β) (Q : α → β → Prop) (E : Str → β → Prop) : WpR (.err c s : Res α β) Q E = E c s := rfl
@[simp] theorem WpR_bad (Q : α → β → Prop) (E : Str → β → Prop) : WpR (.bad : Res α β) Q E = False := rfl
@[simp] theorem bind_assoc {δ : Type} (x : Res α γ) (k : α → γ → Res β γ) (j : β → γ → Res δ γ) : (x.bind k).bind j = x.bind fun a s => (k a s).bind j := by cases x <;> rfl
theorem wpB {x : Res α γ} {k : α → γ → Res β γ} {Q : β → γ → Prop} {E : Str → γ → Prop} (h : WpR x (fun a s => WpR (k a s) Q E) E) : WpR (x.bind k) Q E := by cases x <;> exact h
theorem wp_mono {x : Res α β} {Q Q' : α → β → Prop} {E E' : Str → β → Prop} (h : WpR x Q E) (hq : ∀ a s, Q a s → Q' a s) (he : ∀ c s, E c s → E' c s) : WpR x Q' E' := by
  cases x with
  | ok a s => exact hq a s h
  | err c s => exact he c s h
  | bad => exact h
theorem wp_of {x : Res α β} {a : α} {s : β} {Q : α → β → Prop} {E : Str → β → Prop} (h : x = .ok a s) (q : Q a s) : WpR x Q E := by rw [h]; exact q
theorem wp_ex {x : Res α β} {Q : α → β → Prop} (h : WpR x Q noE) : ∃ a s, x = .ok a s ∧ Q a s := by
  cases x with
  | ok a s => exact ⟨a, s, rfl, h⟩
  | err c s => exact h.elim
  | bad => exact h.elim
end
/-- a call within a run -/
theorem wpC {r : List Sl} {x : Res AV (List AV)} {β : Type} {k : AV → Ss → Res β Ss} {Q : β → Ss → Prop} {E : Str → Ss → Prop} (h : WpR x (fun a S => WpR (k a ⟨r, S⟩) Q E) (fun c S => E c ⟨r, S⟩)) : WpR ((back r x).bind k) Q E := by
  cases x <;> exact h
theorem wpC' {r : List Sl} {x : Res AV (List AV)} {Q : AV → Ss → Prop} {E : Str → Ss → Prop} (h : WpR x (fun a S => Q a ⟨r, S⟩) (fun c S => E c ⟨r, S⟩)) : WpR (back r x) Q E := by
  cases x <;> exact h
theorem wpK {r : List Sl} {l : Nat} {x : Res AV (List AV)} {β : Type} {k : AV → Ss → Res β Ss} {Q : β → Ss → Prop} {E : Str → Ss → Prop} (h : WpR x (fun a S => a = .non ∧ WpR (k (.loc l) ⟨r, S⟩) Q E) (fun c S => E c ⟨r, S⟩)) : WpR ((mkBack r l x).bind k) Q E := by
  cases x with
  | ok a S =>
    obtain ⟨rfl, h⟩ := h
    exact h
  | err c s => exact h
  | bad => exact h
@[simp] theorem mkBack_ok (r : List Sl) (l : Nat) (S : List AV) : mkBack r l (.ok .non S) = .ok (.loc l) ⟨r, S⟩ := rfl
@[simp] theorem mkBack_err (r : List Sl) (l : Nat) (c : Str) (S : List AV) : mkBack r l (.err c S) = .err c ⟨r, S⟩ := rfl
/-- the end of a def -/
def retR : Res Fl Ss → Res AV (List AV)
  | .ok (.rt d) st => .ok d st.s
  | .ok .nx st => .ok .non st.s
  | .err c st => .err c st.s
  | _ => .bad
@[simp] theorem retR_rt (d : AV) (st : Ss) : retR (.ok (.rt d) st) = .ok d st.s := rfl
@[simp] theorem retR_nx (st : Ss) : retR (.ok .nx st) = .ok .non st.s := rfl
@[simp] theorem retR_err (c : Str) (st : Ss) : retR (.err c st) = .err c st.s := rfl
theorem fnM_ret (n : Nat) (body : M Fl) (xs S : List AV) : fnM n body xs S = retR (body ⟨xs.map Sl.im ++ List.replicate n .no, S⟩) := rfl
theorem wpF {n : Nat} {body : M Fl} {xs S : List AV} {Q : AV → List AV → Prop} {E : Str → List AV → Prop} (h : WpR (body ⟨xs.map Sl.im ++ List.replicate n .no, S⟩) (fun f st => match f with
    | .rt d => Q d st.s
    | .nx => Q .non st.s
    | _ => False) (fun c st => E c st.s)) : WpR (fnM n body xs S) Q E := by
  rw [fnM_ret]
  cases e : body ⟨xs.map Sl.im ++ List.replicate n .no, S⟩ with
  | ok f st =>
    rw [e] at h
    cases f <;> exact h
  | err c st => rw [e] at h; exact h
  | bad => rw [e] at h; exact h
/-- what comes behind a statement -/
def afS (b : M Fl) (Q : Fl → Ss → Prop) (E : Str → Ss → Prop) : Fl → Ss → Prop
  | .nx, s => WpR (b s) Q E
  | .rt d, s => Q (.rt d) s
  | .bk, s => Q .bk s
  | .ct, s => Q .ct s
@[simp] theorem afS_nx (b : M Fl) (Q : Fl → Ss → Prop) (E : Str → Ss → Prop) (s : Ss) : afS b Q E .nx s = WpR (b s) Q E := rfl
@[simp] theorem afS_rt (b : M Fl) (Q : Fl → Ss → Prop) (E : Str → Ss → Prop) (d : AV) (s : Ss) : afS b Q E (.rt d) s = Q (.rt d) s := rfl
@[simp] theorem afS_bk (b : M Fl) (Q : Fl → Ss → Prop) (E : Str → Ss → Prop) (s : Ss) : afS b Q E .bk s = Q .bk s := rfl
@[simp] theorem afS_ct (b : M Fl) (Q : Fl → Ss → Prop) (E : Str → Ss → Prop) (s : Ss) : afS b Q E .ct s = Q .ct s := rfl
theorem wpS {a b : M Fl} {st : Ss} {Q : Fl → Ss → Prop} {E : Str → Ss → Prop} (h : WpR (a st) (afS b Q E) E) : WpR (sSeq a b st) Q E := by
  show WpR ((a st).bind _) Q E
  refine wpB (wp_mono h (fun f s q => ?_) fun _ _ q => q)
  cases f <;> exact q
/-- one of two ways -/
def altR {α β : Type} (x y : Res α β) : Res α β := match x with
  | .bad => y
  | r => r
@[simp] theorem altR_ok {α β : Type} (a : α) (s : β) (y : Res α β) : altR (.ok a s) y = .ok a s := rfl
@[simp] theorem altR_err {α β : Type} (c : Str) (s : β) (y : Res α β) : altR (.err c s) y = .err c s := rfl
@[simp] theorem altR_bad {α β : Type} (y : Res α β) : altR .bad y = y := rfl
theorem mAlt_R {α : Type} (a b : M α) (st : Ss) : mAlt a b st = altR (a st) (b st) := by
  unfold mAlt altR
  cases a st <;> rfl
theorem wpA {α β : Type} {x y : Res α β} {Q : α → β → Prop} {E : Str → β → Prop} (h : WpR x Q E) : WpR (altR x y) Q E := by
  cases x with
  | bad => exact h.elim
  | _ => exact h
theorem wpAB {α β : Type} {x y : Res α Ss} {k : α → Ss → Res β Ss} {Q : β → Ss → Prop} {E : Str → Ss → Prop} (h : WpR (x.bind k) Q E) : WpR ((altR x y).bind k) Q E := by
  cases x with
  | bad => exact h.elim
  | _ => exact h
/-- a comprehension whose items turn nothing -/
theorem wpL {t : Tg} {tt : M Bool} {te : M AV} {vs : List Nat} {st : Ss} {Q : List AV → Ss → Prop} {E : Str → Ss → Prop} {ds : List AV} (p : AV → Bool) (g : AV → AV)
    (h : ∀ d ∈ ds, ∃ s0, t d st = some s0 ∧ WpR (tt s0) (fun b s1 => b = p d ∧ (b = false → s1.wipe vs = st) ∧ (b = true → WpR (te s1) (fun x s2 => x = g d ∧ s2.wipe vs = st) noE)) noE)
    (hl : ds.length ≤ 16777216) (hQ : Q ((ds.filter p).map g) st) : WpR (compM t tt te vs ds [] st) Q E := by
  have key : ∀ (ds acc : List AV), (∀ d ∈ ds, ∃ s0, t d st = some s0 ∧ WpR (tt s0) (fun b s1 => b = p d ∧ (b = false → s1.wipe vs = st) ∧ (b = true → WpR (te s1) (fun x s2 => x = g d ∧ s2.wipe vs = st) noE)) noE) →
      acc.length + ds.length ≤ 16777216 → compM t tt te vs ds acc st = .ok (acc ++ (ds.filter p).map g) st := by
    intro ds
    induction ds with
    | nil => intro acc _ _; simp [compM]
    | cons d ds ih =>
      intro acc h hl
      have hl2 : acc.length + (ds.length + 1) ≤ 16777216 := hl
      obtain ⟨s0, e1, w⟩ := h d (by simp)
      obtain ⟨b, s1, e2, rfl, h3, h4⟩ := wp_ex w
      unfold compM
      rw [e1]
      simp only [e2]
      cases c : p d with
      | false =>
        simp only
        rw [h3 c, ih acc (fun d hd => h d (by simp [hd])) (by omega), List.filter_cons, c]
        rfl
      | true =>
        obtain ⟨x, s2, e5, rfl, e6⟩ := wp_ex (h4 c)
        simp only [e5]
        rw [if_pos (by omega), e6, ih (acc ++ [g d]) (fun d hd => h d (by simp [hd])) (by simp; omega), List.filter_cons, c]
        simp
  rw [key ds [] h (by simpa using hl)]
  exact hQ
/-- .. by what stays -/
theorem wpLI {t : Tg} {tt : M Bool} {te : M AV} {vs : List Nat} {st : Ss} {Q : List AV → Ss → Prop} {E : Str → Ss → Prop} {ds : List AV} (I : Nat → List AV → Ss → Prop) (h0 : I 0 [] st)
    (hb : ∀ (j : Nat) d acc st, ds[j]? = some d → acc.length ≤ j → I j acc st → ∃ s0, t d st = some s0 ∧ WpR (tt s0) (fun b s1 => (b = false → I (j + 1) acc (s1.wipe vs)) ∧ (b = true → WpR (te s1) (fun x s2 => I (j + 1) (acc ++ [x]) (s2.wipe vs)) noE)) noE)
    (hl : ds.length ≤ 16777216) (hQ : ∀ acc st, acc.length ≤ ds.length → I ds.length acc st → Q acc st) : WpR (compM t tt te vs ds [] st) Q E := by
  have key : ∀ (n : Nat) (acc : List AV) (st : Ss) (k : Nat), k + n = ds.length → acc.length ≤ k → I k acc st → WpR (compM t tt te vs (ds.drop k) acc st) Q E := by
    intro n
    induction n with
    | zero =>
      intro acc st k hk ha hI
      have e : k = ds.length := by omega
      subst e
      rw [List.drop_length]
      exact hQ _ _ ha hI
    | succ n ih =>
      intro acc st k hk ha hI
      have hk2 : k < ds.length := by omega
      rw [List.drop_eq_getElem_cons hk2]
      obtain ⟨s0, e1, w⟩ := hb k _ acc st (List.getElem?_eq_getElem hk2) ha hI
      obtain ⟨b, s1, e2, h3, h4⟩ := wp_ex w
      unfold compM
      rw [e1]
      simp only [e2]
      cases b with
      | false => exact ih acc _ (k + 1) (by omega) (by omega) (h3 rfl)
      | true =>
        obtain ⟨x, s2, e5, h5⟩ := wp_ex (h4 rfl)
        simp only [e5]
        rw [if_pos (by omega)]
        exact ih (acc ++ [x]) _ (k + 1) (by omega) (by simp; omega) h5
  exact key ds.length [] st 0 (by omega) (by simp) h0
/-- a loop by what stays -/
theorem wpO {t : Tg} {body : M Fl} {st : Ss} {Q : Fl → Ss → Prop} {E : Str → Ss → Prop} {ds : List AV} (I : Nat → Ss → Prop) (h0 : I 0 st)
    (hb : ∀ (j : Nat) d st, ds[j]? = some d → I j st → ∃ s0, t d st = some s0 ∧ WpR (body s0) (fun f s => match f with
      | .nx => I (j + 1) s
      | .ct => I (j + 1) s
      | .bk => Q .nx s
      | .rt d => Q (.rt d) s) E)
    (hQ : ∀ st, I ds.length st → Q .nx st) : WpR (forM t body ds st) Q E := by
  have key : ∀ (n : Nat) (st : Ss) (k : Nat), k + n = ds.length → I k st → WpR (forM t body (ds.drop k) st) Q E := by
    intro n
    induction n with
    | zero =>
      intro st k hk hI
      have e : k = ds.length := by omega
      subst e
      rw [List.drop_length]
      exact hQ _ hI
    | succ n ih =>
      intro st k hk hI
      have hk2 : k < ds.length := by omega
      rw [List.drop_eq_getElem_cons hk2]
      obtain ⟨s0, e1, w⟩ := hb k _ st (List.getElem?_eq_getElem hk2) hI
      unfold forM
      rw [e1]
      simp only
      cases e : body s0 with
      | bad => rw [e] at w; exact w.elim
      | err c s => rw [e] at w; exact w
      | ok f s =>
        rw [e] at w
        cases f with
        | nx => exact ih s (k + 1) (by omega) w
        | ct => exact ih s (k + 1) (by omega) w
        | bk => exact w
        | rt d => exact w
  exact key ds.length st 0 (by omega) h0
/-- a while by what stays and a number that falls -/
theorem wpW {c : M Bool} {body : M Fl} {n : Nat} {st : Ss} {Q : Fl → Ss → Prop} {E : Str → Ss → Prop} (I : Nat → Ss → Prop) {k : Nat} (h0 : I k st) (hn : k < n)
    (hb : ∀ (j : Nat) st, j < n → I j st → WpR (c st) (fun b s0 => (b = false → Q .nx s0) ∧ (b = true → WpR (body s0) (fun f s => match f with
      | .nx => ∃ i, i < j ∧ I i s
      | .ct => ∃ i, i < j ∧ I i s
      | .bk => Q .nx s
      | .rt d => Q (.rt d) s) E)) E) : WpR (whM c body n st) Q E := by
  have key : ∀ (n' : Nat) (st : Ss) (k : Nat), k < n' → n' ≤ n → I k st → WpR (whM c body n' st) Q E := by
    intro n'
    induction n' with
    | zero => intro st k hk _ _; omega
    | succ n' ih =>
      intro st k hk hn hI
      have w := hb k st (by omega) hI
      unfold whM
      cases e : c st with
      | bad => rw [e] at w; exact w.elim
      | err c s => rw [e] at w; exact w
      | ok b s0 =>
        rw [e] at w
        obtain ⟨w1, w2⟩ := w
        cases b with
        | false => exact w1 rfl
        | true =>
          have w3 := w2 rfl
          simp only
          cases e2 : body s0 with
          | bad => rw [e2] at w3; exact w3.elim
          | err c s => rw [e2] at w3; exact w3
          | ok f s =>
            rw [e2] at w3
            cases f with
            | nx =>
              obtain ⟨i, hi, hI⟩ := w3
              exact ih s i (by omega) (by omega) hI
            | ct =>
              obtain ⟨i, hi, hI⟩ := w3
              exact ih s i (by omega) (by omega) hI
            | bk => exact w3
            | rt d => exact w3
  exact key n st k hn (Nat.le_refl _) h0
end Fk
/-! ## values whose text is short -/
namespace Fk
open PySem PySem.Spec PyProof.Rows L2
structure Sh (k n : Nat) (x : AV) : Prop where
  pl : pl x = true
  sw : Sw k n (dat x)
structure Shs (k n : Nat) (xs : List AV) : Prop where
  pl : pls xs = true
  sw : SwAll k n (dats xs)
theorem sh_non {k : Nat} : Sh k 4 .non := ⟨by simp [Fk.pl], by simp only [dat]; exact sw_none⟩
theorem sh_bl {k : Nat} (b : Bool) : Sh k 5 (.bl b) := ⟨by simp [Fk.pl], by simp only [dat]; exact sw_bool b⟩
theorem sh_int {k : Nat} {i : Int} (h : i.natAbs < 2 ^ 128) : Sh k 129 (.int i) := ⟨by simp [Fk.pl], by simp only [dat]; exact sw_int h⟩
theorem sh_str {k : Nat} {x : Str} (ok : PyData.strOk x = true) : Sh k (10 * x.length + 2) (.str x) := ⟨by simp [Fk.pl], by simp only [dat]; exact sw_str ok⟩
theorem shs_nil {k : Nat} : Shs k 0 [] := ⟨by simp [pls], by simp only [dats]; exact swa_nil⟩
theorem shs_cons {k n m : Nat} {x : AV} {xs : List AV} (h : Sh k n x) (r : Shs k m xs) : Shs k (n + 2 + m) (x :: xs) := ⟨by simp [pls, h.pl, r.pl], by simp only [dats]; exact swa_cons h.sw r.sw⟩
theorem sh_tup {k n : Nat} {xs : List AV} (h : Shs k n xs) : Sh (k + 1) (n + 3) (.tup xs) := ⟨by simp [Fk.pl, h.pl], by simp only [dat]; exact sw_tup h.sw⟩
theorem sh_lst {k n : Nat} {o : Bool} {xs : List AV} (h : Shs k n xs) : Sh (k + 1) (n + 3) (.lst o xs) := ⟨by simp [Fk.pl, h.pl], by simp only [dat]; exact sw_lst h.sw⟩
theorem Sw.mono {k k' n n' : Nat} {d : PyData} (h : Sw k n d) (hk : k ≤ k') (hn : n ≤ n') : Sw k' n' d := ⟨h.lay, Nat.le_trans h.dep hk, h.shw, Nat.le_trans h.len hn⟩
theorem Sh.mono {k k' n n' : Nat} {x : AV} (h : Sh k n x) (hk : k ≤ k') (hn : n ≤ n') : Sh k' n' x := ⟨h.pl, h.sw.mono hk hn⟩
theorem shs_all {k n : Nat} : ∀ {xs : List AV}, (∀ x ∈ xs, Sh k n x) → Shs k ((n + 2) * xs.length) xs
  | [], _ => shs_nil
  | x :: xs, h => by
    have e := shs_cons (h x (by simp)) (shs_all (xs := xs) fun y hy => h y (by simp [hy]))
    have : n + 2 + (n + 2) * xs.length = (n + 2) * (x :: xs).length := by
      rw [List.length_cons, Nat.mul_succ, Nat.add_comm]
    rw [← this]
    exact e
theorem fRepr_ok {k n : Nat} {x : AV} {S : List AV} (h : Sh k n x) (hk : k ≤ 60) (hn : n ≤ 16000000) : fRepr S [x] = some (.str (dat x).shown) := by
  unfold fRepr
  have h1 : (dat x).depth ≤ 60 := Nat.le_trans h.sw.dep hk
  have h2 : (dat x).hasDict = false := PyData.hasDict_of_canLay _ h.sw.lay
  have h3 : (dat x).shown.length ≤ 16777216 := Nat.le_trans h.sw.len (Nat.le_trans hn (by decide))
  simp [h.pl, h.sw.shw, h1, h2, h3]
theorem Sh.okA {k n : Nat} {x : AV} (h : Sh k n x) (hk : k ≤ 60) : okA x = true := by
  unfold Fk.okA
  rw [h.pl, h.sw.shaped hk]
  rfl
end Fk
namespace Fk
open PySem PySem.Spec PyProof.Rows L2
@[simp] theorem setSl0 (a b : Sl) (r : List Sl) : setSl (a :: r) 0 b = b :: r := rfl
@[simp] theorem setSlS (a b : Sl) (r : List Sl) (n : Nat) : setSl (a :: r) (n + 1) b = a :: setSl r n b := rfl
theorem ixN_nn {n : Nat} {k : Int} (h : 0 ≤ k) : ixN n k = if k < n then some k.toNat else none := by
  unfold ixN
  rw [if_pos h]
theorem atI_nn {α : Type} {xs : List α} {k : Int} (h : 0 ≤ k) : atI xs k = xs[k.toNat]? := by
  unfold atI
  rw [ixN_nn h]
  by_cases c : k < xs.length
  · rw [if_pos c]; rfl
  · rw [if_neg c, List.getElem?_eq_none (by omega)]; rfl
theorem setS_self (S : List AV) (l : Nat) (d : AV) : (S.set l d)[l]? = (S[l]?).map fun _ => d := by
  by_cases h : l < S.length
  · rw [List.getElem?_set_self h, List.getElem?_eq_getElem h]; rfl
  · rw [List.getElem?_eq_none (by rw [List.length_set]; omega), List.getElem?_eq_none (by omega)]; rfl
theorem x_is_within {a lo hi : Int} {S : List AV} : m_is_within [.int a, .int lo, .int hi] S = .ok (.bl (decide (lo ≤ a) && decide (a ≤ hi))) S := by
  by_cases h : lo ≤ a <;> simp [h, m_is_within, m_is_whole, fnM, okT, isT, asB, oLe, oNot]
theorem x_choice {a b c n : Int} {l : Nat} {S : List AV} (hS : S[l]? = some (.lst true [.int a, .int b, .int c])) (hb : 0 ≤ b) (hb2 : b < 2 ^ 40) (hn : 0 < n) (hn2 : n < 2 ^ 40) : ∃ r a' b' c', 0 ≤ r ∧ r < n ∧ 0 ≤ b' ∧ b' < 2 ^ 40 ∧ m__law_choice [.loc l, .int n] S = .ok (.int r) (S.set l (.lst true [.int a', .int b', .int c'])) := by
  have hn3 : n < 18446744073709551616 := by omega
  unfold m__law_choice
  by_cases h : 0 < a
  · refine ⟨a % n, a / n, b, c, Int.emod_nonneg _ (by omega), Int.emod_lt_of_pos _ hn, hb, hb2, ?_⟩
    simp [h, hS, hn, hn3, fnM, ixA, deref, itA, seqA, atI_nn, ixN_nn, oGt, imm, oMod, oFdv, locOf, getPl, setPl, setZ, setIx, asI]
  · have h1 : ∀ z : Int, 0 ≤ z % 2147483647 ∧ z % 2147483647 < 2147483647 := fun z => ⟨Int.emod_nonneg _ (by omega), Int.emod_lt_of_pos _ (by omega)⟩
    have h2 : ∀ z : Int, 0 ≤ z % 2147483629 ∧ z % 2147483629 < 2147483629 := fun z => ⟨Int.emod_nonneg _ (by omega), Int.emod_lt_of_pos _ (by omega)⟩
    have cm : ∀ x y : Int, 0 ≤ x → x < 2147483647 → cMul x y = true := fun x y p q => by
      unfold cMul
      simp
      omega
    have cm2 : ∀ x y : Int, 0 ≤ y → y < 2147483647 → cMul x y = true := fun x y p q => by
      unfold cMul
      simp
      omega
    obtain ⟨b1, eb1⟩ : ∃ z, z = (b * 48271 + 29 + (c + 1)) % 2147483647 := ⟨_, rfl⟩
    obtain ⟨z1, ez1⟩ : ∃ z, z = (b1 * b1 + 39373 * b1 + 7) % 2147483629 := ⟨_, rfl⟩
    have p1 := h1 (b * 48271 + 29 + (c + 1))
    have p2 := h2 (b1 * b1 + 39373 * b1 + 7)
    rw [← eb1] at p1
    rw [← ez1] at p2
    refine ⟨(z1 * z1 + 50021 * z1) % 2147483587 / 8 % n, a, b1, c + 1, Int.emod_nonneg _ (by omega), Int.emod_lt_of_pos _ hn, p1.1, by omega, ?_⟩
    have c1 := cm2 b 48271 (by omega) (by omega)
    have c2 := cm b1 b1 p1.1 p1.2
    have c3 := cm 39373 b1 (by omega) (by omega)
    have c4 := cm z1 z1 p2.1 (by omega)
    have c5 := cm 50021 z1 (by omega) (by omega)
    simp [h, hS, hn, hn3, fnM, ixA, deref, itA, seqA, atI_nn, ixN_nn, oGt, imm, oMod, oFdv, locOf, getPl, setPl, setZ, setIx, asI, oAdd, oMul, setS_self, c1, c2, c3, c4, c5, ← eb1, ← ez1]
end Fk
namespace Fk
open PySem PySem.Spec PyProof.Rows L2
structure Fsh where
  cells : List (List AV)
  worn : List Int
  failed : List Bool
  ks : List Key
  vs : List AV
  count : Int
  power : Bool
def fshK : List Str := ["cells", "worn", "failed", "faults", "count", "power"]
def Fsh.av (F : Fsh) : AV := .ins "Flash" fshK [.nst (F.cells.map (AV.lst true)), .lst true (F.worn.map AV.int), .lst true (F.failed.map AV.bl), .dct false F.ks F.vs, .int F.count, .bl F.power]
theorem g_cells (F : Fsh) (a b c d e f : AV) : getF fshK [a, b, c, d, e, f] "cells" = some a := by unfold fshK; simp (decide := true) [getF]
theorem g_worn (a b c d e f : AV) : getF fshK [a, b, c, d, e, f] "worn" = some b := by unfold fshK; simp (decide := true) [getF]
theorem g_failed (a b c d e f : AV) : getF fshK [a, b, c, d, e, f] "failed" = some c := by unfold fshK; simp (decide := true) [getF]
theorem g_faults (a b c d e f : AV) : getF fshK [a, b, c, d, e, f] "faults" = some d := by unfold fshK; simp (decide := true) [getF]
theorem g_count (a b c d e f : AV) : getF fshK [a, b, c, d, e, f] "count" = some e := by unfold fshK; simp (decide := true) [getF]
theorem g_power (a b c d e f : AV) : getF fshK [a, b, c, d, e, f] "power" = some f := by unfold fshK; simp (decide := true) [getF]
theorem s_cells' (a b c d e f z : AV) : setFA fshK [a, b, c, d, e, f] "cells" z = [z, b, c, d, e, f] := by unfold fshK; simp (decide := true) [setFA]
theorem s_worn (a b c d e f z : AV) : setFA fshK [a, b, c, d, e, f] "worn" z = [a, z, c, d, e, f] := by unfold fshK; simp (decide := true) [setFA]
theorem s_failed (a b c d e f z : AV) : setFA fshK [a, b, c, d, e, f] "failed" z = [a, b, z, d, e, f] := by unfold fshK; simp (decide := true) [setFA]
theorem p_count (a b c d e f z : AV) : putFA fshK [a, b, c, d, e, f] "count" z = (fshK, [a, b, c, d, z, f]) := by unfold fshK; simp (decide := true) [putFA]
theorem no_m {m : Str} (h : fshK.all (fun k => !decide (k = m)) = true) : (fshK.any fun k => decide (k = m)) = false := by
  simp at h ⊢
  exact h
theorem c_ok {S : List AV} {l : Nat} {F : Fsh} {m : Str} (h : S[l]? = some F.av) (hm : fshK.all (fun k => !decide (k = m)) = true) : clsOk S "Flash" m (.loc l) = true := by
  unfold clsOk
  simp [deref, h, Fsh.av, insOf]
  simpa using hm
section
variable {S : List AV} {l : Nat} {F : Fsh}
theorem f_cells (h : S[l]? = some F.av) : fldA S "Flash" "cells" (.loc l) = some (.nst (F.cells.map (AV.lst true))) := by simp [fldA, deref, h, Fsh.av, insOf, g_cells F]
theorem f_worn (h : S[l]? = some F.av) : fldA S "Flash" "worn" (.loc l) = some (.lst true (F.worn.map AV.int)) := by simp [fldA, deref, h, Fsh.av, insOf, g_worn]
theorem f_failed (h : S[l]? = some F.av) : fldA S "Flash" "failed" (.loc l) = some (.lst true (F.failed.map AV.bl)) := by simp [fldA, deref, h, Fsh.av, insOf, g_failed]
theorem f_count (h : S[l]? = some F.av) : fldA S "Flash" "count" (.loc l) = some (.int F.count) := by simp [fldA, deref, h, Fsh.av, insOf, g_count]
theorem x_need_power (h : S[l]? = some F.av) (hp : F.power = true) : m_Flash_need_power [.loc l] S = .ok .non S := by
  simp [m_Flash_need_power, fnM, fldA, deref, h, Fsh.av, insOf, g_power, imm, hp]
theorem x_need_block (h : S[l]? = some F.av) {b : Int} (h0 : 0 ≤ b) (h1 : b < F.cells.length) : m_Flash_need_block [.loc l, .int b] S = .ok .non S := by
  have h2 : b ≤ (F.cells.length : Int) - 1 := by omega
  simp [m_Flash_need_block, fnM, fldA, deref, h, Fsh.av, insOf, g_cells F, fLen, lenA, x_is_within, oSub, h0, h2]
theorem x_fault (h : S[l]? = some F.av) (hi : imm ((getK F.ks F.vs (.inl F.count)).getD (.tup [.str "fine"])) = true) : m_Flash_fault [.loc l] S = .ok ((getK F.ks F.vs (.inl F.count)).getD (.tup [.str "fine"])) (S.set l { F with count := F.count + 1 }.av) := by
  have hk : fshK.length = 6 := rfl
  simp [m_Flash_fault, fnM, fldA, deref, h, Fsh.av, insOf, g_faults, g_count, getD', dicA, keyA, putFld, locOf, p_count, hk, hi]
theorem x_fails (h : S[l]? = some F.av) {b : Nat} (hb : b < F.failed.length) : m_Flash_fails [.loc l, .int b] S = .ok (.bl false) (S.set l { F with failed := F.failed.set b true }.av) := by
  simp [m_Flash_fails, fnM, h, Fsh.av, insOf, locOf, getPl, setPl, g_failed, s_failed, setZ, setIx, asI, ixN_nn, hb, List.map_set]
theorem q_bc : oEq (.tup [.str "bad"]) (.tup [.str "cut"]) = some (.bl false) := by kernel_rfl
theorem q_bb : oEq (.tup [.str "bad"]) (.tup [.str "bad"]) = some (.bl true) := by kernel_rfl
theorem q_fc : oEq (.tup [.str "fine"]) (.tup [.str "cut"]) = some (.bl false) := by kernel_rfl
theorem q_fb : oEq (.tup [.str "fine"]) (.tup [.str "bad"]) = some (.bl false) := by kernel_rfl
theorem q_ic {i : Int} : oEq (.tup [.str "bit", .int i]) (.tup [.str "cut"]) = some (.bl false) := by kernel_rfl
theorem q_ib {i : Int} : oEq (.tup [.str "bit", .int i]) (.tup [.str "bad"]) = some (.bl false) := by kernel_rfl
theorem m1 : fshK.all (fun k => !decide (k = ("need_power" : Str))) = true := by decide +kernel
theorem m2 : fshK.all (fun k => !decide (k = ("need_block" : Str))) = true := by decide +kernel
theorem m3 : fshK.all (fun k => !decide (k = ("fault" : Str))) = true := by decide +kernel
theorem m4 : fshK.all (fun k => !decide (k = ("fails" : Str))) = true := by decide +kernel
/-- what wipes a block, where nothing cuts -/
theorem x_wipe_bad (h : S[l]? = some F.av) {b : Nat} (hp : F.power = true) (hb : b < F.cells.length) (h1 : F.failed[b]? = some false)
    (hr : ∀ r ∈ F.cells, r.length = 2) (hf : (getK F.ks F.vs (.inl F.count)).getD (.tup [.str "fine"]) = .tup [.str "bad"]) :
    m_Flash_wipe [.loc l, .int b] S = .ok (.bl false) (S.set l { F with count := F.count + 1, failed := F.failed.set b true }.av) := by
  have hb2 : b < F.failed.length := (List.getElem?_eq_some_iff.mp h1).1
  have e1 := x_need_power h hp
  have e2 := x_need_block h (b := b) (by omega) (by omega)
  have e3 := x_fault h (by rw [hf]; rfl)
  rw [hf] at e3
  have h' : (S.set l { F with count := F.count + 1 }.av)[l]? = some { F with count := F.count + 1 }.av := by rw [setS_self, h]; rfl
  have e4 := x_fails h' (b := b) hb2
  have c1 := c_ok h m1
  have c2 := c_ok h m2
  have c3 := c_ok h m3
  have c4 := c_ok h' m4
  have g1 := f_failed h
  have g2 := f_cells h'
  have g3 : ixA S (.lst true (F.failed.map AV.bl)) (.int b) = some (.bl false) := by simp [ixA, deref, itA, seqA, atI_nn, h1]
  have g4 : ∀ S' : List AV, ixA S' (.nst (F.cells.map (AV.lst true))) (.int b) = some (.lst true F.cells[b]) := fun S' => by simp [ixA, deref, itA, seqA, atI_nn, hb]
  simp (implicitDefEqProofs := false) [m_Flash_wipe, fnM, c1, c2, c3, c4, e1, e2, e3, e4, g1, g2, g3, g4, imm, fLen, lenA, deref, isNo, q_bc, q_bb]
end
end Fk
namespace Fk
open PySem PySem.Spec PyProof.Rows L2
/-- a comprehension whose items turn nothing -/
theorem compM_ok {t : Tg} {tt : M Bool} {te : M AV} {vs : List Nat} {p : AV → Bool} {g : AV → AV} {st : Ss} : ∀ (ds acc : List AV),
    (∀ d ∈ ds, ∃ s0 s1, t d st = some s0 ∧ tt s0 = .ok (p d) s1 ∧ (p d = false → s1.wipe vs = st) ∧ (p d = true → ∃ s2, te s1 = .ok (g d) s2 ∧ s2.wipe vs = st)) →
    acc.length + ds.length ≤ 16777216 → compM t tt te vs ds acc st = .ok (acc ++ (ds.filter p).map g) st
  | [], acc, _, _ => by simp [compM]
  | d :: ds, acc, h, hl => by
    obtain ⟨s0, s1, e1, e2, e3, e4⟩ := h d (by simp)
    have hl2 : acc.length + (ds.length + 1) ≤ 16777216 := hl
    unfold compM
    rw [e1]
    simp only [e2]
    cases c : p d with
    | false =>
      simp only
      rw [e3 c, compM_ok ds acc (fun d hd => h d (by simp [hd])) (by omega), List.filter_cons, c]
      rfl
    | true =>
      obtain ⟨s2, e5, e6⟩ := e4 c
      simp only [e5]
      rw [if_pos (by omega), e6, compM_ok ds (acc ++ [g d]) (fun d hd => h d (by simp [hd])) (by simp; omega), List.filter_cons, c]
      simp
/-- a loop by what stays -/
theorem forM_ok {t : Tg} {body : M Fl} {I : Nat → Ss → Prop} : ∀ (ds : List AV) (k : Nat) (st : Ss), I k st →
    (∀ (j : Nat) d st, ds[j]? = some d → I (k + j) st → ∃ s1 s2, t d st = some s1 ∧ (body s1 = .ok .nx s2 ∨ body s1 = .ok .ct s2) ∧ I (k + j + 1) s2) → ∃ st', forM t body ds st = .ok .nx st' ∧ I (k + ds.length) st'
  | [], k, st, h, _ => ⟨st, rfl, h⟩
  | d :: ds, k, st, h, hb => by
    obtain ⟨s1, s2, e1, e2, h2⟩ := hb 0 d st rfl h
    obtain ⟨st', e3, h3⟩ := forM_ok (t := t) (body := body) (I := I) ds (k + 1) s2 h2 fun j d st e h => by
      have e4 : k + 1 + j = k + (j + 1) := by omega
      rw [e4] at h ⊢
      exact hb (j + 1) d st e h
    refine ⟨st', ?_, by rw [List.length_cons, Nat.add_comm ds.length 1, ← Nat.add_assoc]; exact h3⟩
    unfold forM
    rw [e1]
    rcases e2 with e2 | e2 <;> simp only [e2] <;> exact e3
section
variable {S : List AV} {l : Nat} {F : Fsh}
theorem m5 : fshK.all (fun k => !decide (k = ("wipes" : Str))) = true := by decide +kernel
theorem m6 : fshK.all (fun k => !decide (k = ("is_bad" : Str))) = true := by decide +kernel
theorem m7 : fshK.all (fun k => !decide (k = ("blocks" : Str))) = true := by decide +kernel
theorem m8 : fshK.all (fun k => !decide (k = ("steps" : Str))) = true := by decide +kernel
theorem x_steps (h : S[l]? = some F.av) : m_Flash_steps [.loc l] S = .ok (.int F.count) S := by
  simp (implicitDefEqProofs := false) [m_Flash_steps, fnM, f_count h, imm]
theorem x_blocks (h : S[l]? = some F.av) : m_Flash_blocks [.loc l] S = .ok (.int F.cells.length) S := by
  simp (implicitDefEqProofs := false) [m_Flash_blocks, fnM, f_cells h, fLen, deref, lenA]
theorem x_wipes (h : S[l]? = some F.av) {b : Nat} {n : Int} (hb : b < F.cells.length) (hw : F.worn[b]? = some n) : m_Flash_wipes [.loc l, .int b] S = .ok (.int n) S := by
  have e2 := x_need_block h (b := b) (by omega) (by omega)
  have g3 : ixA S (.lst true (F.worn.map AV.int)) (.int b) = some (.int n) := by simp [ixA, deref, itA, seqA, atI_nn, hw]
  simp (implicitDefEqProofs := false) [m_Flash_wipes, fnM, c_ok h m2, e2, f_worn h, g3, imm]
theorem x_is_bad (h : S[l]? = some F.av) {b : Nat} {n : Bool} (hb : b < F.cells.length) (hw : F.failed[b]? = some n) : m_Flash_is_bad [.loc l, .int b] S = .ok (.bl n) S := by
  have e2 := x_need_block h (b := b) (by omega) (by omega)
  have g3 : ixA S (.lst true (F.failed.map AV.bl)) (.int b) = some (.bl n) := by simp [ixA, deref, itA, seqA, atI_nn, hw]
  simp (implicitDefEqProofs := false) [m_Flash_is_bad, fnM, c_ok h m2, e2, f_failed h, g3, imm]
theorem pl_cells (h : S[l]? = some F.av) : getPl S l (some ("Flash", "cells")) = some (.nst (F.cells.map (AV.lst true))) := by simp [getPl, h, Fsh.av, insOf, g_cells F]
theorem pl_worn (h : S[l]? = some F.av) : getPl S l (some ("Flash", "worn")) = some (.lst true (F.worn.map AV.int)) := by simp [getPl, h, Fsh.av, insOf, g_worn]
theorem st_cells (h : S[l]? = some F.av) {cs : List (List AV)} : setPl S l (some ("Flash", "cells")) (.nst (cs.map (AV.lst true))) = S.set l { F with cells := cs }.av := by simp [setPl, h, Fsh.av, insOf, s_cells']
theorem st_worn (h : S[l]? = some F.av) {cs : List Int} : setPl S l (some ("Flash", "worn")) (.lst true (cs.map AV.int)) = S.set l { F with worn := cs }.av := by simp [setPl, h, Fsh.av, insOf, s_worn]
theorem mul2 : oMulO (.lst false [.non]) (.int 2) = some (.lst true [.non, .non]) := by rfl
theorem x_wipe_ok (h : S[l]? = some F.av) {b : Nat} {n : Int} (hp : F.power = true) (hb : b < F.cells.length) (h1 : F.failed[b]? = some false) (hw : F.worn[b]? = some n)
    (hr : ∀ r ∈ F.cells, r.length = 2) {ft : AV} (hf : (getK F.ks F.vs (.inl F.count)).getD (.tup [.str "fine"]) = ft) (hft : ft = .tup [.str "fine"] ∨ ∃ i, ft = .tup [.str "bit", .int i]) :
    m_Flash_wipe [.loc l, .int b] S = .ok (.bl true) (S.set l { F with count := F.count + 1, cells := F.cells.set b [.non, .non], worn := F.worn.set b (n + 1) }.av) := by
  have hb2 : b < F.failed.length := (List.getElem?_eq_some_iff.mp h1).1
  have hb3 : b < F.worn.length := (List.getElem?_eq_some_iff.mp hw).1
  have e1 := x_need_power h hp
  have e2 := x_need_block h (b := b) (by omega) (by omega)
  have hi : imm ft = true := by rcases hft with rfl | ⟨i, rfl⟩ <;> rfl
  have e3 := x_fault h (by rw [hf]; exact hi)
  rw [hf] at e3
  have q1 : oEq ft (.tup [.str "cut"]) = some (.bl false) := by
    rcases hft with rfl | ⟨i, rfl⟩
    · exact q_fc
    · exact q_ic
  have q2 : oEq ft (.tup [.str "bad"]) = some (.bl false) := by
    rcases hft with rfl | ⟨i, rfl⟩
    · exact q_fb
    · exact q_ib
  obtain ⟨F1, hF1⟩ : ∃ F1 : Fsh, F1 = { F with count := F.count + 1 } := ⟨_, rfl⟩
  rw [← hF1] at e3
  have h' : (S.set l F1.av)[l]? = some F1.av := by rw [setS_self, h]; rfl
  have ec : F1.cells = F.cells := by rw [hF1]
  have g1 := f_failed h
  have g2 := f_cells h'
  have g3 : ixA S (.lst true (F.failed.map AV.bl)) (.int b) = some (.bl false) := by simp [ixA, deref, itA, seqA, atI_nn, h1]
  have g4 : ∀ S' : List AV, ixA S' (.nst (F1.cells.map (AV.lst true))) (.int b) = some (.lst true F.cells[b]) := fun S' => by simp [ixA, deref, itA, seqA, atI_nn, hb, ec]
  have g5 : F.cells[b].length = 2 := hr _ (List.getElem_mem hb)
  have g6 : setZ true (.nst (F1.cells.map (AV.lst true))) (.int b) (.lst true [.non, .non]) = some (.nst ((F.cells.set b [.non, .non]).map (AV.lst true))) := by
    simp [setZ, setIx, asI, ixN_nn, ec, hb, List.map_set]
  obtain ⟨F2, hF2⟩ : ∃ F2 : Fsh, F2 = { F1 with cells := F.cells.set b [.non, .non] } := ⟨_, rfl⟩
  have g7 := st_cells h' (cs := F.cells.set b [.non, .non])
  rw [← hF2, List.set_set] at g7
  have h2 : (S.set l F2.av)[l]? = some F2.av := by rw [setS_self, h]; rfl
  have ew : F2.worn = F.worn := by rw [hF2, hF1]
  have hw' : F.worn[b] = n := by
    rw [List.getElem?_eq_getElem hb3] at hw
    exact Option.some.inj hw
  have g8 : augZ (.lst true (F2.worn.map AV.int)) (.int b) (.int 1) = some (.lst true ((F.worn.set b (n + 1)).map AV.int)) := by
    simp [augZ, atI_nn, ew, hw, hw', setZ, setIx, asI, ixN_nn, hb3, List.map_set]
  have g9 := st_worn h2 (cs := F.worn.set b (n + 1))
  rw [List.set_set] at g9
  have g10 : ({ F2 with worn := F.worn.set b (n + 1) } : Fsh) = { F with count := F.count + 1, cells := F.cells.set b [.non, .non], worn := F.worn.set b (n + 1) } := by rw [hF2, hF1]
  rw [g10] at g9
  simp (implicitDefEqProofs := false) [m_Flash_wipe, fnM, c_ok h m1, c_ok h m2, c_ok h m3, e1, e2, e3, g1, g2, g3, g4, g5, imm, fLen, lenA, deref, isNo, q1, q2, mul2, locOf, pl_cells h', g6, g7, pl_worn h2, g8, g9, -List.map_set]
end
end Fk
namespace Fk
open PySem PySem.Spec PyProof.Rows L2
def iA (n : Nat) : AV := .int n
def nA : AV → Nat
  | .int n => n.toNat
  | _ => 0
theorem rng_nat {n : Nat} (h : n ≤ 1000) : rng1 [.int n] = some ((List.range n).map iA) := by
  have h1 : (-(2 ^ 62) ≤ (n : Int) ∧ (n : Int) < 2 ^ 62) := by omega
  have h2 : rng1 [.int n] = if -(2 ^ 62) ≤ (n : Int) ∧ (n : Int) < 2 ^ 62 then some (rngL 0 n) else none := rfl
  rw [h2, if_pos h1]
  unfold rngL
  simp [iA]
def good (F : Fsh) (b : Nat) : Bool := !(F.failed[b]?).getD true
theorem filter_iA (p : Nat → Bool) (ns : List Nat) : (ns.map iA).filter (fun d => p (nA d)) = (ns.filter p).map iA := by
  rw [List.filter_map]
  congr 1
section
variable {S : List AV} {l : Nat} {F : Fsh}
theorem x_good (h : S[l]? = some F.av) (hl : F.failed.length = F.cells.length) (hn : F.cells.length ≤ 1000) : m_good_blocks [.loc l] S = .ok (.lst false (((List.range F.cells.length).filter (good F)).map iA)) S := by
  have e := compM_ok (t := gN 1) (tt := tNotM (tOf (eMeth "Flash" "is_bad" 2 m_Flash_is_bad [] (eVar 0) (aCons (eVar 1) aNil)))) (te := eVar 1) (vs := [1]) (p := fun d => good F (nA d)) (g := fun d => d) (st := ⟨[.im (.loc l), .no], S⟩) ((List.range F.cells.length).map iA) [] (by
    intro d hd
    obtain ⟨b, hb, rfl⟩ := List.mem_map.mp hd
    have hb2 : b < F.cells.length := List.mem_range.mp hb
    have hb3 : b < F.failed.length := by omega
    have e1 : F.failed[b]? = some F.failed[b] := List.getElem?_eq_getElem hb3
    have e2 := x_is_bad h hb2 e1
    have e3 : good F (nA (iA b)) = !F.failed[b] := by simp [good, nA, iA, e1]
    refine ⟨⟨[.im (.loc l), .im (iA b)], S⟩, ⟨[.im (.loc l), .im (iA b)], S⟩, rfl, ?_, fun _ => rfl, fun _ => ⟨⟨[.im (.loc l), .im (iA b)], S⟩, by simp [iA], rfl⟩⟩
    rw [e3]
    simp (implicitDefEqProofs := false) [iA, c_ok h m6, e2]) (by simp; omega)
  rw [filter_iA (good F)] at e
  simp only [List.nil_append, List.map_id'] at e
  simp (implicitDefEqProofs := false) [m_good_blocks, fnM, c_ok h m7, x_blocks h, rng_nat hn, Ss.wipe, wipeSl, e]
end
end Fk
namespace Fk
open PySem PySem.Spec PyProof.Rows L2
theorem pls_ints : ∀ ws : List Int, pls (ws.map AV.int) = true
  | [] => by simp [pls]
  | _ :: ws => by simp [pls, pl, pls_ints ws]
theorem lay_ints : ∀ ws : List Int, PyData.canLayAll0 (dats (ws.map AV.int)) = true
  | [] => by simp [dats, PyData.canLayAll0]
  | _ :: ws => by simp [dats, dat, PyData.canLayAll0, PyData.canLay0, lay_ints ws]
theorem dep_ints : ∀ ws : List Int, PyData.depthAll (dats (ws.map AV.int)) = 0
  | [] => by simp [dats, PyData.depthAll]
  | _ :: ws => by simp [dats, dat, PyData.depthAll, PyData.depth, dep_ints ws]
theorem okA_ints (o : Bool) (ws : List Int) : okA (.lst o (ws.map AV.int)) = true := by
  simp [okA, pl, pls_ints, dat, SeqAt.shaped, PyData.canLay0, lay_ints, PyData.depth, dep_ints]
theorem okA_nil (o : Bool) : okA (.lst o []) = true := okA_ints o []
theorem ne_nil (o o' : Bool) (ws : List Int) : oNe (.lst o (ws.map AV.int)) (.lst o' []) = some (.bl (!ws.isEmpty)) := by
  have e : eqA (.lst o (ws.map AV.int)) (.lst o' []) = if okA (.lst o (ws.map AV.int)) && okA (.lst o' []) then some (PyData.eqv (dat (.lst o (ws.map AV.int))) (dat (.lst o' []))) else none := rfl
  unfold oNe
  rw [e, okA_ints, okA_nil]
  cases ws with
  | nil => simp [dat, dats, PyData.eqv, PyData.eqvAll]
  | cons w ws => simp [dat, dats, PyData.eqv, PyData.eqvAll]
theorem asIs_ints : ∀ ws : List Int, asIs (ws.map AV.int) = some ws
  | [] => rfl
  | w :: ws => by simp [asIs, asIs_ints ws]
/-- the fewest and the most -/
def mnx (ws : List Int) : AV := match ws with
  | [] => .non
  | w :: ws => .tup [.int (ws.foldl min w), .int (ws.foldl max w)]
theorem f_min (S : List AV) (o : Bool) (w : Int) (ws : List Int) : fMinL S [.lst o ((w :: ws).map AV.int)] = some (.int (ws.foldl min w)) := by
  have e := asIs_ints (w :: ws)
  unfold fMinL lsOf
  simp only [Option.bind_some, e, mnI, Option.map_some]
theorem f_max (S : List AV) (o : Bool) (w : Int) (ws : List Int) : fMaxL S [.lst o ((w :: ws).map AV.int)] = some (.int (ws.foldl max w)) := by
  have e := asIs_ints (w :: ws)
  unfold fMaxL lsOf
  simp only [Option.bind_some, e, mxI, Option.map_some]
section
variable {S : List AV} {l : Nat} {F : Fsh}
def wornL (F : Fsh) : List Int := ((List.range F.cells.length).filter (good F)).map fun b => (F.worn[b]?).getD 0
theorem x_worn (h : S[l]? = some F.av) (hl : F.failed.length = F.cells.length) (hl2 : F.worn.length = F.cells.length) (hn : F.cells.length ≤ 1000) : m_worn [.loc l] S = .ok (mnx (wornL F)) S := by
  have e := compM_ok (t := gN 2) (tt := tTrue) (te := eMeth "Flash" "wipes" 2 m_Flash_wipes [] (eVar 0) (aCons (eVar 2) aNil)) (vs := [2]) (p := fun _ => true) (g := fun d => .int ((F.worn[nA d]?).getD 0)) (st := ⟨[.im (.loc l), .no, .no], S⟩) (((List.range F.cells.length).filter (good F)).map iA) [] (by
    intro d hd
    obtain ⟨b, hb, rfl⟩ := List.mem_map.mp hd
    have hb2 : b < F.cells.length := List.mem_range.mp (List.mem_filter.mp hb).1
    have hb3 : b < F.worn.length := by omega
    have e1 : F.worn[b]? = some F.worn[b] := List.getElem?_eq_getElem hb3
    have e2 := x_wipes h hb2 e1
    have e3 : (F.worn[nA (iA b)]?).getD 0 = F.worn[b] := by simp [nA, iA, e1]
    refine ⟨⟨[.im (.loc l), .no, .im (iA b)], S⟩, ⟨[.im (.loc l), .no, .im (iA b)], S⟩, rfl, rfl, fun z => (nomatch z), fun _ => ⟨⟨[.im (.loc l), .no, .im (iA b)], S⟩, ?_, rfl⟩⟩
    rw [e3]
    simp (implicitDefEqProofs := false) [iA, c_ok h m5, e2]) (by
      have := List.length_filter_le (good F) (List.range F.cells.length)
      simp at this ⊢
      omega)
  have ef : ∀ xs : List AV, xs.filter (fun _ => true) = xs := fun xs => by simp
  rw [ef, List.nil_append, List.map_map] at e
  have ew : ((List.range F.cells.length).filter (good F)).map ((fun d => AV.int ((F.worn[nA d]?).getD 0)) ∘ iA) = (wornL F).map AV.int := by
    unfold wornL
    rw [List.map_map]
    refine List.map_congr_left fun b _ => ?_
    simp [nA, iA]
  rw [ew] at e
  have hc : clsA S (.loc l) = some ("Flash" : Str) := by simp [clsA, deref, h, Fsh.av, insOf]
  have en := ne_nil false false (wornL F)
  have fm : ∀ w ws, wornL F = w :: ws → fMinL S [.lst false ((wornL F).map AV.int)] = some (.int (ws.foldl min w)) := fun w ws e => by rw [e]; exact f_min S false w ws
  have fx : ∀ w ws, wornL F = w :: ws → fMaxL S [.lst false ((wornL F).map AV.int)] = some (.int (ws.foldl max w)) := fun w ws e => by rw [e]; exact f_max S false w ws
  generalize (wornL F).map AV.int = xs at e en fm fx
  cases hw : wornL F with
  | nil =>
    rw [hw] at en
    simp (implicitDefEqProofs := false) [m_worn, fnM, hc, okT, x_good h hl hn, itemsOf, wipeSl, Ss.wipe, e, mnx, en]
  | cons w ws =>
    rw [hw] at en
    simp (implicitDefEqProofs := false) [m_worn, fnM, hc, okT, x_good h hl hn, itemsOf, wipeSl, Ss.wipe, e, mnx, en, fm w ws hw, fx w ws hw]
end
end Fk
namespace Fk
open PySem PySem.Spec PyProof.Rows L2
/-- a weather: steps and faults -/
def wAV (ws : List (Int × AV)) : List AV := ws.map fun p => .tup [.int p.1, p.2]
theorem hasK_no {ks : List Int} {k : Int} (h : k ∉ ks) : hasK (ks.map Sum.inl) (.inl k) = false := by
  unfold hasK
  simp
  intro x hx e
  subst e
  exact h hx
theorem mrg_new : ∀ (ws : List (Int × AV)) (ks : List Int) (xs : List AV), (ks ++ ws.map (·.1)).Nodup → mrgA (ks.map Sum.inl, xs) (wAV ws) = some ((ks ++ ws.map (·.1)).map Sum.inl, xs ++ ws.map (·.2))
  | [], ks, xs, h => by simp [wAV, mrgA]
  | (k, v) :: ws, ks, xs, h => by
    have hk : k ∉ ks := fun z => by
      simp only [List.map_cons, List.nodup_append, List.nodup_cons, List.mem_cons] at h
      grind
    have e := mrg_new ws (ks ++ [k]) (xs ++ [v]) (by simpa using h)
    show mrgA (ks.map Sum.inl, xs) (.tup [.int k, v] :: wAV ws) = _
    unfold mrgA
    simp only [keyA, Option.bind_some, putKA, hasK_no hk, cond_false]
    have e2 : ks.map Sum.inl ++ [Sum.inl k] = ((ks ++ [k]).map Sum.inl : List Key) := by simp
    rw [e2, e]
    simp
theorem pf1 (a : AV) : putFA [] [] "cells" a = ((["cells"] : List Str), [a]) := rfl
theorem pf2 (a b : AV) : putFA ["cells"] [a] "worn" b = ((["cells", "worn"] : List Str), [a, b]) := by simp (decide := true) [putFA]
theorem pf3 (a b c : AV) : putFA ["cells", "worn"] [a, b] "failed" c = ((["cells", "worn", "failed"] : List Str), [a, b, c]) := by simp (decide := true) [putFA]
theorem pf4 (a b c d : AV) : putFA ["cells", "worn", "failed"] [a, b, c] "faults" d = ((["cells", "worn", "failed", "faults"] : List Str), [a, b, c, d]) := by simp (decide := true) [putFA]
theorem pf5 (a b c d e : AV) : putFA ["cells", "worn", "failed", "faults"] [a, b, c, d] "count" e = ((["cells", "worn", "failed", "faults", "count"] : List Str), [a, b, c, d, e]) := by simp (decide := true) [putFA]
theorem pf6 (a b c d e f : AV) : putFA ["cells", "worn", "failed", "faults", "count"] [a, b, c, d, e] "power" f = (fshK, [a, b, c, d, e, f]) := by simp (decide := true) [putFA, fshK]
section
variable {S : List AV} {l : Nat}
def F0 (n : Nat) (ws : List (Int × AV)) : Fsh := ⟨List.replicate n [.non, .non], List.replicate n 0, List.replicate n false, (ws.map (·.1)).map Sum.inl, ws.map (·.2), 0, true⟩
theorem mulN {n : Nat} (h : n ≤ 1000) (x : AV) : oMulO (.lst false [x]) (.int n) = some (.lst true (List.replicate n x)) := by
  have e : repA n [x] = List.replicate n x := by
    unfold repA
    simp
  have h2 : oMulO (.lst false [x]) (.int n) = if (n : Int) < 1000000 ∧ -1000000 < (n : Int) ∧ [x].length * (n : Int).toNat ≤ 16777216 then some (.lst true (repA n [x])) else none := rfl
  rw [h2, if_pos (by simp; omega), e]
theorem x_init {n : Nat} {ws : List (Int × AV)} (h : S[l]? = some (.ins "Flash" [] [])) (h1 : 1 ≤ n) (h8 : n ≤ 8) (hw : m_need_weather [.tup (wAV ws)] S = .ok .non S) (hd : (ws.map (·.1)).Nodup) :
    m_Flash___init__ [.loc l, .int n, .int 2, .tup (wAV ws)] S = .ok .non (S.set l (F0 n ws).av) := by
  have e := compM_ok (t := gN 4) (tt := tTrue) (te := e2 oMulO (eLst (aCons (eC .non) aNil)) (eVar 2)) (vs := [4]) (p := fun _ => true) (g := fun _ => .lst true [.non, .non]) (st := ⟨[.im (.loc l), .im (.int n), .im (.int 2), .im (.tup (wAV ws)), .no], S⟩) ((List.range n).map iA) [] (by
    intro d hd
    refine ⟨⟨[.im (.loc l), .im (.int n), .im (.int 2), .im (.tup (wAV ws)), .im d], S⟩, ⟨[.im (.loc l), .im (.int n), .im (.int 2), .im (.tup (wAV ws)), .im d], S⟩, rfl, rfl, fun z => (nomatch z), fun _ => ⟨⟨[.im (.loc l), .im (.int n), .im (.int 2), .im (.tup (wAV ws)), .im d], S⟩, ?_, rfl⟩⟩
    simp (implicitDefEqProofs := false) [mul2]) (by simp; omega)
  have ef : ∀ xs : List AV, xs.filter (fun _ => true) = xs := fun xs => by simp
  rw [ef, List.nil_append, List.map_map] at e
  have ec : (List.range n).map ((fun _ => AV.lst true [.non, .non]) ∘ iA) = (List.replicate n [AV.non, AV.non]).map (AV.lst true) := by
    simp [List.map_replicate, Function.comp_def, List.map_const']
  rw [ec] at e
  have nc : ∀ k : Int, 1 ≤ k → k ≤ 8 → m_need_count [.int k, .int 8] S = .ok .non S := fun k a b => by
    simp (implicitDefEqProofs := false) [m_need_count, fnM, x_is_within, a, b]
  have em := mrg_new ws [] [] (by simpa using hd)
  have fd : ∀ o : Bool, fDict (.lst o (wAV ws)) = some (.dct true ((ws.map (·.1)).map Sum.inl) (ws.map (·.2))) := fun o => by
    unfold fDict
    have em2 : mrgA ([], []) (wAV ws) = some ((ws.map (·.1)).map Sum.inl, ws.map (·.2)) := by simpa using em
    simp only [em2, Option.map_some]
  simp (implicitDefEqProofs := false) [m_Flash___init__, fnM, nc n (by omega) (by omega), nc 2 (by omega) (by omega), hw, rng_nat (n := n) (by omega), Ss.wipe, wipeSl, e, putFld, locOf, h, insOf, pf1, pf2, pf3, pf4, pf5, pf6, setS_self, mulN (n := n) (by omega), fL, fList, frz, fd, Fsh.av, F0]
end
end Fk
namespace Fk
open PySem PySem.Spec PyProof.Rows L2
theorem asBs_bls : ∀ bs : List Bool, asBs (bs.map AV.bl) = some bs
  | [] => rfl
  | b :: bs => by simp [asBs, asBs_bls bs]
theorem f_all (S : List AV) (o : Bool) (bs : List Bool) : fAll S [.lst o (bs.map AV.bl)] = some (.bl (bs.all id)) := by
  unfold fAll lsOf
  simp only [Option.bind_some, asBs_bls, Option.map_some]
/-- a fault as the weathers here have them -/
def okF (d : AV) : Prop := d = .tup [.str "bad"] ∨ ∃ i : Int, 0 ≤ i ∧ i ≤ 46 ∧ d = .tup [.str "bit", .int i]
section
variable {S : List AV}
theorem i_tup {x : List AV} : isT "tuple" (.tup x) = true := by rfl
theorem i_str {x : Str} : isT "str" (.str x) = true := by rfl
theorem x_is_fault {d : AV} (h : okF d) : m_is_fault [d] S = .ok (.bl true) S := by
  rcases h with rfl | ⟨i, h0, h1, rfl⟩
  · simp (implicitDefEqProofs := false) [m_is_fault, fnM, q_bc, q_bb]
  · have e : oNe (.str "bit") (.str "bit") = some (.bl false) := by simp [oNe, eqA]
    simp (implicitDefEqProofs := false) [m_is_fault, fnM, q_ic, q_ib, okT, i_tup, i_str, fLen, deref, lenA, oNe, eqA, ixA, itA, seqA, atI_nn, imm, e, x_is_within, oSub, h0, h1]
theorem zipL_ints : ∀ (xs ys : List Int), zipL (xs.map AV.int) (ys.map AV.int) = (xs.zip ys).map fun p => AV.tup [.int p.1, .int p.2]
  | [], _ => by simp [zipL]
  | _ :: _, [] => by simp [zipL]
  | x :: xs, y :: ys => by simp [zipL, zipL_ints xs ys]
theorem zip_tail {ns : List Int} (h : ns.Pairwise (· < ·)) : ∀ p ∈ ns.zip (ns.drop 1), p.1 < p.2 := by
  induction ns with
  | nil => intro p hp; cases hp
  | cons n ns ih =>
    cases ns with
    | nil => intro p hp; simp at hp
    | cons m ns =>
      intro p hp
      have hp2 : p = (n, m) ∨ p ∈ (m :: ns).zip ns := by simpa using hp
      rcases hp2 with rfl | hp2
      · exact (List.pairwise_cons.mp h).1 m (by simp)
      · exact ih (List.pairwise_cons.mp h).2 p (by simpa using hp2)
theorem x_rises {ns : List Int} (h : ns.Pairwise (· < ·)) (hl : ns.length ≤ 1000) : m_rises [.lst false (ns.map AV.int)] S = .ok (.bl true) S := by
  have e := compM_ok (t := gT 2 (gCons' (gN 1) (gCons' (gN 2) gNil'))) (tt := tTrue) (te := e2P oLt (pVar 1) (pVar 2)) (vs := [1, 2]) (p := fun _ => true) (g := fun _ => .bl true) (st := ⟨[.im (.lst false (ns.map AV.int)), .no, .no], S⟩) ((ns.zip (ns.drop 1)).map fun p => AV.tup [.int p.1, .int p.2]) [] (by
    intro d hd
    obtain ⟨p, hp, rfl⟩ := List.mem_map.mp hd
    have hlt := zip_tail h p hp
    refine ⟨⟨[.im (.lst false (ns.map AV.int)), .im (.int p.1), .im (.int p.2)], S⟩, ⟨[.im (.lst false (ns.map AV.int)), .im (.int p.1), .im (.int p.2)], S⟩, rfl, rfl, fun z => (nomatch z), fun _ => ⟨⟨[.im (.lst false (ns.map AV.int)), .im (.int p.1), .im (.int p.2)], S⟩, ?_, rfl⟩⟩
    simp (implicitDefEqProofs := false) [oLt, hlt]) (by simp; omega)
  have ef : ∀ xs : List AV, xs.filter (fun _ => true) = xs := fun xs => by simp
  have c1 : ∀ xs : List AV, xs.map (fun _ => AV.bl true) = ((List.replicate xs.length true).map AV.bl) := fun xs => by rw [List.map_const', List.map_replicate]
  rw [ef, List.nil_append, c1] at e
  have ez : zipA [.lst false (ns.map AV.int), .lst false ((ns.drop 1).map AV.int)] = some ((ns.zip (ns.drop 1)).map fun p => AV.tup [.int p.1, .int p.2]) := by
    show some (zipL _ _) = _
    rw [zipL_ints]
  have es : slA (.lst false (ns.map AV.int)) (some 1) none = some (.lst false ((ns.drop 1).map AV.int)) := by
    show some (AV.lst false (cutA _ _ _)) = _
    have e1 : HT.sIx (ns.map AV.int).length 0 (some 1) = min 1 (ns.map AV.int).length := HT.sIx_nat _ _ 1
    unfold cutA
    rw [e1, HT.sIx_none]
    congr 2
    cases ns with
    | nil => rfl
    | cons n ns =>
      simp
      exact List.take_of_length_le (by simp)
  generalize (ns.drop 1).map AV.int = ys at es ez
  generalize ((ns.zip (ns.drop 1)).map fun p => AV.tup [.int p.1, .int p.2]) = zs at e ez
  simp (implicitDefEqProofs := false) [m_rises, fnM, oPart, asI, es, ez, Ss.wipe, wipeSl, e, f_all, -List.map_replicate, -List.map_map, -List.map_drop]
theorem x_weather {ws : List (Int × AV)} (hl : ws.length ≤ 40) (hs : ∀ p ∈ ws, 0 ≤ p.1 ∧ p.1 ≤ 9999 ∧ okF p.2) (hp : (ws.map (·.1)).Pairwise (· < ·)) : m_is_weather [.tup (wAV ws)] S = .ok (.bl true) S := by
  have ef : ∀ xs : List AV, xs.filter (fun _ => true) = xs := fun xs => by simp
  have hlen : (wAV ws).length = ws.length := by simp [wAV]
  have e1 := compM_ok (t := gN 1) (tt := tTrue) (te := eAnd (eIsi "tuple" (eVar 1)) (e2 oEq (eBP fLen (pCons (pVar 1) pNil)) (eC (.int 2)))) (vs := [1]) (p := fun _ => true) (g := fun _ => .bl true) (st := ⟨[.im (.tup (wAV ws)), .no, .no, .no], S⟩) (wAV ws) [] (by
    intro d hd
    obtain ⟨p, hp', rfl⟩ := List.mem_map.mp hd
    refine ⟨⟨[.im (.tup (wAV ws)), .im (.tup [.int p.1, p.2]), .no, .no], S⟩, ⟨[.im (.tup (wAV ws)), .im (.tup [.int p.1, p.2]), .no, .no], S⟩, rfl, rfl, fun z => (nomatch z), fun _ => ⟨⟨[.im (.tup (wAV ws)), .im (.tup [.int p.1, p.2]), .no, .no], S⟩, ?_, rfl⟩⟩
    simp (implicitDefEqProofs := false) [okT, i_tup, asB, fLen, deref, lenA, oEq, eqA]) (by rw [hlen]; simp; omega)
  have e2 := compM_ok (t := gT 2 (gCons' (gN 2) (gCons' (gN 3) gNil'))) (tt := tTrue) (te := eAnd (eCall 3 m_is_within [] (aCons (eVar 2) (aCons (eC (.int 0)) (aCons (eC (.int 9999)) aNil)))) (eCall 1 m_is_fault [] (aCons (eVar 3) aNil))) (vs := [2, 3]) (p := fun _ => true) (g := fun _ => .bl true) (st := ⟨[.im (.tup (wAV ws)), .no, .no, .no], S⟩) (wAV ws) [] (by
    intro d hd
    obtain ⟨p, hp', rfl⟩ := List.mem_map.mp hd
    obtain ⟨a, b, c⟩ := hs p hp'
    refine ⟨⟨[.im (.tup (wAV ws)), .no, .im (.int p.1), .im p.2], S⟩, ⟨[.im (.tup (wAV ws)), .no, .im (.int p.1), .im p.2], S⟩, rfl, rfl, fun z => (nomatch z), fun _ => ⟨⟨[.im (.tup (wAV ws)), .no, .im (.int p.1), .im p.2], S⟩, ?_, rfl⟩⟩
    simp (implicitDefEqProofs := false) [x_is_within, a, b, asB, x_is_fault c]) (by rw [hlen]; simp; omega)
  have e3 := compM_ok (t := gT 2 (gCons' (gN 2) (gCons' (gN 3) gNil'))) (tt := tTrue) (te := eVar 2) (vs := [2, 3]) (p := fun _ => true) (g := fun d => (atI ((seqA d).getD []) 0).getD .non) (st := ⟨[.im (.tup (wAV ws)), .no, .no, .no], S⟩) (wAV ws) [] (by
    intro d hd
    obtain ⟨p, hp', rfl⟩ := List.mem_map.mp hd
    refine ⟨⟨[.im (.tup (wAV ws)), .no, .im (.int p.1), .im p.2], S⟩, ⟨[.im (.tup (wAV ws)), .no, .im (.int p.1), .im p.2], S⟩, rfl, rfl, fun z => (nomatch z), fun _ => ⟨⟨[.im (.tup (wAV ws)), .no, .im (.int p.1), .im p.2], S⟩, ?_, rfl⟩⟩
    simp [seqA, atI_nn]) (by rw [hlen]; simp; omega)
  rw [ef, List.nil_append] at e1 e2 e3
  have c1 : (wAV ws).map (fun _ => AV.bl true) = ((List.replicate ws.length true).map AV.bl) := by rw [List.map_const', hlen, List.map_replicate]
  have c3 : (wAV ws).map (fun d => (atI ((seqA d).getD []) 0).getD .non) = (ws.map (·.1)).map AV.int := by
    unfold wAV
    rw [List.map_map, List.map_map]
    refine List.map_congr_left fun p _ => ?_
    simp [seqA, atI_nn]
  rw [c1] at e1 e2
  rw [c3] at e3
  have er := x_rises (S := S) hp (by simp; omega)
  have hg : ¬ (40 : Int) < (wAV ws).length := by rw [hlen]; omega
  simp (implicitDefEqProofs := false) [m_is_weather, fnM, okT, i_tup, fLen, deref, lenA, oGt, hg, itemsOf, Ss.wipe, wipeSl, e1, e2, e3, f_all, er, -List.map_replicate, -List.map_map]
end
end Fk
namespace Fk
open PySem PySem.Spec PyProof.Rows L2
/-- the law's draws stand at l -/
def Dr (S : List AV) (l : Nat) : Prop := ∃ a b c : Int, S[l]? = some (.lst true [.int a, .int b, .int c]) ∧ 0 ≤ b ∧ b < 2 ^ 40
theorem draw {S : List AV} {l : Nat} {n : Int} (h : Dr S l) (hn : 0 < n) (hn2 : n < 2 ^ 40) : ∃ (r : Int) (z : AV), 0 ≤ r ∧ r < n ∧ m__law_choice [.loc l, .int n] S = .ok (.int r) (S.set l z) ∧ Dr (S.set l z) l := by
  obtain ⟨a, b, c, e, h0, h1⟩ := h
  obtain ⟨r, a', b', c', p1, p2, p3, p4, p5⟩ := x_choice e h0 h1 hn hn2
  exact ⟨r, _, p1, p2, p5, a', b', c', by rw [setS_self, e]; rfl, p3, p4⟩
theorem x_cell {ns : List Int} {k : Nat} {S : List AV} : ∃ c : Int, m__law_cell_at [.scr (ns.map AV.int), .int k] S = .ok (.int c) S := by
  by_cases h : k < ns.length
  · refine ⟨ns[k], ?_⟩
    have h2 : (k : Int) < ns.length := by omega
    have e : (ns.map AV.int)[k]? = some (.int ns[k]) := by simp [h]
    have g3 : ixA S (.scr (ns.map AV.int)) (.int k) = some (.int ns[k]) := by simp [ixA, deref, itA, seqA, atI_nn, h]
    simp (implicitDefEqProofs := false) [m__law_cell_at, fnM, fLen, deref, lenA, oLt, h2, g3, imm]
    try omega
  · refine ⟨0, ?_⟩
    have h2 : ¬ (k : Int) < ns.length := by omega
    simp (implicitDefEqProofs := false) [m__law_cell_at, fnM, fLen, deref, lenA, oLt, h2]
    try omega
theorem x_state {ns : List Int} {k : Nat} {S : List AV} : ∃ z : AV, m__law_state [.scr (ns.map AV.int), .int k] S = .ok (.loc S.length) (S ++ [z]) ∧ Dr (S ++ [z]) S.length := by
  obtain ⟨c, e⟩ := x_cell (ns := ns) (k := k) (S := S)
  have hm : 0 ≤ c % 2147483629 ∧ c % 2147483629 < 2147483629 := ⟨Int.emod_nonneg _ (by omega), Int.emod_lt_of_pos _ (by omega)⟩
  refine ⟨.lst true [.int (max 0 (c - 10 ^ 18)), .int (c % 2147483629 + 1), .int 0], ?_, _, _, _, by simp; exact ⟨rfl, rfl, rfl⟩, by omega, by omega⟩
  simp (implicitDefEqProofs := false) [m__law_state, fnM, e, oPow, cPow, oSub, fMax2, oMod, oAdd, ownA]
  split <;> omega
end Fk
namespace Fk
open PySem PySem.Spec PyProof.Rows L2
/-- a dict of steps and faults -/
structure Rw (lim : Int) (ks : List Int) (vs : List AV) : Prop where
  nd : ks.Nodup
  len : ks.length = vs.length
  rg : ∀ k ∈ ks, 0 ≤ k ∧ k < lim
  ok : ∀ v ∈ vs, okF v
theorem updA_mem {k : Key} {d v : AV} : ∀ {ks : List Key} {xs : List AV}, v ∈ updA k d ks xs → v = d ∨ v ∈ xs
  | [], xs, h => .inr (by simpa [updA] using h)
  | _ :: _, [], h => by simp [updA] at h
  | k' :: ks, x :: xs, h => by
    have h2 : v ∈ (if k' = k then d else x) :: updA k d ks xs := h
    rcases List.mem_cons.mp h2 with h3 | h3
    · by_cases c : k' = k
      · rw [if_pos c] at h3; exact .inl h3
      · rw [if_neg c] at h3; exact .inr (by simp [h3])
    · rcases updA_mem h3 with z | z
      · exact .inl z
      · exact .inr (by simp [z])
theorem updA_len {k : Key} {d : AV} : ∀ {ks : List Key} {xs : List AV}, (updA k d ks xs).length = xs.length
  | [], xs => by simp [updA]
  | _ :: _, [] => by simp [updA]
  | _ :: ks, x :: xs => by simp [updA, updA_len (ks := ks) (xs := xs)]
theorem Rw.put {lim k : Int} {ks : List Int} {vs : List AV} {d : AV} (R : Rw lim ks vs) (h0 : 0 ≤ k) (h1 : k < lim) (hd : okF d) : ∃ ks' vs', putKA (ks.map Sum.inl) vs (.inl k) d = (ks'.map Sum.inl, vs') ∧ Rw lim ks' vs' ∧ ks'.length ≤ ks.length + 1 := by
  unfold putKA
  by_cases c : k ∈ ks
  · have e : hasK (ks.map Sum.inl) (.inl k) = true := by
      unfold hasK
      simp
      exact c
    rw [e]
    exact ⟨ks, _, rfl, ⟨R.nd, by rw [updA_len]; exact R.len, R.rg, fun v hv => (updA_mem hv).elim (fun z => z ▸ hd) (R.ok v)⟩, by omega⟩
  · rw [hasK_no c]
    refine ⟨ks ++ [k], vs ++ [d], by simp, ⟨?_, by simp [R.len], ?_, ?_⟩, by simp⟩
    · rw [List.nodup_append]
      refine ⟨R.nd, by simp, ?_⟩
      intro a ha b hb
      have : b = k := by simpa using hb
      subst this
      rintro rfl
      exact c ha
    · intro a ha
      rcases List.mem_append.mp ha with z | z
      · exact R.rg a z
      · have : a = k := by simpa using z
        subst this
        exact ⟨h0, h1⟩
    · intro a ha
      rcases List.mem_append.mp ha with z | z
      · exact R.ok a z
      · have : a = d := by simpa using z
        subst this
        exact hd
/-- the words of the weathers -/
def wds : AV := .lst false [.str "bad", .str "bit"]
def wI (S : List AV) (l : Nat) (k : Nat) (st : Ss) : Prop := ∃ ks vs s4 s5 z, st = ⟨[.im (.loc l), .im (.int 12), .im wds, .ow (.dct true (ks.map Sum.inl) vs), s4, s5, .no], S.set l z⟩ ∧ Dr (S.set l z) l ∧ Rw 12 ks vs ∧ ks.length ≤ k
theorem w_body {S : List AV} {l k : Nat} {st : Ss} {d : AV} (hk : k < 100) (h : wI S l k st) : ∃ s1 s2, gN 4 d st = some s1 ∧ (sSeq (sAsg 5 (eIx (eVar 2) (eCall 2 m__law_choice [] (aCons (eVar 0) (aCons (eBP fLen (pCons (pVar 2) pNil)) aNil)))))
    (sSetB 3 (eCall 2 m__law_choice [] (aCons (eVar 0) (aCons (eVar 1) aNil))) (eIf (tOf (e2P oEq (pVar 5) (pC (.str "bit")))) (eTup (aCons (eC (.str "bit")) (aCons (eCall 2 m__law_choice [] (aCons (eVar 0) (aCons (eC (.int 47)) aNil))) aNil))) (eTup (aCons (eVar 5) aNil))))) s1 = .ok .nx s2 ∧ wI S l (k + 1) s2 := by
  obtain ⟨ks, vs, s4, s5, z, rfl, hD, R, hl⟩ := h
  obtain ⟨r1, z1, a1, b1, e1, D1⟩ := draw (n := 2) hD (by omega) (by omega)
  rw [List.set_set] at e1 D1
  have hlen : ks.length < 16777216 := by omega
  have i0 : ∀ S' : List AV, ixA S' wds (.int 0) = some (.str "bad") := fun S' => by simp [ixA, wds, deref, itA, seqA, atI_nn]
  have i1 : ∀ S' : List AV, ixA S' wds (.int 1) = some (.str "bit") := fun S' => by simp [ixA, wds, deref, itA, seqA, atI_nn]
  have il : ∀ S' : List AV, fLen S' [wds] = some (.int 2) := fun S' => by simp [fLen, wds, deref, lenA]
  have q0 : oEq (.str "bad") (.str "bit") = some (.bl false) := by kernel_rfl
  have q1 : oEq (.str "bit") (.str "bit") = some (.bl true) := by kernel_rfl
  have hr : r1 = 0 ∨ r1 = 1 := by omega
  rcases hr with rfl | rfl
  · obtain ⟨r2, z2, a2, b2, e2, D2⟩ := draw (n := 12) D1 (by omega) (by omega)
    rw [List.set_set] at e2 D2
    obtain ⟨ks', vs', ep, R', hl'⟩ := R.put (d := .tup [.str "bad"]) a2 b2 (.inl rfl)
    refine ⟨⟨[.im (.loc l), .im (.int 12), .im wds, .ow (.dct true (ks.map Sum.inl) vs), .im d, s5, .no], S.set l z⟩, ⟨[.im (.loc l), .im (.int 12), .im wds, .ow (.dct true (ks'.map Sum.inl) vs'), .im d, .im (.str "bad"), .no], S.set l z2⟩, rfl, ?_, ks', vs', _, _, z2, rfl, D2, R', by omega⟩
    simp (implicitDefEqProofs := false) [imm, il, e1, e2, i0, q0, isOw, storeB, ownL, ownD, keyA, hlen, ep, putD]
  · obtain ⟨r3, z3, a3, b3, e3, D3⟩ := draw (n := 47) D1 (by omega) (by omega)
    rw [List.set_set] at e3 D3
    obtain ⟨r2, z2, a2, b2, e2, D2⟩ := draw (n := 12) D3 (by omega) (by omega)
    rw [List.set_set] at e2 D2
    obtain ⟨ks', vs', ep, R', hl'⟩ := R.put (d := .tup [.str "bit", .int r3]) a2 b2 (.inr ⟨r3, a3, by omega, rfl⟩)
    refine ⟨⟨[.im (.loc l), .im (.int 12), .im wds, .ow (.dct true (ks.map Sum.inl) vs), .im d, s5, .no], S.set l z⟩, ⟨[.im (.loc l), .im (.int 12), .im wds, .ow (.dct true (ks'.map Sum.inl) vs'), .im d, .im (.str "bit"), .no], S.set l z2⟩, rfl, ?_, ks', vs', _, _, z2, rfl, D2, R', by omega⟩
    simp (implicitDefEqProofs := false) [imm, il, e1, e2, e3, i1, q1, isOw, storeB, ownL, ownD, keyA, hlen, ep, putD]
end Fk
namespace Fk
open PySem PySem.Spec PyProof.Rows L2
theorem w_choice {S : List AV} {l : Nat} {n : Int} {Q : AV → List AV → Prop} {E : Str → List AV → Prop} (h : Dr S l) (hn : 0 < n) (hn2 : n < 2 ^ 40) (k : ∀ (r : Int) (z : AV), 0 ≤ r → r < n → Dr (S.set l z) l → Q (.int r) (S.set l z)) : WpR (m__law_choice [.loc l, .int n] S) Q E := by
  obtain ⟨r, z, h0, h1, e, D⟩ := draw h hn hn2
  exact wp_of e (k r z h0 h1 D)
theorem getK_mem : ∀ {ks : List Int} {vs : List AV} {k : Int}, k ∈ ks → ks.length = vs.length → ∃ v ∈ vs, getK (ks.map Sum.inl) vs (.inl k) = some v
  | [], _, _, h, _ => by cases h
  | _ :: _, [], _, _, h => by cases h
  | k' :: ks, v :: vs, k, h, hl => by
    by_cases c : k' = k
    · exact ⟨v, by simp, by simp [getK, c]⟩
    · obtain ⟨v', hv, e⟩ := getK_mem (ks := ks) (vs := vs) (k := k) ((List.mem_cons.mp h).resolve_left (fun z => c z.symm)) (by simpa using hl)
      exact ⟨v', by simp [hv], by simp [getK, c, e]⟩
theorem keysI_map : ∀ ks : List Int, keysI (ks.map Sum.inl) = some ks
  | [] => rfl
  | k :: ks => by simp [keysI, keysI_map ks]
theorem imm_okF {d : AV} (h : okF d) : imm d = true := by
  rcases h with rfl | ⟨i, _, _, rfl⟩ <;> rfl
theorem w_weather {S : List AV} {l : Nat} {Q : AV → List AV → Prop} {E : Str → List AV → Prop} (hD : Dr S l)
    (k : ∀ (ws : List (Int × AV)) (z : AV), Dr (S.set l z) l → ws.length ≤ 6 → (∀ p ∈ ws, 0 ≤ p.1 ∧ p.1 < 12 ∧ okF p.2) → (ws.map (·.1)).Pairwise (· < ·) → Q (.tup (wAV ws)) (S.set l z)) : WpR (m__law_weather [.loc l, .int 12, wds] S) Q E := by
  refine wpF ?_
  refine wpS ?_
  simp (implicitDefEqProofs := false) [-k_sSeq]
  refine wpS ?_
  simp (implicitDefEqProofs := false) [-k_sSeq]
  refine wpC (w_choice hD (by omega) (by omega) fun r z h0 h1 D => ?_)
  obtain ⟨n, rfl⟩ := Int.eq_ofNat_of_zero_le h0
  simp (implicitDefEqProofs := false) [-k_sSeq, rng_nat (n := n) (by omega)]
  refine wpO (wI S l) ⟨[], [], .no, .no, z, by simp [Sl], D, ⟨by simp, rfl, by simp, by simp⟩, by simp⟩ (fun j d st hd hI => ?_) fun st hI => ?_
  · have hj : j < n := by
      have := (List.getElem?_eq_some_iff.mp hd).1
      simpa using this
    obtain ⟨s1, s2, e1, e2, hI2⟩ := w_body (d := d) (by omega) hI
    exact ⟨s1, e1, wp_of e2 hI2⟩
  · obtain ⟨ks, vs, s4, s5, z, rfl, D, R, hl⟩ := hI
    have hl2 : ks.length ≤ 6 := by
      simp at hl
      omega
    have hs : ks.length < 64 := by omega
    simp (implicitDefEqProofs := false) [-k_sSeq, fL, fSrt, keysI_map, hs, frz, itemsOf, wipeSl, Ss.wipe]
    refine wpB (wpL (fun _ => true) (fun d => .tup [d, (getK (ks.map Sum.inl) vs (.inl (asI d |>.getD 0))).getD .non]) (fun d hd => ?_) ?_ ?_)
    · obtain ⟨x, hx, rfl⟩ := List.mem_map.mp hd
      have hx2 : x ∈ ks := (srtI_perm ks).mem_iff.mp hx
      obtain ⟨v, hv, ev⟩ := getK_mem hx2 R.len
      refine ⟨_, rfl, ?_⟩
      have i1 : ixA (S.set l z) (.dct true (ks.map Sum.inl) vs) (.int x) = some v := by simp [ixA, deref, itA, seqA, dicA, keyA, ev]
      simp (implicitDefEqProofs := false) [-k_sSeq, i1, imm_okF (R.ok v hv), asI, ev, Ss.wipe, wipeSl]
    · simp [(srtI_perm ks).length_eq]
      omega
    · have e : ((((srtI ks).map AV.int).filter fun _ => true).map fun d => AV.tup [d, (getK (ks.map Sum.inl) vs (.inl (asI d |>.getD 0))).getD .non]) = wAV ((srtI ks).map fun x => (x, (getK (ks.map Sum.inl) vs (.inl x)).getD .non)) := by
        have ef : ∀ xs : List AV, xs.filter (fun _ => true) = xs := fun xs => by simp
        rw [ef]
        simp [wAV, asI, Function.comp_def]
      rw [e]
      have q := k ((srtI ks).map fun x => (x, (getK (ks.map Sum.inl) vs (.inl x)).getD .non)) z D (by simp [(srtI_perm ks).length_eq, hl2]) (fun p hp => by
        obtain ⟨x, hx, rfl⟩ := List.mem_map.mp hp
        have hx2 : x ∈ ks := (srtI_perm ks).mem_iff.mp hx
        obtain ⟨v, hv, ev⟩ := getK_mem hx2 R.len
        have r := R.rg x hx2
        refine ⟨r.1, r.2, ?_⟩
        simp only [ev, Option.getD_some]
        exact R.ok v hv) (by
        have h1 := srtI_srt ks
        have h2 : (srtI ks).Nodup := (srtI_perm ks).nodup_iff.mpr R.nd
        rw [List.map_map]
        have e2 : (srtI ks).map ((fun x => x.1) ∘ fun x => (x, (getK (ks.map Sum.inl) vs (.inl x)).getD AV.non)) = srtI ks := by simp [Function.comp_def]
        rw [e2]
        exact (List.pairwise_and_iff.mpr ⟨h1, h2⟩).imp fun ⟨a, b⟩ => by omega)
      simp (implicitDefEqProofs := false) [-k_sSeq, fTup]
      exact q
end Fk
namespace Fk
open PySem PySem.Spec PyProof.Rows L2
theorem Dr.frame {S S' : List AV} {l : Nat} (h : Dr S l) (e : S'[l]? = S[l]?) : Dr S' l := by
  obtain ⟨a, b, c, h, h0, h1⟩ := h
  exact ⟨a, b, c, by rw [e, h], h0, h1⟩
theorem Dr.lt {S : List AV} {l : Nat} (h : Dr S l) : l < S.length := by
  obtain ⟨a, b, c, h, _⟩ := h
  exact (List.getElem?_eq_some_iff.mp h).1
theorem getK_in : ∀ {ks : List Key} {vs : List AV} {k : Key} {v : AV}, getK ks vs k = some v → v ∈ vs
  | [], _, _, _, h => by simp [getK] at h
  | _ :: _, [], _, _, h => by simp [getK] at h
  | k' :: ks, x :: xs, k, v, h => by
    unfold getK at h
    by_cases c : k' = k
    · rw [if_pos c] at h; simp [← Option.some.inj h]
    · rw [if_neg c] at h; simp [getK_in h]
structure Wk (n j : Nat) (ws : List (Int × AV)) (F : Fsh) (ow : List AV) : Prop where
  c : F.cells.length = n
  r : ∀ r ∈ F.cells, r.length = 2
  w : F.worn.length = n
  f : F.failed.length = n
  p : F.power = true
  vs : F.vs = ws.map (·.2)
  o : ow.length = n
  at_ : ∀ (b : Nat) w x, F.worn[b]? = some w → F.failed[b]? = some x → ow[b]? = some (bif x then .non else .int w)
  le : ∀ w ∈ F.worn, 0 ≤ w ∧ w ≤ j
def wwI (S : List AV) (l n : Nat) (ws : List (Int × AV)) (j : Nat) (st : Ss) : Prop := ∃ F ow s5 s6 S', st = ⟨[.im (.loc l), .im (.int n), .im (.tup (wAV ws)), .im (.loc S.length), .ow (.lst true ow), s5, s6], S'⟩ ∧ S'[S.length]? = some (Fsh.av F) ∧ Dr S' l ∧ Wk n j ws F ow ∧ S'.length = S.length + 1
theorem w_wiped {S : List AV} {l n : Nat} {ws : List (Int × AV)} {Q : AV → List AV → Prop} {E : Str → List AV → Prop} (hD : Dr S l) (h1 : 1 ≤ n) (h8 : n ≤ 8) (hl : ws.length ≤ 40) (hs : ∀ p ∈ ws, 0 ≤ p.1 ∧ p.1 ≤ 9999 ∧ okF p.2) (hp : (ws.map (·.1)).Pairwise (· < ·))
    (k : ∀ F ow S', S'[S.length]? = some (Fsh.av F) → Dr S' l → Wk n 12 ws F ow → Q (.tup [.loc S.length, .lst false ow]) S') : WpR (m__law_wiped [.loc l, .int n, .tup (wAV ws)] S) Q E := by
  refine wpF ?_
  have hn : m_need_weather [.tup (wAV ws)] (S ++ [.ins "Flash" [] []]) = .ok .non (S ++ [.ins "Flash" [] []]) := by
    simp (implicitDefEqProofs := false) [-k_sSeq, m_need_weather, fnM, x_weather hl hs hp]
  have hS : (S ++ [AV.ins "Flash" [] []])[S.length]? = some (AV.ins "Flash" [] []) := by simp
  have hnd : (ws.map (·.1)).Nodup := hp.imp fun h => by omega
  have hin := x_init (n := n) (ws := ws) hS h1 h8 hn hnd
  have e0 : (S ++ [AV.ins "Flash" [] []]).set S.length (F0 n ws).av = S ++ [(F0 n ws).av] := by simp
  rw [e0] at hin
  refine wpS ?_
  simp (implicitDefEqProofs := false) [-k_sSeq, hin, mulN (n := n) (by omega), isNo]
  have hr : rng1 [.int 12] = some ((List.range 12).map iA) := rng_nat (n := 12) (by omega)
  refine wpS ?_
  simp (implicitDefEqProofs := false) [-k_sSeq, hr]
  have lt := hD.lt
  refine wpO (wwI S l n ws) ⟨F0 n ws, List.replicate n (.int 0), .no, .no, _, rfl, by simp, hD.frame (by simp [List.getElem?_append_left lt]), ?_, by simp⟩ (fun j d st hd hI => ?_) fun st hI => ?_
  · refine ⟨by simp [F0], by simp [F0], by simp [F0], by simp [F0], rfl, rfl, by simp, fun b w x e1 e2 => ?_, by simp [F0]⟩
    simp only [F0, List.getElem?_replicate] at e1 e2 ⊢
    split at e1
    · rename_i hb
      rw [if_pos hb] at e2 ⊢
      simp at e1 e2
      subst e1 e2
      rfl
    · cases e1
  · obtain ⟨F, ow, s5, s6, S', rfl, hF, hD', K, hlen⟩ := hI
    refine ⟨_, rfl, ?_⟩
    refine wpS ?_
    simp (implicitDefEqProofs := false) [-k_sSeq]
    refine wpC (w_choice hD' (by omega) (by omega) fun r z r0 r1 D => ?_)
    obtain ⟨b, rfl⟩ := Int.eq_ofNat_of_zero_le r0
    have hb : b < n := by omega
    have hF2 : (S'.set l z)[S.length]? = some (Fsh.av F) := by
      rw [List.getElem?_set_ne (by omega)]
      exact hF
    obtain ⟨w, ew, wle⟩ : ∃ w, F.worn[b]? = some w ∧ 0 ≤ w ∧ w ≤ j := ⟨_, List.getElem?_eq_getElem (by rw [K.w]; exact hb), K.le _ (List.getElem_mem _)⟩
    obtain ⟨x, ef⟩ : ∃ x, F.failed[b]? = some x := ⟨_, List.getElem?_eq_getElem (by rw [K.f]; exact hb)⟩
    have eo := K.at_ b _ _ ew ef
    have hbo : b < ow.length := by rw [K.o]; exact hb
    have i1 : ixA (S'.set l z) (.lst true ow) (.int b) = some (bif x then .non else .int w) := by simp [ixA, deref, itA, seqA, atI_nn, eo]
    cases x with
    | true =>
      simp (implicitDefEqProofs := false) [-k_sSeq, i1, oNis, isN]
      exact ⟨F, ow, _, _, _, rfl, hF2, D, ⟨K.c, K.r, K.w, K.f, K.p, K.vs, K.o, K.at_, fun w hw => ⟨(K.le w hw).1, by have := (K.le w hw).2; omega⟩⟩, by simp [hlen]⟩
    | false =>
      have hft : okF ((getK F.ks F.vs (.inl F.count)).getD (.tup [.str "fine"])) ∨ (getK F.ks F.vs (.inl F.count)).getD (.tup [.str "fine"]) = .tup [.str "fine"] := by
        cases e : getK F.ks F.vs (.inl F.count) with
        | none => exact .inr rfl
        | some v =>
          left
          have := getK_in e
          rw [K.vs] at this
          obtain ⟨p, hp, rfl⟩ := List.mem_map.mp this
          exact (hs p hp).2.2
      have mc := c_ok hF2 (m := ("wipe" : Str)) (by decide +kernel)
      by_cases cb : (getK F.ks F.vs (.inl F.count)).getD (.tup [.str "fine"]) = .tup [.str "bad"]
      · have e := x_wipe_bad hF2 K.p (by rw [K.c]; exact hb) ef K.r cb
        simp (implicitDefEqProofs := false) [-k_sSeq, i1, oNis, isN, mc, e, isOw, storeB, ownL, setIx, asI, ixN_nn, hbo, putL]
        refine ⟨{ F with count := F.count + 1, failed := F.failed.set b true }, ow.set b .non, _, _, _, rfl, by rw [setS_self, hF2]; rfl, ?_, ⟨K.c, K.r, K.w, by simp [K.f], K.p, K.vs, by simp [K.o], fun b' w' x' e1 e2 => ?_, fun w hw => ⟨(K.le w hw).1, by have := (K.le w hw).2; omega⟩⟩, by simp [hlen]⟩
        · exact D.frame (by rw [List.getElem?_set_ne (by omega)])
        · by_cases c : b' = b
          · subst c
            simp only at e1 e2
            rw [List.getElem?_set_self (by rw [K.f]; exact hb)] at e2
            cases e2
            rw [List.getElem?_set_self hbo]
            rfl
          · simp only at e1 e2
            rw [List.getElem?_set_ne (by omega)] at e2 ⊢
            exact K.at_ b' w' x' e1 e2
      · have e := x_wipe_ok hF2 K.p (by rw [K.c]; exact hb) ef ew K.r rfl (by
          rcases hft with (h | ⟨i, _, _, h⟩) | h
          · exact absurd h cb
          · exact .inr ⟨i, h⟩
          · exact .inl h)
        have i2 : ∀ S2 : List AV, ixA S2 (.lst true ow) (.int b) = some (.int w) := fun S2 => by simp [ixA, deref, itA, seqA, atI_nn, eo]
        simp (implicitDefEqProofs := false) [-k_sSeq, i1, i2, oNis, isN, mc, e, isOw, storeB, ownL, setIx, asI, ixN_nn, hbo, putL, imm, oAdd]
        refine ⟨{ F with count := F.count + 1, cells := F.cells.set b [.non, .non], worn := F.worn.set b (w + 1) }, ow.set b (.int (w + 1)), _, _, _, rfl, by rw [setS_self, hF2]; rfl, ?_, ⟨by simp [K.c], fun r hr => ?_, by simp [K.w], by simp [K.f], K.p, K.vs, by simp [K.o], fun b' w' x' e1 e2 => ?_, fun w' hw' => ?_⟩, by simp [hlen]⟩
        · exact D.frame (by rw [List.getElem?_set_ne (by omega)])
        · rcases List.mem_or_eq_of_mem_set hr with h | h
          · exact K.r r h
          · rw [h]; rfl
        · by_cases c : b' = b
          · subst c
            simp only at e1 e2
            rw [List.getElem?_set_self (by rw [K.w]; exact hb)] at e1
            rw [ef] at e2
            cases e1
            cases e2
            rw [List.getElem?_set_self hbo]
            rfl
          · simp only at e1 e2
            rw [List.getElem?_set_ne (by omega)] at e1 ⊢
            exact K.at_ b' w' x' e1 e2
        · rcases List.mem_or_eq_of_mem_set hw' with h | h
          · exact ⟨(K.le w' h).1, by have := (K.le w' h).2; omega⟩
          · omega
  · obtain ⟨F, ow, s5, s6, S', rfl, hF, hD', K, hlen⟩ := hI
    simp (implicitDefEqProofs := false) [-k_sSeq, frz]
    exact k F ow S' hF hD' (by simpa using K)
end Fk
namespace Fk
open PySem PySem.Spec PyProof.Rows L2
theorem w_state {ns : List Int} {k : Nat} {S : List AV} {Q : AV → List AV → Prop} {E : Str → List AV → Prop} (h : ∀ l S', Dr S' l → Q (.loc l) S') : WpR (m__law_state [.scr (ns.map AV.int), .int k] S) Q E := by
  obtain ⟨z, e, D⟩ := x_state (ns := ns) (k := k) (S := S)
  exact wp_of e (h _ _ D)
theorem w_choiceU {S : List AV} {l : Nat} {n : Int} {Q : AV → List AV → Prop} {E : Str → List AV → Prop} (h : Dr S l) (hn : 0 < n) (hn2 : n < 2 ^ 40) (k : ∀ (r : Nat) S', (r : Int) < n → Dr S' l → Q (.int r) S') : WpR (m__law_choice [.loc l, .int n] S) Q E :=
  w_choice h hn hn2 fun r z r0 r1 D => by
    obtain ⟨n, rfl⟩ := Int.eq_ofNat_of_zero_le r0
    exact k n _ r1 D
theorem w_same {k n : Nat} {x : AV} {S : List AV} {Q : AV → List AV → Prop} {E : Str → List AV → Prop} (hx : Sh k n x) (hk : k ≤ 60) (hn : n ≤ 16000000) (h : Q (.bl true) S) : WpR (m__law_same [x, x] S) Q E := by
  refine wpF ?_
  simp (implicitDefEqProofs := false) [-k_sSeq, fRepr_ok hx hk hn, oEq, eqA]
  exact h
/-- what is owed of a flash -/
theorem owed_eq {n j : Nat} {ws : List (Int × AV)} {F : Fsh} {ow : List AV} (K : Wk n j ws F ow) : ow = (List.range n).map fun b => bif good F b then AV.int ((F.worn[b]?).getD 0) else .non := by
  apply List.ext_getElem?
  intro b
  by_cases hb : b < n
  · obtain ⟨w, ew⟩ : ∃ w, F.worn[b]? = some w := ⟨_, List.getElem?_eq_getElem (by rw [K.w]; exact hb)⟩
    obtain ⟨x, ef⟩ : ∃ x, F.failed[b]? = some x := ⟨_, List.getElem?_eq_getElem (by rw [K.f]; exact hb)⟩
    rw [K.at_ b w x ew ef]
    cases x <;> simp [hb, good, ew, ef]
  · rw [List.getElem?_eq_none (by rw [K.o]; omega), List.getElem?_eq_none (by simp; omega)]
theorem wornL_le {n j : Nat} {ws : List (Int × AV)} {F : Fsh} {ow : List AV} (K : Wk n j ws F ow) : ∀ w ∈ wornL F, 0 ≤ w ∧ w ≤ j := by
  intro w hw
  obtain ⟨b, hb, rfl⟩ := List.mem_map.mp hw
  have hb2 : b < F.worn.length := by
    have := List.mem_range.mp (List.mem_filter.mp hb).1
    rw [K.w, ← K.c]
    exact this
  rw [List.getElem?_eq_getElem hb2]
  exact K.le _ (List.getElem_mem hb2)
theorem fold_mn : ∀ (ws : List Int) (w lo hi : Int), lo ≤ w → w ≤ hi → (∀ x ∈ ws, lo ≤ x ∧ x ≤ hi) → lo ≤ ws.foldl min w ∧ ws.foldl min w ≤ hi ∧ lo ≤ ws.foldl max w ∧ ws.foldl max w ≤ hi
  | [], w, lo, hi, a, b, _ => ⟨a, b, a, b⟩
  | x :: ws, w, lo, hi, a, b, h => by
    obtain ⟨c, d⟩ := h x (by simp)
    have h1 := fold_mn ws (min w x) lo hi (by omega) (by omega) fun y hy => h y (by simp [hy])
    have h2 := fold_mn ws (max w x) lo hi (by omega) (by omega) fun y hy => h y (by simp [hy])
    exact ⟨h1.1, h1.2.1, h2.2.2.1, h2.2.2.2⟩
theorem sh_mnx {ws : List Int} (h : ∀ w ∈ ws, 0 ≤ w ∧ w ≤ 12) : Sh 1 300 (mnx ws) := by
  cases ws with
  | nil => exact (sh_non (k := 0)).mono (by omega) (by omega)
  | cons w ws =>
    have h0 := h w (by simp)
    have f := fold_mn ws w 0 12 h0.1 h0.2 fun x hx => h x (by simp [hx])
    exact (sh_tup (k := 0) (shs_cons (sh_int (by omega)) (shs_cons (sh_int (by omega)) shs_nil))).mono (by omega) (by omega)
def evL (r : Nat) : List (Int × AV) := ((List.range 12).map fun (i : Nat) => ((i : Int), AV.tup [.str "bad"])).take r
theorem evL_ok (r : Nat) : (evL r).length ≤ 40 ∧ (∀ p ∈ evL r, 0 ≤ p.1 ∧ p.1 ≤ 9999 ∧ okF p.2) ∧ ((evL r).map (·.1)).Pairwise (· < ·) := by
  refine ⟨by simp [evL]; omega, fun p hp => ?_, ?_⟩
  · obtain ⟨i, hi, rfl⟩ := List.mem_map.mp (List.mem_of_mem_take hp)
    have := List.mem_range.mp hi
    exact ⟨by simp, by simp; omega, .inl rfl⟩
  · unfold evL
    rw [List.map_take]
    have e : ((List.range 12).map fun (i : Nat) => ((i : Int), AV.tup [.str "bad"])).map (·.1) = (List.range 12).map fun (i : Nat) => (i : Int) := by simp
    rw [e]
    refine List.Pairwise.take ?_
    decide +kernel
def lwI (ns : List Int) (j : Nat) (st : Ss) : Prop := ∃ a1 a2 a3 a4 a5 a6 a7 a8 a9 a10 a11 a12 S, st = ⟨[.im (.scr (ns.map AV.int)), a1, a2, a3, a4, a5, a6, a7, a8, a9, a10, a11, a12], S⟩
def lwJ (ns : List Int) (a1 : Sl) (l n : Nat) (ev : AV) (j : Nat) (st : Ss) : Prop := ∃ a5 a6 a7 a8 a9 a10 a11 a12 S, st = ⟨[.im (.scr (ns.map AV.int)), a1, .im (.loc l), .im (.int n), .im ev, a5, a6, a7, a8, a9, a10, a11, a12], S⟩ ∧ Dr S l
def okW (d : AV) : Prop := ∃ ws : List (Int × AV), d = .tup (wAV ws) ∧ ws.length ≤ 40 ∧ (∀ p ∈ ws, 0 ≤ p.1 ∧ p.1 ≤ 9999 ∧ okF p.2) ∧ (ws.map (·.1)).Pairwise (· < ·)
theorem ev_eq (r : Nat) (hr : r ≤ 12) : slA (.tup (((List.range 12).map iA).map fun d => .tup [d, .tup [.str "bad"]])) none (some r) = some (.tup (wAV (evL r))) := by
  have h : ∀ r : Fin 13, cutA (((List.range 12).map iA).map fun d => AV.tup [d, .tup [.str "bad"]]) none (some ((r : Nat) : Int)) = ((((List.range 12).map iA).map fun d => AV.tup [d, .tup [.str "bad"]])).take r := by
    intro r
    unfold cutA
    have e1 : ∀ m, HT.sIx m m (some ((r : Nat) : Int)) = min (r : Nat) m := fun m => HT.sIx_nat _ _ _
    rw [e1, HT.sIx_none]
    simp
  show some (AV.tup (cutA _ _ _)) = _
  rw [h ⟨r, by omega⟩]
  congr 2
  unfold evL wAV
  rw [List.map_take]
  simp [iA, Function.comp_def]
theorem f_min2 (S : List AV) (i j : Int) : fMin2 S [.int i, .int j] = some (.int (min i j)) := by
  have h : fMin2 S [.int i, .int j] = some (.int (if j < i then j else i)) := rfl
  rw [h]
  congr 2
  split <;> omega
theorem f_max2 (S : List AV) (i j : Int) : fMax2 S [.int i, .int j] = some (.int (max i j)) := by
  have h : fMax2 S [.int i, .int j] = some (.int (if j > i then j else i)) := rfl
  rw [h]
  congr 2
  split <;> omega
theorem pure_law (ns : List Int) (hl : ns.length ≤ 63) (hb : ∀ z ∈ ns, Builtin.Int.intBits z ≤ 1048576) : ∃ S, m_law [.scr (ns.map AV.int)] [] = .ok (.bl true) S := by
  have main : WpR (m_law [.scr (ns.map AV.int)] []) (fun d _ => d = .bl true) noE := by
    refine wpF ?_
    obtain ⟨m, hm, h5⟩ : ∃ m : Nat, max (1 : Int) (min (ns.length : Int) 5) = m ∧ m ≤ 5 := ⟨max 1 (min ns.length 5), by omega, by omega⟩
    refine wpS ?_
    simp (implicitDefEqProofs := false) [-k_sSeq, fLen, deref, lenA, f_min2, f_max2, hm, rng_nat (n := m) (by omega)]
    refine wpO (lwI ns) ⟨_, _, _, _, _, _, _, _, _, _, _, _, _, rfl⟩ (fun j d st hd hI => ?_) fun st hI => ?_
    · obtain ⟨a1, a2, a3, a4, a5, a6, a7, a8, a9, a10, a11, a12, S, rfl⟩ := hI
      obtain ⟨i, rfl⟩ : ∃ i, d = iA i := by
        obtain ⟨i, _, e⟩ := List.mem_map.mp (List.mem_of_getElem? hd)
        exact ⟨i, e.symm⟩
      refine ⟨_, rfl, ?_⟩
      refine wpS ?_
      simp (implicitDefEqProofs := false) [-k_sSeq, iA]
      refine wpC (w_state fun l S D => ?_)
      simp (implicitDefEqProofs := false) [-k_sSeq]
      refine wpS ?_
      simp (implicitDefEqProofs := false) [-k_sSeq]
      refine wpC (w_choiceU D (by omega) (by omega) fun n S n8 D => ?_)
      simp (implicitDefEqProofs := false) [-k_sSeq, oAdd]
      have hr12 : rng1 [.int 12] = some ((List.range 12).map iA) := rng_nat (n := 12) (by omega)
      generalize hxs : (List.range 12).map iA = xs at hr12
      refine wpS ?_
      simp (implicitDefEqProofs := false) [-k_sSeq, hr12, wipeSl, Ss.wipe]
      refine wpB (wpL (fun _ => true) (fun d => .tup [d, .tup [.str "bad"]]) (fun d hd => ⟨_, rfl, ?_⟩) (by rw [← hxs, List.length_map, List.length_range]; omega) ?_)
      · simp (implicitDefEqProofs := false) [-k_sSeq, Ss.wipe, wipeSl]
      have ef : ∀ xs : List AV, xs.filter (fun _ => true) = xs := fun xs => by simp
      rw [ef]
      obtain ⟨ys, hys⟩ : ∃ ys, ys = xs.map fun d => AV.tup [d, .tup [.str "bad"]] := ⟨_, rfl⟩
      rw [← hys]
      simp (implicitDefEqProofs := false) [-k_sSeq, fTup]
      have hsl : ∀ r : Nat, r ≤ 12 → slA (.tup ys) none (some r) = some (.tup (wAV (evL r))) := fun r hr => by
        rw [hys, ← hxs]
        exact ev_eq r hr
      refine wpC (w_weather D fun ws z D w1 w2 w3 => ?_)
      generalize S.set l z = S at D
      simp (implicitDefEqProofs := false) [-k_sSeq, oPart, asI]
      refine wpC (w_choiceU D (by omega) (by omega) fun r S r13 D => ?_)
      simp (implicitDefEqProofs := false) [-k_sSeq, asI, hsl r (by omega), itemsOf]
      obtain ⟨n1, hn1, n11, n18⟩ : ∃ n1 : Nat, (1 : Int) + n = n1 ∧ 1 ≤ n1 ∧ n1 ≤ 8 := ⟨n + 1, by omega, by omega, by omega⟩
      rw [hn1]
      refine wpO (lwJ ns (.im (.int i)) l n1 (.tup ys)) ⟨_, _, _, _, _, _, _, _, _, rfl, D⟩ (fun j2 d st hd hI => ?_) fun st hI => ?_
      · obtain ⟨a5, a6, a7, a8, a9, a10, a11, a12, S, rfl, D⟩ := hI
        have hw : okW d := by
          have hm := List.mem_of_getElem? hd
          simp only [List.mem_cons, List.mem_nil_iff, or_false] at hm
          rcases hm with rfl | rfl | rfl
          · exact ⟨ws, rfl, by omega, fun p hp => ⟨(w2 p hp).1, by have := (w2 p hp).2.1; omega, (w2 p hp).2.2⟩, w3⟩
          · exact ⟨evL r, rfl, evL_ok r⟩
          · exact ⟨[], rfl, by simp, by simp, by simp⟩
        obtain ⟨ws, rfl, q1, q2, q3⟩ := hw
        refine ⟨_, rfl, ?_⟩
        refine wpS ?_
        simp (implicitDefEqProofs := false) [-k_sSeq]
        refine wpC (w_wiped D n11 n18 q1 q2 q3 fun F ow S' hF D K => ?_)
        generalize S.length = f at hF
        generalize S' = S at hF D
        have hsteps := x_steps hF
        have hst := c_ok hF (m := ("steps" : Str)) (by decide +kernel)
        have hwl := x_worn hF (by rw [K.f, K.c]) (by rw [K.w, K.c]) (by rw [K.c]; omega)
        have hle := wornL_le K
        have hsh := sh_mnx hle
        have how := owed_eq K
        refine wpS ?_
        simp (implicitDefEqProofs := false) [-k_sSeq, gT, gCons', gNil', gN, itemsOf, wipeSl, Ss.wipe]
        refine wpB (wpL (fun d => !isN d) (fun d => d) (fun d hd => ⟨_, rfl, ?_⟩) (by rw [K.o]; omega) ?_)
        · cases hx : isN d <;> simp (implicitDefEqProofs := false) [-k_sSeq, oNis, hx, Ss.wipe, wipeSl]
        have hgo : (ow.filter fun d => !isN d).map (fun d => d) = (wornL F).map AV.int := by
          rw [how, List.map_id', List.filter_map, wornL, K.c, List.map_map]
          have e : ((fun d => !isN d) ∘ fun b => bif good F b then AV.int ((F.worn[b]?).getD 0) else .non) = good F := by
            funext b
            simp only [Function.comp]
            cases good F b <;> rfl
          rw [e]
          refine List.map_congr_left fun b hb => ?_
          have := (List.mem_filter.mp hb).2
          simp [this]
        rw [hgo]
        simp (implicitDefEqProofs := false) [-k_sSeq, hsteps, hst, isNo]
        have en := ne_nil false false (wornL F)
        have fm : ∀ w ws, wornL F = w :: ws → fMinL S [.lst false ((wornL F).map AV.int)] = some (.int (ws.foldl min w)) := fun w ws e => by rw [e]; exact f_min S false w ws
        have fx : ∀ w ws, wornL F = w :: ws → fMaxL S [.lst false ((wornL F).map AV.int)] = some (.int (ws.foldl max w)) := fun w ws e => by rw [e]; exact f_max S false w ws
        have hz : WpR ((sAsg 10 (eIf (tOf (e2 oNe (eVar 8) (eLst aNil))) (eTup (aCons (eBP fMinL (pCons (pVar 8) pNil)) (aCons (eBP fMaxL (pCons (pVar 8) pNil)) aNil))) (eC .non))) ⟨[.im (.scr (ns.map AV.int)), .im (.int i), .im (.loc l), .im (.int n1), .im (.tup ys), .im (.tup (wAV ws)), .im (.loc f), .im (.lst false ow), .im (.lst false ((wornL F).map AV.int)), .im (.int F.count), a10, a11, .no], S⟩)
            (fun f' s => f' = .nx ∧ s = ⟨[.im (.scr (ns.map AV.int)), .im (.int i), .im (.loc l), .im (.int n1), .im (.tup ys), .im (.tup (wAV ws)), .im (.loc f), .im (.lst false ow), .im (.lst false ((wornL F).map AV.int)), .im (.int F.count), .im (mnx (wornL F)), a11, .no], S⟩) noE := by
          generalize (wornL F).map AV.int = xs at en fm fx
          cases hw : wornL F with
          | nil =>
            rw [hw] at en
            simp (implicitDefEqProofs := false) [-k_sSeq, en, mnx]
          | cons w ws =>
            rw [hw] at en
            simp (implicitDefEqProofs := false) [-k_sSeq, en, mnx, fm w ws hw, fx w ws hw]
        refine wpS (wp_mono hz (fun f' s hq => ?_) fun _ _ h => h.elim)
        obtain ⟨rfl, rfl⟩ := hq
        have hsame : Sh 2 700 (.lst false [mnx (wornL F), mnx (wornL F)]) := (sh_lst (shs_cons hsh (shs_cons hsh shs_nil))).mono (by omega) (by omega)
        generalize mnx (wornL F) = mx at hwl hsame
        simp (implicitDefEqProofs := false) [-k_sSeq, hwl]
        refine wpC (w_same hsame (by omega) (by omega) ?_)
        simp (implicitDefEqProofs := false) [-k_sSeq, hst, hsteps, oNe, eqA]
        exact ⟨_, _, _, _, _, _, _, _, _, rfl, D⟩
      · obtain ⟨a5, a6, a7, a8, a9, a10, a11, a12, S, rfl, D⟩ := hI
        exact ⟨_, _, _, _, _, _, _, _, _, _, _, _, _, rfl⟩
    · obtain ⟨a1, a2, a3, a4, a5, a6, a7, a8, a9, a10, a11, a12, S, rfl⟩ := hI
      simp (implicitDefEqProofs := false) [-k_sSeq]
  obtain ⟨a, S, e, rfl⟩ := wp_ex main
  exact ⟨S, e⟩
end Fk
open PySem PySem.W PySem.Calls PyProof.Rows
set_option maxRecDepth 100000 in
set_option maxHeartbeats 8000000 in
theorem PySem.Challenge.cw_flashkeep_k29_wear_of_blocks_holds : PySem.Challenge.rw_flashkeep_k29_wear_of_blocks.Holds := by
  w_on; o_law
  refine HandSHeadRun.head_any (r := OpenLaw.row PySem.Challenge.rw_flashkeep_k29_wear_of_blocks) (q := view (OpenLaw.row PySem.Challenge.rw_flashkeep_k29_wear_of_blocks).prog [44]) (H := Fk.hk) (ob := Fk.ob) (M := 20000) (loose := Fk.loose) (d := HandSHeadRun.topDef (OpenLaw.row PySem.Challenge.rw_flashkeep_k29_wear_of_blocks).prog 44) (kwd := []) (Fk.obA_eq _ _ _)
    (by kernel_rfl) (fun s => by kernel_rfl) Fk.run (by kernel_rfl) (by kernel_rfl) (by kernel_rfl) (by rfl) (by first | assumption | decide +kernel) (by decide +kernel) ⟨rfl, rfl, rfl, rfl, rfl, by decide +kernel⟩ ?hw ?hc
  case hw => w_witness2
  case hc =>
    refine Fk.walk_endN (l := PySem.Challenge.rw_flashkeep_k29_wear_of_blocks) (n := 63) (k := 9) (x := "_law_script") rfl (by decide) (by kernel_rfl) ⟨rfl, by decide, by decide⟩ ?_
    intro w mg fa h Y G hmg0
    obtain ⟨K, KX, c⟩ := Y
    have hmg : mg ("law" : PySem.Str) = some (.ref fa) := by
      have e : (HandSHeadRun.topDef (OpenLaw.row PySem.Challenge.rw_flashkeep_k29_wear_of_blocks).prog 44).name = ("law" : PySem.Str) := by kernel_rfl
      rw [← e]
      exact hmg0
    obtain ⟨fd, hb, hF⟩ := Fk.facts (P := (PySem.Challenge.rw_flashkeep_k29_wear_of_blocks).prog) (w := w) KX G hmg c
    exact ⟨K, fd, _, KX, hb, fun H a ns hl hbits hS => Fk.law_sp (Fk.pure_law ns hl hbits) hS, hF⟩
