import PyProof.Rows.All
import Wide.All
import OpenK.AllK
import Wide.FinOn
import KE.KStateDown
import KE.GoesEnum
import Lean
import HandS.ForMost
import HandS.Exc
import HandS.TryOnly
import HandS.TryMany
import HandS.ExcOwn
import HandS.WordsExc
import HandS.Defaults
import HandS.IsInst
import HandS.Wide
import HandS.Style
import HandS.Zip
import HandS.TupAny
import HandS.Flow
import HandS.Deep
import HandS.More
import HandS.SetKeys
import HandS.CallSlots
import HandS.Head0
import HandS.Head1
import HandS.Head2
import HandS.HeadEnd
import HandS.HeadHook1
import HandS.HeadHook2
import HandS.HeadHook4
import HandS.EndBits
import HandS.Evl
import PyProof.ReprRoads
import PyProof.ReprLen
import HandS.Strs
import PyProof.Rows.IntBool
import PySem.Challenge.RW_flashkeep_k15_plans_looked_at
set_option Elab.async false
set_option linter.all false
set_option maxRecDepth 100000
set_option maxHeartbeats 4000000
namespace Fk
open PySem PySem.Spec PyProof.Rows L2

/-- a function of the text that stands behind its name: promise, binding, the values that fill up -/
structure Cal (P : Program) (w : World) (K : PySem.W.Frag) (mg : Str → Option Value) (base : Heap) (k : Nat) (x : Str) (ps : List Str) (dvs : List V) (sp : Sp) : Prop where
  ex : ∃ (f : Addr) (fd : FuncData) (ds : List Value), FnOk P w K mg base (L2.CX P w) k f fd ps sp ∧ mg x = some (.ref f) ∧ PySem.W.keepIn K (.ref f) = true ∧ Binds K fd ps ds ∧ Vals dvs ds

section
variable {X : Cx} {k j : Nat} {x : Str} {ps : List Str} {dvs : List V} {sp : Sp} {E : XK} {p pos : Pos} {e : Expr} {es : List Expr} {t u : TA}
theorem pe_cal (F : Cal X.prog X.w X.K X.mg X.base k x ps dvs sp) (hr : Room j X.A) (hk : k ≤ j) (hg : Gl X x) (hx : Passes (L2.CX X.prog X.w) X E) (ha : PA X (e :: es) t)
    (hdb : (x == ("__debug__" : Str)) = false := by decide) (he : starEach (e :: es) X.env = (false, eval e X.env) :: starEach es X.env := by rfl) (hpl : (backTo pos (starEach es X.env)).any (·.1) = false := by rfl) :
    PE X (.Call (.Name x p) (e :: es) [] pos) (tCall sp dvs E t) := by
  obtain ⟨f, fd, ds, G, gm, kp, b, v⟩ := F.ex
  exact pe_call G (hr.mono hk) hg gm kp b v hx ha hdb he hpl
theorem pe_cal0 (F : Cal X.prog X.w X.K X.mg X.base k x ps dvs sp) (hr : Room j X.A) (hk : k ≤ j) (hg : Gl X x) (hx : Passes (L2.CX X.prog X.w) X E)
    (hdb : (x == ("__debug__" : Str)) = false := by decide) : PE X (.Call (.Name x p) [] [] pos) (tCall sp dvs E tNil) := by
  obtain ⟨f, fd, ds, G, gm, kp, b, v⟩ := F.ex
  exact pe_call0 G (hr.mono hk) hg gm kp b v hx hdb
/-- either reading serves -/
theorem pe_or {ex : Expr} {a b : TE} (h1 : PE X ex a) (h2 : PE X ex b) : PE X ex (fun σ H Q => a σ H Q ∨ b σ H Q) :=
  ⟨fun pins s σ H Q I h => h.elim (fun q => h1.run pins s σ H Q I q) (fun q => h2.run pins s σ H Q I q)⟩
theorem pi_or {tg it : Expr} {a b : TI} (h1 : PI X tg it a) (h2 : PI X tg it b) : PI X tg it (fun σ H R => a σ H R ∨ b σ H R) :=
  ⟨fun pins s σ H R I h => h.elim (fun q => h1.run pins s σ H R I q) (fun q => h2.run pins s σ H R I q)⟩
end

/-! ### operators, whatever the operands are -/
def uAdd (K : PySem.W.Frag) : R2 := fun x y H Q => (∃ i j, x = .int i ∧ y = .int j ∧ Q (.int (i + j)) H) ∨
  ((∃ i j, x = .str i ∧ y = .str j ∧ i.length + j.length ≤ sizeLine ∧ Q (.str (i ++ j)) H) ∨ (rCat x y H Q ∨ rCatA K x y H Q))
def uSub : R2 := rI0 fun i j => .int (i - j)
def uMul (K : PySem.W.Frag) : R2 := fun x y H Q => (rI CMul fun i j => .int (i * j)) x y H Q ∨ (rRep x y H Q)
def uFdv : R2 := fun x y H Q => (rI CDiv fun i j => .int (i / j)) x y H Q ∨ (rI CDivW fun i j => .int (i / j)) x y H Q
def uMod : R2 := rI (fun _ j => 0 < j) fun i j => .int (i % j)
def uPow : R2 := rI CPow fun i j => .int (i ^ j.toNat)
def uShl : R2 := rI CPow fun i j => .int (i * 2 ^ j.toNat)
def uShr : R2 := rI (fun _ j => 0 ≤ j) fun i j => .int (i / 2 ^ j.toNat)
def uAnd : R2 := rI0 fun i j => .int (Builtin.bitAnd i j)
def uOr : R2 := rI0 fun i j => .int (Builtin.bitOr i j)
def uXor : R2 := rI0 fun i j => .int (Builtin.bitXor i j)
def uLt : R2 := rI0 fun i j => .bl (decide (i < j))
def uLe : R2 := rI0 fun i j => .bl (decide (i ≤ j))
def uGt : R2 := rI0 fun i j => .bl (decide (j < i))
def uGe : R2 := rI0 fun i j => .bl (decide (j ≤ i))
def uEq (K : PySem.W.Frag) : R2 := fun x y H Q => rEq x y H Q ∨ rEqD K x y H Q
def uNe (K : PySem.W.Frag) : R2 := fun x y H Q => rNe x y H Q ∨ rNeD K x y H Q
def uIsN : R2 := fun x y H Q => (y = .non ∧ Q (.bl (decide (x = .non))) H) ∨ (∃ a b, x = .bl a ∧ y = .bl b ∧ Q (.bl (decide (a = b))) H)
def uNotN : R2 := fun x y H Q => (y = .non ∧ Q (.bl (!decide (x = .non))) H) ∨ (∃ a b, x = .bl a ∧ y = .bl b ∧ Q (.bl (!decide (a = b))) H)
section
variable {X : Cx}
theorem o_add : OpR X (binaryOp .Add) (uAdd X.K) := op_add.or (op_add_str.or (op_cat.or op_catA))
theorem o_sub : OpR X (binaryOp .Sub) uSub := op_sub
theorem o_mul : OpR X (binaryOp .Mult) (uMul X.K) := op_mul.or op_rep
theorem o_fdv : OpR X (binaryOp .FloorDiv) uFdv := op_fdiv.or op_fdivW
theorem o_mod : OpR X (binaryOp .Mod) uMod := op_mod
theorem o_pow : OpR X (binaryOp .Pow) uPow := op_pow
theorem o_shl : OpR X (binaryOp .LShift) uShl := op_shl
theorem o_shr : OpR X (binaryOp .RShift) uShr := op_shr
theorem o_and : OpR X (binaryOp .BitAnd) uAnd := op_and
theorem o_or : OpR X (binaryOp .BitOr) uOr := op_or
theorem o_xor : OpR X (binaryOp .BitXor) uXor := op_xor
theorem o_lt : OpR X (compareOp .Lt) uLt := op_lt
theorem o_le : OpR X (compareOp .LtE) uLe := op_le
theorem o_gt : OpR X (compareOp .Gt) uGt := op_gt
theorem o_ge : OpR X (compareOp .GtE) uGe := op_ge
theorem o_eq (hu : X.A.units + 64 < cLine) : OpR X (compareOp .Eq) (uEq X.K) := op_eq.or (op_eqD hu)
theorem o_ne (hu : X.A.units + 64 < cLine) : OpR X (compareOp .NotEq) (uNe X.K) := op_ne.or (op_neD hu)
theorem o_is : OpR X (compareOp .Is) uIsN := op_isN.or op_isBl
theorem o_nis : OpR X (compareOp .IsNot) uNotN := op_notN.or op_notBl
end
/-! ### built-ins -/
def uInt : List V → Hp → VK → Prop := fun xs H Q => (∃ i, xs = [.int i] ∧ Q (.int i) H) ∨ ∃ k, xs = [.bl k] ∧ Q (.int (if k then 1 else 0)) H
def uMax2 : List V → Hp → VK → Prop := fun xs H Q => ∃ i j, xs = [.int i, .int j] ∧ Q (.int (if j > i then j else i)) H
def uMin2 : List V → Hp → VK → Prop := fun xs H Q => ∃ i j, xs = [.int i, .int j] ∧ Q (.int (if j < i then j else i)) H
def uIter (K : PySem.W.Frag) (t : TE) : TI := fun σ H R => iList K t σ H R ∨ iTup K t σ H R
/-! ### exceptions of the text's own classes -/
structure ExcF (K : PySem.W.Frag) (mg : Str → Option Value) (x : Str) : Prop where
  gl : mg x = some (.ref (He.ga K x))
  ex : PySem.W.excIn K (He.ga K x) He.veBase "ValueError.__new__" = true
  kp : PySem.W.keepIn K (.ref (He.ga K x)) = true
  sub : PySem.W.subIn K (.ref (He.ga K x)) (.type "BaseException") = some true
  ty : PySem.W.typeIn K (.ref (He.ga K x)) = some (.type "type")
def tRz (E : XK) (C : Addr) : TS := fun _ _ H => E (.ref C) none H
section
variable {X : Cx}
theorem ps_rz {E : XK} {x m : Str} {j : Nat} {p p2 pos pos' : Pos} (T : ExcF X.K X.mg x) (hc : X.calm = true) (tk : Takes X (fun cls d _ H => E cls d H)) (hg : Gl X x) (hdb : (x == ("__debug__" : Str)) = false := by decide) :
    PS X (.Raise (some (.Call (.Name x p) [.Constant (.str m) j p2] [] pos)) none pos') (tRz E (He.ga X.K x)) :=
  ps_raise hc tk (pmk_own PySem.F.excBase_ValueError T.ex T.gl T.kp (raises_own T.sub T.ty) hg hdb)
end
section
variable {P : Program} {w : World} {K : PySem.W.Frag} {mg : Str → Option Value} {base : Heap} {N : List Str} {qual : Str} {scope : Scope} {f : Addr} {cd : Value} {A : Around} {outer : List Env} {s : Shared} {H : Hp} {E : XK}
abbrev cxD (P : Program) (w : World) (K : PySem.W.Frag) (mg : Str → Option Value) (base : Heap) (N : List Str) (qual : Str) (scope : Scope) (f : Addr) (cd : Value) (A : Around) (outer : List Env) (s : Shared) (H : Hp) (E : XK) : Cx :=
  cxOf (L2.CX P w) P w K mg base N qual scope f cd A outer s H E
theorem takes_def : Takes (cxD P w K mg base N qual scope f cd A outer s H E) (fun cls d _ H => E cls d H) := takes_of rfl rfl rfl rfl
theorem own_def : PassesOwn (model P w) (cxD P w K mg base N qual scope f cd A outer s H E).A (cxD P w K mg base N qual scope f cd A outer s H E).env (cxD P w K mg base N qual scope f cd A outer s H E).xe := passes_of rfl
end
theorem pass_def {X : Cx} {E : XK} (tk : Takes X (fun cls d _ H => E cls d H)) : Passes (L2.CX X.prog X.w) X E := passes_call tk (fun _ _ _ _ h => h)

/-! ### the end -/
/-- a law's end over a head by facts, the bits of the script's numbers told -/
theorem walk_end {l : PySem.W.OpenLaw} {n k : Nat} {q : Program} {loose : List Str} {XP : (Str → Option Value) → Heap → Prop} {YP : World → Heap → Prop} {d : DefRec} {x : Str}
    (hn : l.most = some n) (hn2 : n ≤ sizeLine) (hdf : d.params.defaults = []) (hr : Room k callerA)
    (Fx : ∀ (w : World) (mg : Str → Option Value) (fa : Addr) (h : Heap), YP w h → h.Ns mainGlobals mg → mg d.name = some (.ref fa) →
      ∃ (K : PySem.W.Frag) (fd : FuncData) (sp : Sp), K.In h ∧ (∀ (s : Shared) (u : Value), BindsTo s fd ⟨[u], []⟩ [(x, u)]) ∧
        (∀ (H : Hp) (a : Addr) (ns : List Int), ns.length ≤ n → (∀ z ∈ ns, Builtin.Int.intBits z ≤ 1048576) → SqL K H a (ns.map V.int) → sp [.ref a] H (fun v _ => v = .bl true) fun _ _ _ => False) ∧
        ∀ base : Heap, K.In base → base.Ns mainGlobals mg → FnOk l.prog w K mg base (L2.CX l.prog w) k fa fd [x] sp) :
    PySem.W.WalkO q loose XP YP l.row.toRowW d [] (fun f vs => PySem.call f vs) := by
  refine Att.attach_callB hn hdf ?_
  intro w s0 s1 mg mb fa o pm cd doc a vs ns G Y ho hd hcd hmg hobj hints hlen hbits hg
  obtain ⟨K, fd, sp, KX, hb, hsp, hF⟩ := Fx w mg fa _ Y G.T.g hmg
  refine law_call KX G.T.g G.T.b G.T.builtins G.T.nolimit hg hobj hints (Nat.le_trans hlen hn2) hr hF hb (fun H hO hS => hsp H a ns hlen hbits hS) (fun H e s' hc => ?_)
  obtain ⟨_, _, _, _, _, _, _, _, _, _, _, _, z⟩ := hc
  exact z
end Fk
/-! enumerate of a tuple, as a walked thing -/
namespace Fk
open PySem PySem.Spec PyProof.Rows L2
set_option maxHeartbeats 4000000 in
theorem meets_enumB {v : Value} {o : Obj} {Hx : Heap → Prop} (B : Begins v o Hx) :
    Meets (Builtin.«enumerate.__new__» ⟨[.type "enumerate", v], []⟩) (fun _ R s => Hx s.heap ∧
      R (.ok (.ret (.ref (s.heap.push o).objs.size)))
        { s with heap := (s.heap.push o).push { cls := .type "enumerate", data := .fields #[.none, .bool false, .ref s.heap.objs.size, rawInt 0, .none, .none] } }) := by
  refine .of_wp fun prog w A R s h => ?_
  obtain ⟨hp, g, d, tk, os⟩ := s
  obtain ⟨h1, h⟩ := h
  have hsub := sub_enumerate
  have q1 : ∀ {A' : Around} {E : Value → Shared → Prop} {Q : Value → Shared → Prop}, Q (.ref hp.objs.size) ⟨hp.push o, g, d, tk, os⟩ →
      wpAny (model prog w) A' (pyIter v) Q E ⟨hp, g, d, tk, os⟩ := fun z => B.iter prog w _ _ ⟨hp, g, d, tk, os⟩ _ h1 z
  wp_walk using q1
  refine wpAny_stack_any fun st => wpAny_pure ?_
  split
  · rename_i c _ _ _ _ _
    cases (c == Value.type "enumerate") <;> (wp_walk using q1; exact ⟨_, rfl, h⟩)
  · wp_walk using q1
    exact ⟨_, rfl, h⟩
theorem call_enumB {prog : Program} {w : World} {A : Around} {E : Value → Shared → Prop} {s : Shared} {v : Value} {o : Obj} {Hx : Heap → Prop} {Q : Value → Shared → Prop} (B : Begins v o Hx) (h1 : Hx s.heap)
    (h : ∀ h', IsEnum h' (s.heap.objs.size + 1) s.heap.objs.size 0 .none → h'.get? s.heap.objs.size = some o →
      (∀ b ob, s.heap.get? b = some ob → h'.get? b = some ob) → Q (.ref (s.heap.objs.size + 1)) { s with heap := h' }) :
    wpAny (model prog w) A (call (.type "enumerate") [v]) Q E s := by
  refine callType_new F.called_enumerate (by decide) (F.typeCall_enumerate_1 _) (F.newCall_enumerate_1 _) (fun obj => F.args_object_init_2 obj _) F.entry_enumerate_new (meets_enumB B) ⟨h1, ?_⟩
  have hz : (s.heap.push o).objs.size = s.heap.objs.size + 1 := Heap.size_push ..
  show _ ∧ _
  rw [hz]
  have he : IsEnum ((s.heap.push o).push { cls := .type "enumerate", data := .fields #[.none, .bool false, .ref s.heap.objs.size, rawInt 0, .none, .none] }) (s.heap.objs.size + 1) s.heap.objs.size 0 .none := by
    have e2 := Heap.get?_push_size (s.heap.push o) (o := { cls := .type "enumerate", data := .fields #[.none, .bool false, .ref s.heap.objs.size, rawInt 0, .none, .none] }) rfl
    rw [hz] at e2
    exact e2
  exact ⟨⟨_, he, rfl⟩, h _ he (Heap.get?_push_of_some _ (Heap.get?_push_size _ B.free)) fun b ob x => Heap.get?_push_of_some _ (Heap.get?_push_of_some _ x)⟩
/-- the tuple at a, each item in a new pair with its number -/
def IteT (K : PySem.W.Frag) (a : Addr) : It where
  go := fun i H => ∃ (xs : List V) (x : V), SqT K H a xs ∧ xs[i]? = some x
  yld := fun i H v H' => ∃ T x, v = .ref T ∧ H T = none ∧ H' = upd H T (.tup [.int (i : Nat), x]) ∧ ∀ xs, SqT K H a xs → xs[i]? = some x
  stop := fun i H => ∃ xs : List V, SqT K H a xs ∧ xs.length ≤ i
theorem turn_enumT {P : Program} {w : World} {K : PySem.W.Frag} {elts : List Expr} {kk : Nat} {tpos : Pos} (a e it : Addr) (hae : a ≠ e) (hai : a ≠ it) :
    Turn P w K (.Tuple elts kk tpos) (IteT K a) [e, it] e (fun i h => (∃ old, IsEnum h e it ((i : Nat) : Int) old) ∧ h.IsTupleIter it a i ∧ e ≠ it) where
  mem := by simp
  obj := fun i h st b hb => by
    obtain ⟨⟨old, he⟩, ⟨o, ho, hc, hd⟩, _⟩ := st
    rcases (by simpa using hb : b = e ∨ b = it) with rfl | rfl
    · exact ⟨_, he, fun v q => nomatch q⟩
    · exact ⟨o, ho, fun v q => by rw [hd] at q; cases q⟩
  keep := fun i h h' st k => by
    obtain ⟨⟨old, he⟩, hi, hne⟩ := st
    exact ⟨⟨old, k e (by simp) _ he⟩, hi.at fun o q => k it (by simp) o q, hne⟩
  item := by
    intro X hP hw hK hc i pins s σ H E I hf st hg
    subst hP hw hK
    obtain ⟨⟨old, he⟩, hit, hne⟩ := st
    obtain ⟨xs, x, hq, hx⟩ := hg
    obtain ⟨its, rv, p, hz⟩ := I.tuple hq
    obtain ⟨u, hu, ru⟩ := rv.get hx
    have hel : e < s.heap.objs.size := Heap.lt_size he
    have hil : it < s.heap.objs.size := by
      obtain ⟨_, q, _⟩ := hit
      exact Heap.lt_size q
    have hlt : i < its.toArray.size := by
      have := (List.getElem?_eq_some_iff.mp hu).1
      simpa using this
    have D : Draws X.prog X.w X.A.in1 it [it, a] its.toArray.size (fun i v => its.toArray[i]? = some v) (fun i h => h.IsTupleIter it a i ∧ h.IsTuple a its.toArray) :=
      Draws.tuple (A := X.A.in1) (show X.A.in1.handled = none from I.ok.hd hc) it a hai its.toArray
    have hef : e ∉ [it, a] := fun q => by
      rcases (by simpa using q : e = it ∨ e = a) with z | z
      · exact hne z
      · exact hae z.symm
    refine wpAny_pyNext_enum_itemD (i := i) D he ⟨hit, p⟩ hlt hne hef fun y h' tk hy ho hst hT hsz hk => ?_
    have ey : y = u := by
      have hu' : its.toArray[i]? = some u := by simpa using hu
      have hy' : its.toArray[i]? = some y := hy
      rw [hu'] at hy'
      exact (Option.some.inj hy').symm
    subst ey
    refine ⟨_, rfl, wpAny_letOwnedTupleGo_enum (s := { s with heap := h', toks := tk + 1 }) ho fun h'' he' sb => ?_⟩
    have hT2 : h''.get? s.heap.objs.size = some { cls := .type "tuple", data := .seq #[.int i tk, y] } := (sb.2 _ (Nat.ne_of_gt hel)).trans hT
    have new : ObjOk X.prog X.w (upd H s.heap.objs.size (.tup [.int (i : Nat), x])) h'' s.heap.objs.size (.tup [.int (i : Nat), x]) :=
      ⟨by show 2 ≤ sizeLine; decide, [.int i tk, y], .cons ⟨_, rfl⟩ (.cons ru .nil), ⟨_, hT2, rfl, _, rfl⟩⟩
    have I1 : Inv X pins σ (upd H s.heap.objs.size (.tup [.int (i : Nat), x])) { s with heap := h'', toks := tk + 1 } := by
      refine I.turnedNew (ch := [e, it]) (fun b ob hb q => ?_) hf (Nat.le_refl _) new
      have h1 : b ≠ e := fun z => hb (by simp [z])
      have h2 : b ≠ it := fun z => hb (by simp [z])
      exact (sb.2 b h1).trans (hk b ob h1 h2 q)
    refine ⟨.ref s.heap.objs.size, _, I1, rfl, ⟨_, x, rfl, I.hok.fresh (Nat.le_refl _), rfl, fun ys hy => by rw [I.tuple_inj hy hq]; exact hx⟩,
      ⟨⟨y, ?_⟩, hst.1.at fun o q => (sb.2 it (Ne.symm hne)).trans q, hne⟩, fun b hb => ?_⟩
    · have e1 : ((i + 1 : Nat) : Int) = (i : Int) + 1 := by omega
      rw [e1]
      exact he'
    · have hb' : b < s.heap.objs.size := by
        rcases (by simpa using hb : b = e ∨ b = it) with rfl | rfl
        · exact hel
        · exact hil
      rw [upd_ne (Nat.ne_of_lt hb')]
      exact (hf b hb).1
  done := by
    intro X hP hw hK hc i pins s σ H E I hf st hg
    subst hP hw hK
    obtain ⟨⟨old, he⟩, hit, hne⟩ := st
    obtain ⟨xs, hq, hx⟩ := hg
    obtain ⟨its, rv, p, hz⟩ := I.tuple hq
    obtain ⟨f0, f1, f2, f3, f4, f5⟩ := hf it (by simp)
    have hl := rv.length
    have D0 := Draws.tuple (prog := X.prog) (w := X.w) (A := X.A.in1) (show X.A.in1.handled = none from I.ok.hd hc) it a hai its.toArray
    have D : Draws X.prog X.w X.A.in1 it [it, a] 0 (fun _ _ => False) (fun _ h => h.IsTupleIter it a i ∧ h.IsTuple a its.toArray) :=
      { live := fun _ h st => D0.live i h st
        frame := fun _ h h' st hk => D0.frame i h h' st hk
        item := fun j s2 Q E2 hj st hQ => absurd hj (Nat.not_lt_zero _)
        done := fun s2 Q E2 st hE => wpAny_nextOf_tuple_end (show X.A.in1.handled = none from I.ok.hd hc) st.1 st.2 (by simp; omega) hE }
    exact wpAny_pyNext_enum_endD D he ⟨hit, p⟩ fun h' eb => ⟨rfl, I.turned (t' := s.toks) (fun b o hb q => eb b o hb q) f0 f1 f3 f4 f5⟩
  self := fun A i s Q E st h => by
    obtain ⟨⟨_, he⟩, _⟩ := st
    exact wpAny_pyIter_enum he h
/-- enumerate of a list or of a tuple -/
def iEnumA (K : PySem.W.Frag) (ta : TA) : TI := fun σ H R => iEnum K ta σ H R ∨ ta σ H fun vs H1 => ∃ a xs, vs = [.ref a] ∧ SqT K H1 a xs ∧ R (IteT K a) H1
theorem pi_enumT {X : Cx} {e : Expr} {ta : TA} {p pos tpos : Pos} {elts : List Expr} {kk : Nat} (hg : Gl X "enumerate") (hm : X.mg "enumerate" = none) (ha : PA X [e] ta)
    (hs : starEach [e] X.env = [(false, eval e X.env)] := by rfl) :
    PI X (.Tuple elts kk tpos) (.Call (.Name "enumerate" p) [e] [] pos) (fun σ H R => ta σ H fun vs H1 => ∃ a xs, vs = [.ref a] ∧ SqT X.K H1 a xs ∧ R (IteT X.K a) H1) := by
  refine ⟨fun pins s σ H R I h => ?_⟩
  refine Call_ (ld_blt I hg hm boot_enumerate (PyProof.Rows.callWith_type1 (thn (ha.run pos pins s σ H _ I h) fun us s1 hh => ?_) hs rfl))
  obtain ⟨vs, H1, I1, r1, a, xs, ex, hq, q⟩ := hh
  subst ex
  cases r1 with
  | cons r rr =>
    cases rr
    cases r
    obtain ⟨its, rv, p', hz⟩ := I1.tuple hq
    refine call_enumB (begins_tuple a its.toArray) p' fun h' he hit hk => wpAny_pyIter_enum he ?_
    have I2 : Inv X pins σ H1 { s1 with heap := h' } := I1.kept (t' := s1.toks) hk
    have al : a < s1.heap.objs.size := by
      obtain ⟨o, z, _⟩ := p'
      exact Heap.lt_size z
    refine ⟨s1.heap.objs.size + 1, [s1.heap.objs.size + 1, s1.heap.objs.size], _, _, H1, rfl, I2,
      turn_enumT a (s1.heap.objs.size + 1) s1.heap.objs.size (Nat.ne_of_lt (Nat.lt_succ_of_lt al)) (Nat.ne_of_lt al), ⟨⟨.none, he⟩, ⟨_, hit, rfl, rfl⟩, Nat.succ_ne_self _⟩, fun b hb => ?_, q⟩
    have hle : s1.heap.objs.size ≤ b := by
      rcases (by simpa using hb : b = s1.heap.objs.size + 1 ∨ b = s1.heap.objs.size) with z | z
      · rw [z]; exact Nat.le_succ _
      · rw [z]; exact Nat.le_refl _
    exact I1.fpOk hle (I1.hok.fresh hle)
theorem pi_enumA {X : Cx} {e : Expr} {ta : TA} {p pos tpos : Pos} {elts : List Expr} {kk : Nat} (hg : Gl X "enumerate") (hm : X.mg "enumerate" = none) (ha : PA X [e] ta)
    (hs : starEach [e] X.env = [(false, eval e X.env)] := by rfl) : PI X (.Tuple elts kk tpos) (.Call (.Name "enumerate" p) [e] [] pos) (iEnumA X.K ta) :=
  pi_or (pi_enum hg hm ha hs) (pi_enumT hg hm ha hs)
end Fk
/-! ## readings, run step by step -/
namespace Fk
open PySem PySem.Spec PyProof.Rows L2
/-- the i-th slot holds v -/
inductive GS : L2.St → Nat → V → Prop
  | z {v : V} {l : L2.St} : GS (some v :: l) 0 v
  | s {x : Option V} {v : V} {l : L2.St} {i : Nat} : GS l i v → GS (x :: l) (i + 1) v
theorem GS.get : ∀ {σ : L2.St} {i : Nat} {v : V}, GS σ i v → σ[i]? = some (some v)
  | _, _, _, .z => rfl
  | _, _, _, .s h => by simpa using h.get
/-- the i-th slot set -/
inductive NS : L2.St → Nat → V → L2.St → Prop
  | z {x : Option V} {v : V} {l : L2.St} : NS (x :: l) 0 v (some v :: l)
  | s {x : Option V} {v : V} {l l' : L2.St} {i : Nat} : NS l i v l' → NS (x :: l) (i + 1) v (x :: l')
theorem NS.eq : ∀ {σ σ' : L2.St} {i : Nat} {v : V}, NS σ i v σ' → σ.set i (some v) = σ'
  | _, _, _, _, .z => rfl
  | _, _, _, _, .s h => congrArg _ h.eq
section
variable {K : PySem.W.Frag} {D : Ends} {σ σ' σ'' : L2.St} {H H1 H2 : Hp} {Q : VK} {QB : Bool → Hp → Prop} {QA : List V → Hp → Prop} {E : XK} {i j k : Nat} {v u x : V} {vs : List V}
  {t tu tw : TS} {te ta tb tc : TE} {tt ttu : TT} {tA : TA} {g : TG} {r : R2} {a p : Addr} {xs ys : List V}
theorem r_seq (h : t { D with nx := tu D } σ H) : tSeq t tu D σ H := h
theorem r_next (h : D.nx σ H) : tNext D σ H := h
theorem r_brk (h : D.bk σ H) : tBreak D σ H := h
theorem r_cont (h : D.ct σ H) : tCont D σ H := h
theorem r_nx {f : L2.St → Hp → Prop} {rt : VK} {b c : L2.St → Hp → Prop} (h : f σ H) : Ends.nx ⟨f, rt, b, c⟩ σ H := h
theorem r_rt {f : L2.St → Hp → Prop} {rt : VK} {b c : L2.St → Hp → Prop} (h : rt v H) : Ends.rt ⟨f, rt, b, c⟩ v H := h
theorem r_bk {f : L2.St → Hp → Prop} {rt : VK} {b c : L2.St → Hp → Prop} (h : b σ H) : Ends.bk ⟨f, rt, b, c⟩ σ H := h
theorem r_ct {f : L2.St → Hp → Prop} {rt : VK} {b c : L2.St → Hp → Prop} (h : c σ H) : Ends.ct ⟨f, rt, b, c⟩ σ H := h
theorem r_asg (h : te σ H fun x H1 => g x σ H1 D.nx) : tAsg te g D σ H := h
theorem r_drop (h : te σ H fun _ H1 => D.nx σ H1) : tDrop te D σ H := h
theorem r_ret (h : te σ H D.rt) : tRet te D σ H := h
theorem r_retN (h : D.rt .non H) : tRetN D σ H := h
theorem r_gn {QG : L2.St → Hp → Prop} (n : NS σ i v σ') (h : QG σ' H) : gName i v σ H QG := by
  show QG (σ.set i (some v)) H
  rw [n.eq]
  exact h
theorem r_par (n1 : NS σ i v σ') (n2 : NS σ' j u σ'') (h : D.nx σ'' H) : ∃ v' w', [v, u] = [v', w'] ∧ D.nx ((σ.set i (some v')).set j (some w')) H := by
  refine ⟨v, u, rfl, ?_⟩
  rw [n1.eq, n2.eq]
  exact h
theorem r_parS (h : tA σ H fun vs H1 => ∃ v w, vs = [v, w] ∧ D.nx ((σ.set i (some v)).set j (some w)) H1) : tPar i j tA D σ H := h
theorem r_par3S {l : Nat} (h : tA σ H fun vs H1 => ∃ v w z, vs = [v, w, z] ∧ D.nx (((σ.set i (some v)).set j (some w)).set l (some z)) H1) : tPar3 i j l tA D σ H := h
theorem r_par3 {l : Nat} {y : V} {σ3 : L2.St} (n1 : NS σ i v σ') (n2 : NS σ' j u σ'') (n3 : NS σ'' l y σ3) (h : D.nx σ3 H) : ∃ v' w' z', [v, u, y] = [v', w', z'] ∧ D.nx (((σ.set i (some v')).set j (some w')).set l (some z')) H := by
  refine ⟨v, u, y, rfl, ?_⟩
  rw [n1.eq, n2.eq, n3.eq]
  exact h
theorem r_var (n : GS σ i v) (h : Q v H) : tVar i σ H Q := ⟨v, n.get, h⟩
theorem r_c (h : Q v H) : tC v σ H Q := h
theorem r_op (h : ta σ H fun x H1 => tb σ H1 fun y H2 => r x y H2 Q) : tOp r ta tb σ H Q := h
theorem r_nil (h : QA [] H) : tNil σ H QA := h
theorem r_cons (h : te σ H fun x H1 => tA σ H1 fun xs H2 => QA (x :: xs) H2) : tCons te tA σ H QA := h
theorem r_cb {rr : List V → Hp → VK → Prop} (h : tA σ H fun vs H1 => rr vs H1 Q) : tCB rr tA σ H Q := h
theorem r_call {sp : Sp} (h : tA σ H fun vs H1 => sp vs H1 Q E) : tCall sp [] E tA σ H Q := by
  have e : (fun vs H1 => sp (vs ++ []) H1 Q E) = fun vs H1 => sp vs H1 Q E := by
    funext vs H1
    rw [List.append_nil]
  show tA σ H fun vs H1 => sp (vs ++ []) H1 Q E
  rw [e]
  exact h
theorem r_callD {sp : Sp} {dvs : List V} (h : tA σ H fun vs H1 => sp (vs ++ dvs) H1 Q E) : tCall sp dvs E tA σ H Q := h
theorem r_tup (h : tA σ H fun xs H1 => xs.length ≤ sizeLine ∧ ∀ p, H1 p = none → Q (.ref p) (upd H1 p (.tup xs))) : tTup tA σ H Q := h
theorem r_lst (h : tA σ H fun xs H1 => xs.length ≤ sizeLine ∧ ∀ p, H1 p = none → Q (.ref p) (upd H1 p (.lst xs))) : tLst tA σ H Q := h
theorem r_new {P : Addr → Prop} (hz : xs.length ≤ 100000) (h : ∀ p, H p = none → P p) : xs.length ≤ sizeLine ∧ ∀ p, H p = none → P p := ⟨Nat.le_trans hz (by decide), h⟩
theorem r_if (h : tt σ H fun b H1 => if b = true then tu D σ H1 else tw D σ H1) : tIfS tt tu tw D σ H := h
theorem r_ife (h : tt σ H fun c H1 => if c = true then ta σ H1 Q else tb σ H1 Q) : tIf tt ta tb σ H Q := h
theorem r_test (h : te σ H fun x H' => ∃ k, x = .bl k ∧ QB k H') : tTest te σ H QB := h
theorem r_tB (h : te σ H fun x H1 => ∃ c, x = .bl c ∧ QB c H1) : tB te σ H QB := h
theorem r_bl {b : Bool} {P : Bool → Prop} (h : P b) : ∃ k, V.bl b = .bl k ∧ P k := ⟨b, rfl, h⟩
theorem r_not (h : tt σ H fun c H1 => QB (!c) H1) : tNot tt σ H QB := h
theorem r_and (h : tt σ H fun c H1 => if c = true then ttu σ H1 QB else QB false H1) : tAnd tt ttu σ H QB := h
theorem r_or (h : tt σ H fun c H1 => if c = true then QB true H1 else ttu σ H1 QB) : tOr tt ttu σ H QB := h
theorem r_andV (h : ta σ H fun x H1 => ∃ c, x = .bl c ∧ if c = true then tb σ H1 Q else Q (.bl false) H1) : tAndV ta tb σ H Q := h
theorem r_orV (h : ta σ H fun x H1 => ∃ c, x = .bl c ∧ if c = true then Q (.bl true) H1 else tb σ H1 Q) : tOrV ta tb σ H Q := h
theorem r_notV (h : ta σ H fun x H1 => ∃ c, x = .bl c ∧ Q (.bl (!c)) H1) : tNotV ta σ H Q := h
theorem r_chain {r' : R2} (h : ta σ H fun x H1 => tb σ H1 fun y H2 => r x y H2 fun z H3 => ∃ k, z = .bl k ∧ (if k = true then tc σ H3 fun w' H4 => r' y w' H4 Q else Q (.bl false) H3)) : tChain r r' ta tb tc σ H Q := h
theorem r_aug {ti : TIp} (n : GS σ i v) (h : te σ H fun y H1 => ti v y H1 fun z H2 => D.nx (σ.set i (some z)) H2) : tAug i te ti D σ H := ⟨v, n.get, h⟩
theorem r_ipI {f : Int → Int → Int} {m n : Int} {P : V → Hp → Prop} (h : P (.int (f m n)) H) : ipI f (.int m) (.int n) H P := ⟨m, n, rfl, rfl, h⟩
theorem r_set {P : L2.St → Prop} (n : NS σ i v σ') (h : P σ') : P (σ.set i (some v)) := by rw [n.eq]; exact h
theorem r_setNx (n : NS σ i v σ') (h : D.nx σ' H) : D.nx (σ.set i (some v)) H := by rw [n.eq]; exact h
theorem r_ite {b : Bool} {A B : Prop} (h1 : b = true → A) (h2 : b = false → B) : if b = true then A else B := by
  cases b with
  | true => rw [if_pos rfl]; exact h1 rfl
  | false => rw [if_neg Bool.false_ne_true]; exact h2 rfl
theorem r_iteD {P : Prop} [Decidable P] {A B : Prop} (h1 : P → A) (h2 : ¬ P → B) : if decide P = true then A else B := r_ite (fun h => h1 (of_decide_eq_true h)) fun h => h2 (of_decide_eq_false h)
theorem r_iteN {P : Prop} [Decidable P] {A B : Prop} (h1 : ¬ P → A) (h2 : P → B) : if (!decide P) = true then A else B := r_ite (fun h => h1 (by simpa using h)) fun h => h2 (by simpa using h)
theorem r_iteNB {b : Bool} {A B : Prop} (h1 : b = false → A) (h2 : b = true → B) : if (!b) = true then A else B := by
  cases b
  · exact r_ite (fun _ => h1 rfl) fun h => nomatch h
  · exact r_ite (fun h => nomatch h) fun _ => h2 rfl
theorem r_T {A B : Prop} (h : A) : if true = true then A else B := by rw [if_pos rfl]; exact h
theorem r_F {A B : Prop} (h : B) : if false = true then A else B := by rw [if_neg Bool.false_ne_true]; exact h
/-! operators -/
variable {m n : Int}
theorem r_add (h : Q (.int (m + n)) H) : uAdd K (.int m) (.int n) H Q := .inl ⟨m, n, rfl, rfl, h⟩
theorem r_sub (h : Q (.int (m - n)) H) : uSub (.int m) (.int n) H Q := ⟨m, n, rfl, rfl, h⟩
theorem r_mul (c : CMul m n) (h : Q (.int (m * n)) H) : uMul K (.int m) (.int n) H Q := .inl ⟨m, n, rfl, rfl, c, h⟩
theorem r_fdv (c : 0 < n ∧ n < 1073741824) (h : Q (.int (m / n)) H) : uFdv (.int m) (.int n) H Q := .inl ⟨m, n, rfl, rfl, c, h⟩
theorem r_fdvW (c : CDivW m n) (h : Q (.int (m / n)) H) : uFdv (.int m) (.int n) H Q := .inr ⟨m, n, rfl, rfl, c, h⟩
theorem r_mod (c : 0 < n) (h : Q (.int (m % n)) H) : uMod (.int m) (.int n) H Q := ⟨m, n, rfl, rfl, c, h⟩
theorem r_pow (c : CPow m n) (h : Q (.int (m ^ n.toNat)) H) : uPow (.int m) (.int n) H Q := ⟨m, n, rfl, rfl, c, h⟩
theorem r_shl (c : CPow m n) (h : Q (.int (m * 2 ^ n.toNat)) H) : uShl (.int m) (.int n) H Q := ⟨m, n, rfl, rfl, c, h⟩
theorem r_shr (c : 0 ≤ n) (h : Q (.int (m / 2 ^ n.toNat)) H) : uShr (.int m) (.int n) H Q := ⟨m, n, rfl, rfl, c, h⟩
theorem r_band (h : Q (.int (Builtin.bitAnd m n)) H) : uAnd (.int m) (.int n) H Q := ⟨m, n, rfl, rfl, h⟩
theorem r_bxor (h : Q (.int (Builtin.bitXor m n)) H) : uXor (.int m) (.int n) H Q := ⟨m, n, rfl, rfl, h⟩
theorem r_lt (h : Q (.bl (decide (m < n))) H) : uLt (.int m) (.int n) H Q := ⟨m, n, rfl, rfl, h⟩
theorem r_le (h : Q (.bl (decide (m ≤ n))) H) : uLe (.int m) (.int n) H Q := ⟨m, n, rfl, rfl, h⟩
theorem r_gt (h : Q (.bl (decide (n < m))) H) : uGt (.int m) (.int n) H Q := ⟨m, n, rfl, rfl, h⟩
theorem r_ge (h : Q (.bl (decide (n ≤ m))) H) : uGe (.int m) (.int n) H Q := ⟨m, n, rfl, rfl, h⟩
theorem r_eqI (h : Q (.bl (decide (m = n))) H) : uEq K (.int m) (.int n) H Q := by
  refine .inl ⟨rfl, ?_⟩
  have e : decide ((V.int m) = V.int n) = decide (m = n) := by
    by_cases q : m = n
    · subst q; simp
    · rw [decide_eq_false q, decide_eq_false (fun z => q (V.int.inj z))]
  show Q (.bl (decide ((V.int m) = V.int n))) H
  rw [e]
  exact h
theorem r_neI (h : Q (.bl (!decide (m = n))) H) : uNe K (.int m) (.int n) H Q := by
  refine .inl ⟨rfl, ?_⟩
  have e : decide ((V.int m) = V.int n) = decide (m = n) := by
    by_cases q : m = n
    · subst q; simp
    · rw [decide_eq_false q, decide_eq_false (fun z => q (V.int.inj z))]
  show Q (.bl (!decide ((V.int m) = V.int n))) H
  rw [e]
  exact h
theorem r_eqD {d e : PyData} (hd : Dp K H v d) (he : Dp K H u e) (sd : SeqAt.shaped d = true) (se : SeqAt.shaped e = true) (h : Q (.bl (PyData.eqv d e)) H) : uEq K v u H Q := .inr ⟨d, e, hd, he, sd, se, h⟩
theorem r_neD {d e : PyData} (hd : Dp K H v d) (he : Dp K H u e) (sd : SeqAt.shaped d = true) (se : SeqAt.shaped e = true) (h : Q (.bl (!PyData.eqv d e)) H) : uNe K v u H Q := .inr ⟨d, e, hd, he, sd, se, h⟩
theorem r_int (h : Q (.int m) H) : uInt [.int m] H Q := .inl ⟨m, rfl, h⟩
theorem r_intB {b : Bool} (h : Q (.int (if b then 1 else 0)) H) : uInt [.bl b] H Q := .inr ⟨b, rfl, h⟩
theorem r_max2 (h : Q (.int (if n > m then n else m)) H) : uMax2 [.int m, .int n] H Q := ⟨m, n, rfl, h⟩
theorem r_min2 (h : Q (.int (if n < m then n else m)) H) : uMin2 [.int m, .int n] H Q := ⟨m, n, rfl, h⟩
theorem r_lenL (hs : SqL K H a xs) (h : Q (.int xs.length) H) : rLen K [.ref a] H Q := ⟨_, _, rfl, .inl ⟨_, hs, rfl⟩, h⟩
theorem r_lenT (hs : SqT K H a xs) (h : Q (.int xs.length) H) : rLen K [.ref a] H Q := ⟨_, _, rfl, .inr ⟨_, hs, rfl⟩, h⟩
theorem r_ixL (hs : SqL K H a xs) (hi : atI xs m = some v) (h : Q v H) : rIx K (.ref a) (.int m) H Q := .inl ⟨a, xs, m, v, rfl, rfl, hs, hi, h⟩
theorem r_ixT (hs : SqT K H a xs) (hi : atI xs m = some v) (h : Q v H) : rIx K (.ref a) (.int m) H Q := .inr (.inl ⟨a, xs, m, v, rfl, rfl, hs, hi, h⟩)
theorem r_gSub {ts : TSet} {QG : L2.St → Hp → Prop} (h : ta σ H fun o H1 => tb σ H1 fun i H2 => ts o i v H2 fun H3 => QG σ H3) : gSub ta tb ts v σ H QG := h
theorem r_setL {P : Hp → Prop} (hs : H a = some (.lst xs)) (hi : ixN xs.length m = some j) (h : P (upd H a (.lst (xs.set j v)))) : rSetL (.ref a) (.int m) v H P := ⟨a, xs, m, j, rfl, rfl, hs, hi, h⟩
theorem r_gTup {n : Nat} {ts : TGs} {QG : L2.St → Hp → Prop} (hs : SqT K H a xs) (hl : xs.length = n) (h : ts xs σ H QG) : gTup K n ts (.ref a) σ H QG := ⟨a, xs, rfl, hs, hl, h⟩
theorem r_gCons {tg : TG} {ts : TGs} {QG : L2.St → Hp → Prop} (h : tg v σ H fun s1 H1 => ts vs s1 H1 QG) : gCons tg ts (v :: vs) σ H QG := ⟨v, vs, rfl, h⟩
theorem r_gNil {QG : L2.St → Hp → Prop} (h : QG σ H) : gNil [] σ H QG := ⟨rfl, h⟩
theorem r_app {y : V} (hs : H a = some (.lst xs)) (hz : xs.length < 100000) (h : Q .non (upd H a (.lst (xs ++ [y])))) : rAppend (.ref a) [y] H Q := ⟨a, xs, y, rfl, rfl, hs, Nat.lt_of_lt_of_le hz (by decide), h⟩
theorem r_bm {T : String} {rr : V → List V → Hp → VK → Prop} (h : te σ H fun x H1 => tyV K T x H1 ∧ tA σ H1 fun xs H2 => rr x xs H2 Q) : tBM K T rr te tA σ H Q := h
theorem ty_list (hs : H a = some (.lst xs)) : tyV K "list" (.ref a) H := .inl ⟨rfl, _, Or.inl (Or.inl hs)⟩
/-! isinstance -/
theorem r_isi {c : V} {tv cv : Value} {b : Bool} (hc : ClsV c cv) (ht : TyX K H v tv) (hk : PySem.W.kitOne K tv cv = some b) (h : Q (.bl b) H) : rIsi K [v, c] H Q := ⟨v, c, tv, cv, b, rfl, hc, ht, hk, h⟩
end
/-! ### loops by what is left -/
section
variable {K : PySem.W.Frag} {D : Ends} {σ : L2.St} {H : Hp} {g : TG} {tb : TS} {a : Addr} {xs : List V} {wi : TI}
theorem r_for (h : wi σ H fun J H1 => ∃ W : Nat → Nat → L2.St → Hp → Prop, (∃ m, W 0 m σ H1) ∧ ∀ i m σ H, W i m σ H →
      (J.stop i H ∧ D.nx σ H) ∨ (J.go i H ∧ ∃ N : L2.St → Hp → Prop, (∀ σ' H', N σ' H' → ∃ m', m' < m ∧ W (i + 1) m' σ' H') ∧ ∀ x H', J.yld i H x H' → g x σ H' fun σ2 H2 => tb { D with nx := N, ct := N, bk := D.nx } σ2 H2)) :
    tFor wi g tb D σ H := h
theorem f_tup (hx : SqT K H a xs) (Pv : List V → L2.St → Hp → Prop) (h0 : Pv xs σ H) (keep : ∀ r σ H, Pv r σ H → SqT K H a xs)
    (step : ∀ x r σ H, Pv (x :: r) σ H → g x σ H fun σ2 H2 => tb { D with nx := Pv r, ct := Pv r, bk := D.nx } σ2 H2) (done : ∀ σ H, Pv [] σ H → D.nx σ H) :
    ∃ a', V.ref a = .ref a' ∧ (∃ xs, SqT K H a' xs) ∧ ∃ W : Nat → Nat → L2.St → Hp → Prop, (∃ m, W 0 m σ H) ∧ ∀ i m σ H, W i m σ H →
      ((Itt K a').stop i H ∧ D.nx σ H) ∨ ((Itt K a').go i H ∧ ∃ N : L2.St → Hp → Prop, (∀ σ' H', N σ' H' → ∃ m', m' < m ∧ W (i + 1) m' σ' H') ∧ ∀ x H', (Itt K a').yld i H x H' → g x σ H' fun σ2 H2 => tb { D with nx := N, ct := N, bk := D.nx } σ2 H2) := by
  refine ⟨a, rfl, ⟨_, hx⟩, for_tup (xs := xs) (fun i σ H => Pv (xs.drop i) σ H) (by simpa using h0) (fun i σ H _ p => keep _ _ _ p) (fun i x σ H hi p => ?_) (fun σ H p => done σ H (by simpa using p))⟩
  have e : xs.drop i = x :: xs.drop (i + 1) := by
    obtain ⟨hl, e⟩ := List.getElem?_eq_some_iff.mp hi
    rw [← e, List.drop_eq_getElem_cons hl]
  have p' : Pv (xs.drop i) σ H := p
  rw [e] at p'
  exact step x _ σ H p'
theorem f_lst (hx : SqL K H a xs) (Pv : List V → L2.St → Hp → Prop) (h0 : Pv xs σ H) (keep : ∀ r σ H, Pv r σ H → SqL K H a xs)
    (step : ∀ x r σ H, Pv (x :: r) σ H → g x σ H fun σ2 H2 => tb { D with nx := Pv r, ct := Pv r, bk := D.nx } σ2 H2) (done : ∀ σ H, Pv [] σ H → D.nx σ H) :
    ∃ a', V.ref a = .ref a' ∧ (∃ xs, SqL K H a' xs) ∧ ∃ W : Nat → Nat → L2.St → Hp → Prop, (∃ m, W 0 m σ H) ∧ ∀ i m σ H, W i m σ H →
      ((Itl K a').stop i H ∧ D.nx σ H) ∨ ((Itl K a').go i H ∧ ∃ N : L2.St → Hp → Prop, (∀ σ' H', N σ' H' → ∃ m', m' < m ∧ W (i + 1) m' σ' H') ∧ ∀ x H', (Itl K a').yld i H x H' → g x σ H' fun σ2 H2 => tb { D with nx := N, ct := N, bk := D.nx } σ2 H2) := by
  refine ⟨a, rfl, ⟨_, hx⟩, for_list (xs := xs) (fun i σ H => Pv (xs.drop i) σ H) (by simpa using h0) (fun i σ H _ p => keep _ _ _ p) (fun i x σ H hi p => ?_) (fun σ H p => done σ H (by simpa using p))⟩
  have e : xs.drop i = x :: xs.drop (i + 1) := by
    obtain ⟨hl, e⟩ := List.getElem?_eq_some_iff.mp hi
    rw [← e, List.drop_eq_getElem_cons hl]
  have p' : Pv (xs.drop i) σ H := p
  rw [e] at p'
  exact step x _ σ H p'
/-- range(n): what is left is counted by i -/
theorem f_rng {n : Int} (hn : -(2 ^ 62) ≤ n ∧ n < 2 ^ 62) (Pv : Nat → L2.St → Hp → Prop) (h0 : Pv 0 σ H)
    (step : ∀ (i : Nat) σ H, (i : Int) < n → Pv i σ H → g (.int (i : Int)) σ H fun σ2 H2 => tb { D with nx := Pv (i + 1), ct := Pv (i + 1), bk := D.nx } σ2 H2) (done : ∀ σ H, Pv n.toNat σ H → D.nx σ H) :
    ∃ j : Int, [V.int n] = [.int j] ∧ -(2 ^ 62) ≤ j ∧ j < 2 ^ 62 ∧ ∃ W : Nat → Nat → L2.St → Hp → Prop, (∃ m, W 0 m σ H) ∧ ∀ i m σ H, W i m σ H →
      ((Itr 0 j.toNat).stop i H ∧ D.nx σ H) ∨ ((Itr 0 j.toNat).go i H ∧ ∃ N : L2.St → Hp → Prop, (∀ σ' H', N σ' H' → ∃ m', m' < m ∧ W (i + 1) m' σ' H') ∧ ∀ x H', (Itr 0 j.toNat).yld i H x H' → g x σ H' fun σ2 H2 => tb { D with nx := N, ct := N, bk := D.nx } σ2 H2) := by
  refine ⟨n, rfl, hn.1, hn.2, for_range (lo := 0) (n := n.toNat) Pv h0 (fun i σ H hi p => ?_) done⟩
  have := step i σ H (by omega) p
  rw [Int.zero_add]
  exact this
theorem r_iTup {te : TE} {R : It → Hp → Prop} (h : te σ H fun x H1 => ∃ a, x = .ref a ∧ (∃ xs, SqT K H1 a xs) ∧ R (Itt K a) H1) : iTup K te σ H R := h
theorem r_iList {te : TE} {R : It → Hp → Prop} (h : te σ H fun x H1 => ∃ a, x = .ref a ∧ (∃ xs, SqL K H1 a xs) ∧ R (Itl K a) H1) : iList K te σ H R := h
theorem r_iterL {te : TE} {R : It → Hp → Prop} (h : te σ H fun x H1 => ∃ a, x = .ref a ∧ (∃ xs, SqL K H1 a xs) ∧ R (Itl K a) H1) : uIter K te σ H R := .inl h
theorem r_iterT {te : TE} {R : It → Hp → Prop} (h : te σ H fun x H1 => ∃ a, x = .ref a ∧ (∃ xs, SqT K H1 a xs) ∧ R (Itt K a) H1) : uIter K te σ H R := .inr h
theorem r_iRng {tA : TA} {R : It → Hp → Prop} (h : tA σ H fun vs H1 => ∃ j : Int, vs = [.int j] ∧ -(2 ^ 62) ≤ j ∧ j < 2 ^ 62 ∧ R (Itr 0 j.toNat) H1) : iRng1 tA σ H R := h
theorem r_while {c : TT} (W : Nat → L2.St → Hp → Prop) (m0 : Nat) (h0 : W m0 σ H) (step : ∀ m σ H, W m σ H → c σ H fun b H1 => if b = true then ∃ N : L2.St → Hp → Prop, (∀ σ' H', N σ' H' → ∃ m', m' < m ∧ W m' σ' H') ∧ tb { D with nx := N, ct := N, bk := D.nx } σ H1 else D.nx σ H1) :
    tWhile c tb D σ H := ⟨W, ⟨m0, h0⟩, step⟩
theorem r_body {W : Nat → L2.St → Hp → Prop} {m : Nat} (h : tb { D with nx := fun σ' H' => ∃ m', m' < m ∧ W m' σ' H', ct := fun σ' H' => ∃ m', m' < m ∧ W m' σ' H', bk := D.nx } σ H) :
    ∃ N : L2.St → Hp → Prop, (∀ σ' H', N σ' H' → ∃ m', m' < m ∧ W m' σ' H') ∧ tb { D with nx := N, ct := N, bk := D.nx } σ H := ⟨_, fun _ _ h => h, h⟩
end
/-! ### whole numbers from nought on -/
theorem bitAnd_nat (a b : Nat) : Builtin.bitAnd (a : Int) (b : Int) = ((a &&& b : Nat) : Int) := by
  unfold Builtin.bitAnd
  rw [decide_eq_true (Int.natCast_nonneg a), decide_eq_true (Int.natCast_nonneg b)]
  rfl
theorem bitOr_nat (a b : Nat) : Builtin.bitOr (a : Int) (b : Int) = ((a ||| b : Nat) : Int) := by
  unfold Builtin.bitOr Builtin.bitAnd Builtin.bitNot
  have h1 : ¬ (0 : Int) ≤ -(a : Int) - 1 := by omega
  have h2 : ¬ (0 : Int) ≤ -(b : Int) - 1 := by omega
  rw [decide_eq_false h1, decide_eq_false h2]
  have e1 : (-(-(a : Int) - 1) - 1).toNat = a := by omega
  have e2 : (-(-(b : Int) - 1) - 1).toNat = b := by omega
  simp only [e1, e2]
  omega
theorem or_xor_and' (x y : Nat) : x ||| y = (x ^^^ y) + (x &&& y) := by
  induction x using Nat.strongRecOn generalizing y with
  | ind x ih =>
    by_cases hx : x = 0
    · subst hx; simp
    · have i := ih (x / 2) (by omega) (y / 2)
      have h1 := @Nat.or_div_two x y
      have h2 := @Nat.xor_div_two x y
      have h3 := @Nat.and_div_two x y
      have m1 := @Nat.or_mod_two_eq_one x y
      have m2 := @Nat.xor_mod_two_eq_one x y
      have m3 := @Nat.and_mod_two_eq_one x y
      omega
theorem bitXor_nat (a b : Nat) : Builtin.bitXor (a : Int) (b : Int) = ((a ^^^ b : Nat) : Int) := by
  unfold Builtin.bitXor
  rw [bitAnd_nat, bitOr_nat, or_xor_and']
  omega
theorem two_pow_int (k : Nat) : (2 : Int) ^ k = ((2 ^ k : Nat) : Int) := by
  induction k with
  | zero => rfl
  | succ k ih => rw [Int.pow_succ, ih, Nat.pow_succ]; rfl
section
variable {K : PySem.W.Frag} {H : Hp} {Q : VK} {a b : Nat}
theorem n_add (h : Q (.int ((a + b : Nat) : Int)) H) : uAdd K (.int (a : Int)) (.int (b : Int)) H Q := r_add (by rw [← Int.natCast_add]; exact h)
theorem n_add1 (h : Q (.int ((a + 1 : Nat) : Int)) H) : uAdd K (.int (a : Int)) (.int 1) H Q := r_add h
theorem n_sub1 (h1 : 1 ≤ a) (h : Q (.int ((a - 1 : Nat) : Int)) H) : uSub (.int (a : Int)) (.int 1) H Q := r_sub (by
  have e : (a : Int) - 1 = ((a - 1 : Nat) : Int) := by omega
  rw [e]; exact h)
theorem n_sub (h1 : b ≤ a) (h : Q (.int ((a - b : Nat) : Int)) H) : uSub (.int (a : Int)) (.int (b : Int)) H Q := r_sub (by
  have e : (a : Int) - b = ((a - b : Nat) : Int) := by omega
  rw [e]; exact h)
theorem n_shl (hb : b ≤ 1000000) (ha : a < 2 ^ 64) (h : Q (.int ((a * 2 ^ b : Nat) : Int)) H) : uShl (.int (a : Int)) (.int (b : Int)) H Q := by
  refine r_shl ⟨by omega, by omega, by simpa using ha⟩ ?_
  have e : (a : Int) * 2 ^ (b : Int).toNat = ((a * 2 ^ b : Nat) : Int) := by
    rw [Int.toNat_natCast, two_pow_int, Int.natCast_mul]
  rw [e]; exact h
theorem n_shl1 (hb : b ≤ 1000000) (h : Q (.int ((2 ^ b : Nat) : Int)) H) : uShl (.int 1) (.int (b : Int)) H Q := by
  have q : uShl (.int ((1 : Nat) : Int)) (.int (b : Int)) H Q := n_shl hb (by decide) (by rw [Nat.one_mul]; exact h)
  exact q
theorem n_shr (h : Q (.int ((a / 2 ^ b : Nat) : Int)) H) : uShr (.int (a : Int)) (.int (b : Int)) H Q := by
  refine r_shr (by omega) ?_
  have e : (a : Int) / 2 ^ (b : Int).toNat = ((a / 2 ^ b : Nat) : Int) := by
    rw [Int.toNat_natCast, two_pow_int]; rfl
  rw [e]; exact h
theorem n_shr1 (h : Q (.int ((a / 2 : Nat) : Int)) H) : uShr (.int (a : Int)) (.int 1) H Q := by
  have q : uShr (.int (a : Int)) (.int ((1 : Nat) : Int)) H Q := n_shr (by rw [Nat.pow_one]; exact h)
  exact q
theorem n_mod (hb : 0 < b) (h : Q (.int ((a % b : Nat) : Int)) H) : uMod (.int (a : Int)) (.int (b : Int)) H Q := r_mod (by omega) (by rw [← Int.natCast_emod]; exact h)
theorem n_mod2 (h : Q (.int ((a % 2 : Nat) : Int)) H) : uMod (.int (a : Int)) (.int 2) H Q := by
  have q : uMod (.int (a : Int)) (.int ((2 : Nat) : Int)) H Q := n_mod (by decide) h
  exact q
theorem n_and (h : Q (.int ((a &&& b : Nat) : Int)) H) : uAnd (.int (a : Int)) (.int (b : Int)) H Q := r_band (by rw [bitAnd_nat]; exact h)
theorem n_and1 (h : Q (.int ((a % 2 : Nat) : Int)) H) : uAnd (.int (a : Int)) (.int 1) H Q := by
  have q : uAnd (.int (a : Int)) (.int ((1 : Nat) : Int)) H Q := n_and (by rw [Nat.and_one_is_mod]; exact h)
  exact q
theorem n_xor (h : Q (.int ((a ^^^ b : Nat) : Int)) H) : uXor (.int (a : Int)) (.int (b : Int)) H Q := r_bxor (by rw [bitXor_nat]; exact h)
theorem n_aug {P : V → Hp → Prop} (h : P (.int ((a + b : Nat) : Int)) H) : ipI (fun i j => i + j) (.int (a : Int)) (.int (b : Int)) H P := r_ipI (by
  show P (.int ((a : Int) + (b : Int))) H
  rw [← Int.natCast_add]; exact h)
theorem n_aug1 {P : V → Hp → Prop} (h : P (.int ((a + 1 : Nat) : Int)) H) : ipI (fun i j => i + j) (.int (a : Int)) (.int 1) H P := r_ipI h
end
/-! ### heaps that grow -/
abbrev Ex := Evl.Ex
theorem Ex.up {H H1 : Hp} {p : Addr} {o : HO} (e : Ex H H1) (h : H1 p = none) : Ex H (upd H1 p o) := Evl.Ex.trans e (Evl.Ex.new h)
theorem Ex.trans {H H1 H2 : Hp} (a : Ex H H1) (b : Ex H1 H2) : Ex H H2 := Evl.Ex.trans a b
theorem Ex.rf {H : Hp} : Ex H H := Evl.Ex.refl H
theorem Ex.up2 {H H1 : Hp} {p : Addr} {o : HO} (e : Ex H H1) (h : H p = none) : Ex H (upd H1 p o) := Evl.Ex.mut e h
theorem fresh {H H1 : Hp} {p : Addr} (e : Ex H H1) (h : H1 p = none) : H p = none := Evl.fresh_back e h
/-- tuples stay -/
def Tx (H H' : Hp) : Prop := ∀ t xs, H t = some (.tup xs) → H' t = some (.tup xs)
theorem Tx.rf {H : Hp} : Tx H H := fun _ _ h => h
theorem Tx.trans {H H1 H2 : Hp} (a : Tx H H1) (b : Tx H1 H2) : Tx H H2 := fun t xs h => b t xs (a t xs h)
theorem Ex.tx {H H1 : Hp} (e : Ex H H1) : Tx H H1 := fun t xs h => e t _ h
theorem Tx.new {H H1 : Hp} {p : Addr} {o : HO} (e : Tx H H1) (h : H1 p = none) : Tx H (upd H1 p o) := fun t xs q => by
  have z := e t xs q
  rw [upd_ne (fun w => by rw [w, h] at z; cases z)]
  exact z
theorem Tx.lst {H H1 : Hp} {p : Addr} {o : HO} {ys : List V} (e : Tx H H1) (h : H1 p = some (.lst ys)) : Tx H (upd H1 p o) := fun t xs q => by
  have z := e t xs q
  rw [upd_ne (fun w => by rw [w, h] at z; cases z)]
  exact z
/-! ### comprehensions -/
section
variable {K : PySem.W.Frag} {a : Addr} {xs : List V} {g : TG} {tt : TT} {te : TE} {vs : List Nat} {σ : L2.St} {H H1 : Hp} {D : Addr} {Qd : Hp → Prop}
theorem r_lc {wi : TI} {Q : VK} (h : wi σ H fun J H1 => ∀ D, H1 D = none → ∃ W : Nat → Nat → Hp → Prop, (∃ m, W 0 m (upd H1 D (.lst []))) ∧ ∀ i m H, W i m H →
      (J.stop i H ∧ Q (.ref D) H) ∨ (J.go i H ∧ ∃ Nx : Hp → Prop, (∀ H', Nx H' → ∃ m', m' < m ∧ W (i + 1) m' H') ∧ ∀ x H', J.yld i H x H' → g x (wipe σ vs) H' fun σ2 H2 => wipe σ2 vs = wipe σ vs ∧ tt σ2 H2 fun b H3 =>
        if b = true then te σ2 H3 fun y H4 => ∃ acc, H4 D = some (.lst acc) ∧ acc.length < sizeLine ∧ Nx (upd H4 D (.lst (acc ++ [y]))) else Nx H3)) : tLc wi g tt te vs σ H Q := h
theorem lc_enumT (σ0 : L2.St) (hw : wipe σ vs = σ0) (Pv : Nat → Hp → Prop) (h0 : Pv 0 (upd H1 D (.lst []))) (hl : ∀ i H, i ≤ xs.length → Pv i H → SqT K H a xs)
    (hs : ∀ i x T H, xs[i]? = some x → Pv i H → H T = none → g (.ref T) σ0 (upd H T (.tup [.int (i : Nat), x])) fun σ2 H2 => wipe σ2 vs = σ0 ∧ tt σ2 H2 fun b H3 =>
      if b = true then te σ2 H3 fun y H4 => ∃ acc, H4 D = some (.lst acc) ∧ acc.length < sizeLine ∧ Pv (i + 1) (upd H4 D (.lst (acc ++ [y]))) else Pv (i + 1) H3) (hd : ∀ H, Pv xs.length H → Qd H) :
    ∃ W : Nat → Nat → Hp → Prop, (∃ m, W 0 m (upd H1 D (.lst []))) ∧ ∀ i m H, W i m H →
      ((IteT K a).stop i H ∧ Qd H) ∨ ((IteT K a).go i H ∧ ∃ Nx : Hp → Prop, (∀ H', Nx H' → ∃ m', m' < m ∧ W (i + 1) m' H') ∧ ∀ x H', (IteT K a).yld i H x H' → g x (wipe σ vs) H' fun σ2 H2 => wipe σ2 vs = wipe σ vs ∧ tt σ2 H2 fun b H3 =>
        if b = true then te σ2 H3 fun y H4 => ∃ acc, H4 D = some (.lst acc) ∧ acc.length < sizeLine ∧ Nx (upd H4 D (.lst (acc ++ [y]))) else Nx H3) := by
  rw [hw]
  refine ⟨fun i m H => m = xs.length - i ∧ i ≤ xs.length ∧ Pv i H, ⟨xs.length, by simp, Nat.zero_le _, h0⟩, ?_⟩
  rintro i m H ⟨rfl, hi, p⟩
  have hq := hl i H hi p
  by_cases hlt : i < xs.length
  · refine .inr ⟨⟨xs, xs[i], hq, by simp [hlt]⟩, Pv (i + 1), fun H' p' => ⟨xs.length - (i + 1), by omega, rfl, hlt, p'⟩, ?_⟩
    rintro x H' ⟨T, y, rfl, hT, rfl, hy⟩
    exact hs i y T H (hy xs hq) p hT
  · have e : i = xs.length := by omega
    subst e
    exact .inl ⟨⟨xs, hq, Nat.le_refl _⟩, hd H p⟩
end
theorem r_iEnumT {K : PySem.W.Frag} {tA : TA} {σ : L2.St} {H : Hp} {R : It → Hp → Prop} (h : tA σ H fun vs H1 => ∃ a xs, vs = [.ref a] ∧ SqT K H1 a xs ∧ R (IteT K a) H1) : iEnumA K tA σ H R := .inr h
theorem r_sum {K : PySem.W.Frag} {H : Hp} {Q : VK} {a : Addr} {ns : List Int} (hs : SqL K H a (ns.map V.int)) (h : Q (.int ns.sum) H) : rSum K [.ref a] H Q := ⟨a, ns, rfl, hs, h⟩
/-! ### data stay -/
mutual
theorem dp_mono {K : PySem.W.Frag} {H H' : Hp} (e : Ex H H') : ∀ {v : V} {d : PyData}, Dp K H v d → Dp K H' v d
  | _, _, .non => .non
  | _, _, .bl b => .bl b
  | _, _, .int i => .int i
  | _, _, .str x => .str x
  | _, _, .lst h r => .lst (Evl.ex_l e h) (dpAll_mono e r)
  | _, _, .tup h r => .tup (Evl.ex_t e h) (dpAll_mono e r)
theorem dpAll_mono {K : PySem.W.Frag} {H H' : Hp} (e : Ex H H') : ∀ {vs : List V} {ds : List PyData}, DpAll K H vs ds → DpAll K H' vs ds
  | _, _, .nil => .nil
  | _, _, .cons h r => .cons (dp_mono e h) (dpAll_mono e r)
end
end Fk
/-! ## defs that are called where no repr is under way: repr of data -/
namespace Fk
open PySem PySem.Spec PyProof.Rows L2
/-- as FnOk, where no guard stands around -/
structure FnG (P : Program) (w : World) (K : PySem.W.Frag) (mg : Str → Option Value) (base : Heap) (k : Nat) (f : Addr) (fd : FuncData) (ps : List Str) (sp : Sp) : Prop where
  len : ∀ vs H Q E, sp vs H Q E → vs.length = ps.length
  run : ∀ (A : Around) (outer : List Env) (s : Shared) (H : Hp) (args : Args) (us : List Value) (vs : List V) (Q : VK) (E : XK), A.guards = some [] → Room k A → Env0 P w K mg base A outer s H →
    BindsTo s fd args (ps.zip us) → Vals vs us → sp vs H Q E → codeAny (model P w) A (.call (.ref f) args) (CR (L2.CX P w) outer P w H s Q E) s
section
variable {P : Program} {w : World} {K : PySem.W.Frag} {mg : Str → Option Value} {base : Heap} {k : Nat} {f : Addr} {fd : FuncData} {ps N : List Str} {sp : Sp} {x qual : Str} {params : Arguments} {body : List Stmt} {scope : Scope} {dvs : List V} {kws : List (Str × V)}
theorem FnG.of (F : FnOk P w K mg base (L2.CX P w) k f fd ps sp) : FnG P w K mg base k f fd ps sp := ⟨F.len, fun A outer s H args us vs Q E _ => F.run A outer s H args us vs Q E⟩
/-- a def's body, run where no guard stands -/
theorem okG (F : FunD K x qual params body scope dvs kws f fd) (S : FnScope N ps scope) (len : ∀ vs H Q E, sp vs H Q E → vs.length = ps.length)
    (hb : ∀ (cdv : Value) (A : Around) (outer : List Env) (s : Shared) (H : Hp) (vs : List V) (Q : VK) (E : XK), A.guards = some [] → Room k (A.deeper (envOfC qual scope s.heap.objs.size f cdv)) → sp vs H Q E →
      ∃ t, PSs (cxOf (L2.CX P w) P w K mg base N qual scope f cdv A outer s H E) body t ∧ t { nx := fun _ H' => Q .non H', rt := Q } (start N vs) H) : FnG P w K mg base (k + 1) f fd ps sp := by
  obtain ⟨oc, od, dV, kV, doc, pm, an, cdv, ct, osl, rfl, lk, hcd, _, _⟩ := F.ex
  refine ⟨len, ?_⟩
  intro A outer s H args us vs Q E hG hr e0 hbi r hsp
  have inK : K.In s.heap := e0.mod.kin.keeps fun b o e => (e0.bs b o e).1
  have lim : s.heap.NoLimit := e0.mod.nolimit.keeps fun b o e => (e0.bs b o e).1
  refine codeAny_call_function hr.depth (inK _ _ lk) rfl S.co S.gen rfl (PySem.W.codeRec_of inK hcd) (hbi _ _ _ _ ?_)
  refine wpAny_newFunctionEnv_cells S.kind ?_ ?_
  · rintro ⟨n, v⟩ hy
    rcases S.par n (List.of_mem_zip hy).1 with z | z
    · exact .inl z
    · exact .inr ⟨z, PySem.W.cellsFrom_some _ _ _ (.inl z)⟩
  intro env he s1 y
  subst he
  refine ⟨lim.keeps y.toInCall.keep, codeAny_func ?_⟩
  obtain ⟨t, ht, hq⟩ := hb cdv A outer s H vs Q E hG (hr.deeper _) hsp
  have I := inv_start (CX := L2.CX P w) (E := E) S hr.hd e0 (len _ _ _ _ hsp) r y
  refine wpAny_mono (ht.run [] s1 (start N vs) H _ I hq) ?_ (fun e s' z => z)
  intro fl s' z
  cases fl with
  | ret u =>
    obtain ⟨v, σ', H', J, rv, q⟩ := z
    exact ⟨v, H', J.os, J.bare, J.base, J.hok, rv, q⟩
  | next =>
    obtain ⟨σ', H', J, q⟩ := z
    exact ⟨V.non, H', J.os, J.bare, J.base, J.hok, rfl, q⟩
  | brk => obtain ⟨_, _, _, q⟩ := z; exact q.elim
  | cont => obtain ⟨_, _, _, q⟩ := z; exact q.elim
end
structure CalG (P : Program) (w : World) (K : PySem.W.Frag) (mg : Str → Option Value) (base : Heap) (k : Nat) (x : Str) (ps : List Str) (dvs : List V) (sp : Sp) : Prop where
  ex : ∃ (f : Addr) (fd : FuncData) (ds : List Value), FnG P w K mg base k f fd ps sp ∧ mg x = some (.ref f) ∧ PySem.W.keepIn K (.ref f) = true ∧ Binds K fd ps ds ∧ Vals dvs ds
section
variable {X : Cx} {k j : Nat} {x : Str} {ps : List Str} {dvs : List V} {sp : Sp} {E : XK} {p pos : Pos} {e : Expr} {es : List Expr} {t : TA} {f : Addr} {fd : FuncData} {ds : List Value}
theorem run_fnG {pins : List (Addr × Obj)} {σ : L2.St} {H : Hp} {s : Shared} {Q : VK} {us : List Value} {vs : List V} (F : FnG X.prog X.w X.K X.mg X.base k f fd ps sp) (hG : X.A.guards = some []) (hr : Room k X.A) (hb : Binds X.K fd ps ds) (hd : Vals dvs ds)
    (hx : Passes (L2.CX X.prog X.w) X E) (I : Inv X pins σ H s) (r : Vals vs us) (h : sp (vs ++ dvs) H Q E) : wpAny (model X.prog X.w) X.A (call (.ref f) us) (EP X pins σ Q) X.xe s := by
  have r2 := r.append hd
  have hl : (us ++ ds).length = ps.length := r2.length.symm.trans (F.len _ _ _ _ h)
  refine wpAny_call (codeAny_mono (F.run X.A X.stack s H ⟨us, []⟩ (us ++ ds) (vs ++ dvs) Q E hG hr I.env0 (hb s us I.kIn hl) r2 h) ?_)
  intro r s' z
  cases r with
  | error e => exact hx pins σ H s e s' I z
  | ok fl => cases fl with
    | ret u => exact I.after z
    | next => exact z.elim
    | brk => exact z.elim
    | cont => exact z.elim
theorem pe_calG (F : CalG X.prog X.w X.K X.mg X.base k x ps dvs sp) (hG : X.A.guards = some []) (hr : Room j X.A) (hk : k ≤ j) (hg : Gl X x) (hx : Passes (L2.CX X.prog X.w) X E) (ha : PA X (e :: es) t)
    (hdb : (x == ("__debug__" : Str)) = false := by decide) (he : starEach (e :: es) X.env = (false, eval e X.env) :: starEach es X.env := by rfl) (hpl : (backTo pos (starEach es X.env)).any (·.1) = false := by rfl) :
    PE X (.Call (.Name x p) (e :: es) [] pos) (tCall sp dvs E t) := by
  obtain ⟨f, fd, ds, G, gm, kp, b, v⟩ := F.ex
  refine ⟨fun pins s σ H Q I h => wpAny_Call_Name_kw (ld_glob I hg gm ?_ hdb)⟩
  refine PySem.W.callWith_K (h₀ := X.base) I.ok.mod.kin kp (thn (ha.run pos pins s σ H _ I h) ?_) he hpl
  rintro us s1 ⟨vs, H1, I1, r, q⟩
  exact ⟨I1.kIn, run_fnG G hG (hr.mono hk) b v hx I1 r q⟩
end
/-! ### repr -/
def uRepr (K : PySem.W.Frag) : List V → Hp → VK → Prop := fun xs H Q => ∃ v d, xs = [v] ∧ Dp K H v d ∧ d.showable = true ∧ d.depth ≤ 60 ∧ d.hasDict = false ∧ d.shown.length ≤ sizeLine ∧ Q (.str d.shown) H
theorem call_repr {X : Cx} (hG : X.A.guards = some []) (hu : X.A.units + 64 < cLine) : CallR X (.builtin "repr") (uRepr X.K) := by
  intro pins s σ H xs us Q I r h
  obtain ⟨v, d, rfl, hd, hs, hdp, hnd, hz, q⟩ := h
  cases r with
  | cons ru rn =>
    rename_i u us'
    cases rn
    obtain ⟨as, rd⟩ := Dp.reads I d v u hd ru
    have fin : ∀ h' uu tk, (∀ b o, s.heap.get? b = some o → h'.get? b = some o) → EP X pins σ Q (.str d.shown uu) { s with heap := h', toks := tk } := fun h' uu tk hk => ⟨.str d.shown, H, I.kept (t' := tk) hk, ⟨uu, rfl⟩, q⟩
    cases u with
    | ref a => exact repr_of_reads' rd hs (fun z => by rw [hnd] at z; cases z) hG (by omega) (fun _ _ e => e) fin hz
    | none =>
      cases rd
      exact P.repr_of_none (fin s.heap _ _ fun _ _ e => e)
    | bool b =>
      cases rd
      exact P.repr_of_bool (fin s.heap _ _ fun _ _ e => e)
    | int i t =>
      cases rd
      exact P.repr_of_int (by simpa [PyData.showable] using hs) (fin s.heap _ _ fun _ _ e => e)
    | str z t =>
      cases rd
      exact P.repr_of_str (fin s.heap _ _ fun _ _ e => e) hz
    | _ => cases rd
/-! ### the law's call -/
theorem law_G {P : Program} {w : World} {K : PySem.W.Frag} {mg mb : Str → Option Value} {k : Nat} {fa a : Addr} {fd : FuncData} {x : Str} {sp : Sp} {s1 : Shared} {vs : List Value} {ns : List Int}
    (KX : K.In s1.heap) (hns : s1.heap.Ns mainGlobals mg) (hb : s1.heap.Ns builtinsNs mb) (hbb : ∀ x : Str, x ≠ "__name__" → mb x = bootBuiltins x) (hlim : s1.heap.NoLimit) (hg : s1.gens = #[])
    (ha : s1.heap.get? a = some { cls := .type "list", data := .seq vs.toArray }) (hi : IntsAre vs ns) (hl : ns.length ≤ sizeLine) (hr : Room k callerA)
    (Fn : ∀ base : Heap, K.In base → base.Ns mainGlobals mg → FnG P w K mg base k fa fd [x] sp) (hbind : ∀ (s : Shared) (u : Value), BindsTo s fd ⟨[u], []⟩ [(x, u)])
    (hsp : ∀ H : Hp, SqL K H a (ns.map V.int) → sp [.ref a] H (fun v _ => v = .bl true) fun _ _ _ => False) :
    codeAny (model P w) callerA (.call (.ref fa) ⟨[.ref a], []⟩) (fun r s' => r = .ok (.ret (.bool true)) ∧ OldK s1.heap s'.heap ∧ s'.os = s1.os ∧ AllBare s'.gens) s1 := by
  have rv := vals_ints hi
  have lenV := hi.length
  let ob : Obj := { cls := .type "list", data := .seq vs.toArray }
  let Hs : Hp := fun b => if b = a ∧ K.lookup a = none then some (.frz ob (.lst (ns.map V.int))) else none
  have at_ : ∀ b u, Hs b = some u → b = a ∧ K.lookup a = none ∧ u = .frz ob (.lst (ns.map V.int)) := fun b u q => by
    by_cases c : b = a ∧ K.lookup a = none
    · have q2 : some (HO.frz ob (.lst (ns.map V.int))) = some u := (if_pos c).symm.trans q
      exact ⟨c.1, c.2, (Option.some.inj q2).symm⟩
    · have q2 : (none : Option HO) = some u := (if_neg c).symm.trans q
      cases q2
  have hS : SqL K Hs a (ns.map V.int) := by
    cases hk : K.lookup a with
    | none => exact .inl (.inr ⟨ob, if_pos ⟨rfl, hk⟩⟩)
    | some o =>
      have e := KX a o hk
      rw [ha] at e
      cases e
      exact .inr ⟨_, vs.toArray, _, hk, rfl, rfl, rfl, by rw [List.size_toArray, lenV]; exact hl, by simpa using rv⟩
  have hok : HOk P w Hs s1.heap := fun b u q => by
    obtain ⟨rfl, _, rfl⟩ := at_ b u q
    exact ⟨ha, by rw [List.length_map]; exact hl, vs, _, rv, ha⟩
  have hid : ∀ {b : Addr} {o : Obj}, s1.heap.get? b = some o → (b = a → K.lookup a ≠ none) → (hidT s1.heap Hs).get? b = some o := fun {b o} e n => by
    refine hidT_get e ?_
    cases q : Hs b with
    | none => rfl
    | some u =>
      obtain ⟨e1, e2, _⟩ := at_ b u q
      exact absurd e2 (n e1)
  have nsK : ∀ {b : Addr} {m : Str → Option Value}, s1.heap.Ns b m → (hidT s1.heap Hs).Ns b m := fun {b m} ⟨o, es, ep, e, d, rr⟩ => by
    refine ⟨o, es, ep, hid e ?_, d, rr⟩
    rintro rfl
    rw [ha] at e
    cases e
    cases d
  have hKb : K.In (hidT s1.heap Hs) := fun b o e => hid (KX b o e) (fun z => by rw [← z, e]; exact fun q => nomatch q)
  have hM : Mod K mg (hidT s1.heap Hs) := by
    refine ⟨hKb, nsK hns, ⟨mb, nsK hb, hbb⟩, ?_⟩
    obtain ⟨mc, h1, h2⟩ := hlim
    exact ⟨mc, nsK h1, h2⟩
  have e0 : Env0 P w K mg (hidT s1.heap Hs) callerA [] s1 Hs := ⟨rfl, hM, fun b o e => of_hidT e, Nat.le_of_eq (hidT_size _ _), trivial, fun b z => absurd (show b ∈ ([] : List Addr) from z) (by simp), hok, .of_eq hg⟩
  refine codeAny_mono ((Fn _ hKb (nsK hns)).run callerA [] s1 Hs ⟨[.ref a], []⟩ [.ref a] [.ref a] _ _ rfl hr e0 (hbind s1 (.ref a)) (.cons rfl .nil) (hsp Hs hS)) ?_
  intro r s' h
  cases r with
  | error e =>
    obtain ⟨_, _, _, _, _, _, _, _, _, _, _, _, z⟩ := h
    exact z.elim
  | ok fl =>
    cases fl with
    | next => exact h.elim
    | brk => exact h.elim
    | cont => exact h.elim
    | ret u =>
      obtain ⟨v, H', os, bare, un, hok', r', q⟩ := h
      have q' : v = .bl true := q
      subst q'
      obtain rfl : u = Value.bool true := r'
      refine ⟨rfl, OldK.of_keep fun b o e => ?_, os, bare⟩
      cases q : Hs b with
      | none => exact un.keep b o e q (fun z => absurd (show b ∈ ([] : List Addr) from z) (by simp)) (by simp)
      | some u =>
        obtain ⟨e1, e2, e3⟩ := at_ b u q
        subst e3
        have z2 := un.frzs b ob _ q
        obtain ⟨g1, _⟩ := hok b _ q
        obtain ⟨g2, _⟩ := hok' b _ z2
        rw [e] at g1
        cases g1
        exact g2
theorem walk_endG {l : PySem.W.OpenLaw} {n k : Nat} {q : Program} {loose : List Str} {XP : (Str → Option Value) → Heap → Prop} {YP : World → Heap → Prop} {d : DefRec} {x : Str}
    (hn : l.most = some n) (hn2 : n ≤ sizeLine) (hdf : d.params.defaults = []) (hr : Room k callerA)
    (Fx : ∀ (w : World) (mg : Str → Option Value) (fa : Addr) (h : Heap), YP w h → h.Ns mainGlobals mg → mg d.name = some (.ref fa) →
      ∃ (K : PySem.W.Frag) (fd : FuncData) (sp : Sp), K.In h ∧ (∀ (s : Shared) (u : Value), BindsTo s fd ⟨[u], []⟩ [(x, u)]) ∧
        (∀ (H : Hp) (a : Addr) (ns : List Int), ns.length ≤ n → (∀ z ∈ ns, Builtin.Int.intBits z ≤ 1048576) → SqL K H a (ns.map V.int) → sp [.ref a] H (fun v _ => v = .bl true) fun _ _ _ => False) ∧
        ∀ base : Heap, K.In base → base.Ns mainGlobals mg → FnG l.prog w K mg base k fa fd [x] sp) :
    PySem.W.WalkO q loose XP YP l.row.toRowW d [] (fun f vs => PySem.call f vs) := by
  refine Att.attach_callB hn hdf ?_
  intro w s0 s1 mg mb fa o pm cd doc a vs ns G Y ho hd hcd hmg hobj hints hlen hbits hg
  obtain ⟨K, fd, sp, KX, hb, hsp, hF⟩ := Fx w mg fa _ Y G.T.g hmg
  exact law_G KX G.T.g G.T.b G.T.builtins G.T.nolimit hg hobj hints (Nat.le_trans hlen hn2) hr hF hb (fun H hS => hsp H a ns hlen hbits hS)
end Fk
/-! ## data whose text is short -/
namespace Fk
open PySem PySem.Spec PyProof.Rows L2
/-- data of depth at most k whose text has at most n signs -/
structure Sw (k n : Nat) (d : PyData) : Prop where
  lay : d.canLay0 = true
  dep : d.depth ≤ k
  shw : d.showable = true
  len : d.shown.length ≤ n
structure SwAll (k n : Nat) (ds : List PyData) : Prop where
  lay : PyData.canLayAll0 ds = true
  dep : PyData.depthAll ds ≤ k
  shw : PyData.showableAll ds = true
  len : ((PyData.shownAll ds).map (·.length)).sum + 2 * (PyData.shownAll ds).length ≤ n
theorem sw_none {k : Nat} : Sw k 4 .none := ⟨rfl, Nat.zero_le _, rfl, by decide +kernel⟩
theorem sw_bool {k : Nat} (b : Bool) : Sw k 5 (.bool b) := ⟨rfl, Nat.zero_le _, rfl, by cases b <;> decide +kernel⟩
theorem sw_int {k : Nat} {i : Int} (h : i.natAbs < 2 ^ 128) : Sw k 129 (.int i) := by
  have lg : i.natAbs.log2 < 128 := by
    by_cases z : i.natAbs = 0
    · rw [z]; decide
    · exact (Nat.log2_lt z).mpr h
  refine ⟨rfl, Nat.zero_le _, ?_, ?_⟩
  · have : i.natAbs.log2 < 1920 := by omega
    simpa [PyData.showable] using this
  · have e : (PyData.int i).shown = Str.ofString (toString i) := by simp only [PyData.shown]
    rw [e, PySem.ofString_length]
    exact int_text_length_le (by decide) lg
theorem sw_str {k : Nat} {x : Str} (ok : PyData.strOk x = true) : Sw k (10 * x.length + 2) (.str x) := by
  refine ⟨by simpa [PyData.canLay0] using ok, Nat.zero_le _, by simp [PyData.showable], ?_⟩
  have e : (PyData.str x).shown = reprText x := by simp only [PyData.shown]
  rw [e]
  refine StrLaws.reprText_len x fun c hc => ?_
  have q : x.cps.all (· < 0x110000) = true := ok
  have := Array.all_eq_true'.mp q c (by simpa using hc)
  have e2 : (0x110000 : Nat) ≤ 16 ^ 8 := by decide
  simp at this
  omega
theorem swa_nil {k : Nat} : SwAll k 0 [] := ⟨rfl, Nat.zero_le _, rfl, by simp [PyData.shownAll]⟩
theorem swa_cons {k n m : Nat} {d : PyData} {ds : List PyData} (h : Sw k n d) (r : SwAll k m ds) : SwAll k (n + 2 + m) (d :: ds) := by
  refine ⟨by simp [PyData.canLayAll0, h.lay, r.lay], ?_, by simp [PyData.showableAll, h.shw, r.shw], ?_⟩
  · have := h.dep
    have := r.dep
    simp only [PyData.depthAll]
    omega
  · have := h.len
    have := r.len
    simp only [PyData.shownAll, List.map_cons, List.sum_cons, List.length_cons]
    omega
theorem sw_tup {k n : Nat} {ds : List PyData} (h : SwAll k n ds) : Sw (k + 1) (n + 3) (.tuple ds) := by
  refine ⟨by simpa [PyData.canLay0] using h.lay, by have := h.dep; simp only [PyData.depth]; omega, by simpa [PyData.showable] using h.shw, ?_⟩
  have := tupleText_len_le (PyData.shownAll ds)
  have := h.len
  simp only [PyData.shown]
  omega
theorem sw_lst {k n : Nat} {ds : List PyData} (h : SwAll k n ds) : Sw (k + 1) (n + 3) (.list ds) := by
  refine ⟨by simpa [PyData.canLay0] using h.lay, by have := h.dep; simp only [PyData.depth]; omega, by simpa [PyData.showable] using h.shw, ?_⟩
  have := listText_len_le (PyData.shownAll ds)
  have := h.len
  simp only [PyData.shown]
  omega
theorem Sw.shaped {k n : Nat} {d : PyData} (h : Sw k n d) (hk : k ≤ 60) : SeqAt.shaped d = true := by
  unfold SeqAt.shaped
  rw [h.lay, Bool.true_and]
  exact decide_eq_true (Nat.le_trans h.dep (by omega))
section
variable {K : PySem.W.Frag} {H : Hp} {Q : VK} {v u : V} {d e : PyData}
theorem r_repr {k n : Nat} (hd : Dp K H v d) (hs : Sw k n d) (hk : k ≤ 60) (hn : n ≤ 16000000) (h : Q (.str d.shown) H) : uRepr K [v] H Q :=
  ⟨v, d, rfl, hd, hs.shw, Nat.le_trans hs.dep hk, PyData.hasDict_of_canLay d hs.lay, Nat.le_trans hs.len (Nat.le_trans hn (by decide)), h⟩
theorem dp_tup {p : Addr} {vs : List V} {ds : List PyData} (hp : H p = some (.tup vs)) (h : DpAll K H vs ds) : Dp K H (.ref p) (.tuple ds) := .tup (SqT.of hp) h
theorem r_eqS {x y : Str} (h : Q (.bl (decide (x = y))) H) : uEq K (.str x) (.str y) H Q := by
  refine .inl ⟨rfl, ?_⟩
  have e : decide ((V.str x) = V.str y) = decide (x = y) := by
    by_cases q : x = y
    · subst q; simp
    · rw [decide_eq_false q, decide_eq_false (fun z => q (V.str.inj z))]
  show Q (.bl (decide ((V.str x) = V.str y))) H
  rw [e]
  exact h
theorem r_neS {x y : Str} (h : Q (.bl (!decide (x = y))) H) : uNe K (.str x) (.str y) H Q := by
  refine .inl ⟨rfl, ?_⟩
  have e : decide ((V.str x) = V.str y) = decide (x = y) := by
    by_cases q : x = y
    · subst q; simp
    · rw [decide_eq_false q, decide_eq_false (fun z => q (V.str.inj z))]
  show Q (.bl (!decide ((V.str x) = V.str y))) H
  rw [e]
  exact h
end
end Fk
/-! ## data with small dicts, their repr -/
namespace Fk
open PySem PySem.Spec PyProof.Rows L2
mutual
/-- what a value reads as: leaves, tuples, dicts of ints -/
inductive Dt (K : PySem.W.Frag) (H : Hp) : V → PyData → Prop
  | non : Dt K H .non .none
  | bl (b : Bool) : Dt K H (.bl b) (.bool b)
  | int (i : Int) : Dt K H (.int i) (.int i)
  | str (x : Str) : Dt K H (.str x) (.str x)
  | tup {a : Addr} {xs : List V} {ds : List PyData} : SqT K H a xs → DtAll K H xs ds → Dt K H (.ref a) (.tuple ds)
  | dct {a : Addr} {ns : List (Int × Int)} : H a = some (.dK (ns.map fun z => (Sum.inl z.1, V.int z.2))) → Dt K H (.ref a) (.dict (ns.map fun z => (.int z.1, .int z.2)))
inductive DtAll (K : PySem.W.Frag) (H : Hp) : List V → List PyData → Prop
  | nil : DtAll K H [] []
  | cons {v : V} {vs : List V} {d : PyData} {ds : List PyData} : Dt K H v d → DtAll K H vs ds → DtAll K H (v :: vs) (d :: ds)
end
theorem rd_pairs {P : Program} {w : World} {h : Heap} : ∀ (ns : List (Int × Int)) (es : List DictEntry) (vs : List (Key × Value)), KV (ns.map fun z => ((Sum.inl z.1 : Key), V.int z.2)) vs → Pairs (mixKind P w) es vs →
    ReadsAll h (es.map (·.key)) ((ns.map fun z => (PyData.int z.1, PyData.int z.2)).map (·.1)) [] ∧ ReadsAll h (es.map (·.val)) ((ns.map fun z => (PyData.int z.1, PyData.int z.2)).map (·.2)) []
  | [], es, vs, r, p => by
    rw [List.map_nil] at r
    cases r
    cases p
    exact ⟨.nil, .nil⟩
  | z :: ns, es, vs, r, p => by
    rw [List.map_cons] at r
    cases r with
    | cons h1 h2 =>
      cases p with
      | @cons e kv es' kvs' k1 k2 k3 =>
        obtain ⟨q1, q2⟩ := rd_pairs (h := h) ns es' _ h2 k3
        obtain ⟨e1, t, e2⟩ := h1
        rw [← e1] at k1
        rcases keyIs_shape (show keyIs (Sum.inl z.1) e.key = true from k1) with ⟨i, t', ei, ek⟩ | ⟨x, t', ei, ek⟩
        · cases ei
          refine ⟨?_, ?_⟩
          · have a := ReadsAll.cons (h := h) (Reads.int z.1 t') q1
            show ReadsAll h (e.key :: es'.map (·.key)) _ []
            rw [ek]
            exact a
          · have a := ReadsAll.cons (h := h) (Reads.int z.2 t) q2
            show ReadsAll h (e.val :: es'.map (·.val)) _ []
            rw [k2, e2]
            exact a
        · cases ei
section
variable {X : Cx} {pins : List (Addr × Obj)} {σ : L2.St} {H : Hp} {s : Shared}
mutual
theorem Dt.reads (I : Inv X pins σ H s) : ∀ (d : PyData) (v : V) (u : Value), Dt X.K H v d → RelV v u → ∃ as, Reads s.heap u d as ∧ sysModules ∉ as
  | .none, _, _, h, r => by
    cases h
    cases r
    exact ⟨_, Reads.none, by simp⟩
  | .bool b, _, _, h, r => by
    cases h
    cases r
    exact ⟨_, Reads.bool b, by simp⟩
  | .int i, _, _, h, r => by
    cases h
    obtain ⟨t, rfl⟩ := r
    exact ⟨_, Reads.int i t, by simp⟩
  | .str x, _, _, h, r => by
    cases h
    obtain ⟨t, rfl⟩ := r
    exact ⟨_, Reads.str x t, by simp⟩
  | .list ds, _, _, h, r => by cases h
  | .tuple ds, _, _, h, r => by
    cases h with
    | tup hs ha =>
      cases r
      obtain ⟨its, rv, ⟨o, ho, hc, n, hd⟩, _⟩ := I.tuple hs
      obtain ⟨as, hr, hn⟩ := Dt.readsAll I ds _ its ha rv
      exact ⟨_, Reads.tuple ho hc hd hr, hn⟩
  | .dict kvs, _, _, h, r => by
    generalize ek : kvs = kk at h
    cases h with
    | @dct a ns e =>
      cases r
      obtain ⟨_, hy, vs, kv, o, es, ep, ho, hx, hd, _, prs, _⟩ := I.hok a _ e
      obtain ⟨q1, q2⟩ := rd_pairs (h := s.heap) ns es.toList vs kv prs
      refine ⟨_, Reads.dict ho hx.1 hd q1 q2, ?_⟩
      intro z
      have z2 : sysModules = a := by simpa using z
      rw [z2] at hy
      simp at hy
theorem Dt.readsAll (I : Inv X pins σ H s) : ∀ (ds : List PyData) (vs : List V) (us : List Value), DtAll X.K H vs ds → Vals vs us → ∃ as, ReadsAll s.heap us ds as ∧ sysModules ∉ as
  | [], _, _, h, r => by
    cases h
    cases r
    exact ⟨_, ReadsAll.nil, by simp⟩
  | d :: ds, _, _, h, r => by
    cases h with
    | cons h1 h2 =>
      cases r with
      | cons r1 r2 =>
        obtain ⟨as, q1, n1⟩ := Dt.reads I d _ _ h1 r1
        obtain ⟨bs, q2, n2⟩ := Dt.readsAll I ds _ _ h2 r2
        exact ⟨_, ReadsAll.cons q1 q2, fun z => (List.mem_append.mp z).elim n1 n2⟩
end
end
/-- data of either sort -/
def Dd (K : PySem.W.Frag) (H : Hp) (v : V) (d : PyData) : Prop := Dp K H v d ∨ Dt K H v d
def uReprD (K : PySem.W.Frag) : List V → Hp → VK → Prop := fun xs H Q => ∃ v d, xs = [v] ∧ Dd K H v d ∧ d.showable = true ∧ d.depth ≤ 60 ∧ (Dp K H v d → d.hasDict = false) ∧ d.shown.length ≤ sizeLine ∧ Q (.str d.shown) H
theorem call_reprT {X : Cx} (hG : X.A.guards = some []) (hu : X.A.units + 64 < cLine) : CallR X (.builtin "repr") (uReprD X.K) := by
  intro pins s σ H xs us Q I r h
  obtain ⟨v, d, rfl, hd, hs, hdp, hnd, hz, q⟩ := h
  cases r with
  | cons ru rn =>
    rename_i u us'
    cases rn
    obtain ⟨as, rd, hsm⟩ : ∃ as, Reads s.heap u d as ∧ (d.hasDict = true → sysModules ∉ as) := by
      rcases hd with hd | hd
      · obtain ⟨as, rd⟩ := Dp.reads I d v u hd ru
        exact ⟨as, rd, fun z => by rw [hnd hd] at z; cases z⟩
      · obtain ⟨as, rd, n⟩ := Dt.reads I d v u hd ru
        exact ⟨as, rd, fun _ => n⟩
    have fin : ∀ h' uu tk, (∀ b o, s.heap.get? b = some o → h'.get? b = some o) → EP X pins σ Q (.str d.shown uu) { s with heap := h', toks := tk } := fun h' uu tk hk => ⟨.str d.shown, H, I.kept (t' := tk) hk, ⟨uu, rfl⟩, q⟩
    cases u with
    | ref a => exact repr_of_reads' rd hs hsm hG (by omega) (fun _ _ e => e) fin hz
    | none =>
      cases rd
      exact P.repr_of_none (fin s.heap _ _ fun _ _ e => e)
    | bool b =>
      cases rd
      exact P.repr_of_bool (fin s.heap _ _ fun _ _ e => e)
    | int i t =>
      cases rd
      exact P.repr_of_int (by simpa [PyData.showable] using hs) (fin s.heap _ _ fun _ _ e => e)
    | str z t =>
      cases rd
      exact P.repr_of_str (fin s.heap _ _ fun _ _ e => e) hz
    | _ => cases rd
end Fk
/-! ## more loops -/
namespace Fk
open PySem PySem.Spec PyProof.Rows L2
section
variable {K : PySem.W.Frag} {D : Ends} {σ : L2.St} {H : Hp} {g : TG} {tb : TS} {a : Addr} {xs : List V}
theorem r_iEnumL {tA : TA} {R : It → Hp → Prop} (h : tA σ H fun vs H1 => ∃ a xs, vs = [.ref a] ∧ SqL K H1 a xs ∧ R (Ite K a) H1) : iEnumA K tA σ H R := .inl h
theorem drop_cons {xs : List V} {i : Nat} {x : V} (hi : xs[i]? = some x) : xs.drop i = x :: xs.drop (i + 1) := by
  obtain ⟨hl, e⟩ := List.getElem?_eq_some_iff.mp hi
  rw [← e, List.drop_eq_getElem_cons hl]
theorem f_enumL (hx : SqL K H a xs) (Pv : Nat → List V → L2.St → Hp → Prop) (h0 : Pv 0 xs σ H) (keep : ∀ i r σ H, Pv i r σ H → SqL K H a xs)
    (step : ∀ (i : Nat) x r T σ H, Pv i (x :: r) σ H → H T = none → g (.ref T) σ (upd H T (.tup [.int (i : Int), x])) fun σ2 H2 => tb { D with nx := Pv (i + 1) r, ct := Pv (i + 1) r, bk := D.nx } σ2 H2)
    (done : ∀ i σ H, Pv i [] σ H → D.nx σ H) :
    ∃ a' xs', [V.ref a] = [.ref a'] ∧ SqL K H a' xs' ∧ ∃ W : Nat → Nat → L2.St → Hp → Prop, (∃ m, W 0 m σ H) ∧ ∀ i m σ H, W i m σ H →
      ((Ite K a').stop i H ∧ D.nx σ H) ∨ ((Ite K a').go i H ∧ ∃ N : L2.St → Hp → Prop, (∀ σ' H', N σ' H' → ∃ m', m' < m ∧ W (i + 1) m' σ' H') ∧ ∀ x H', (Ite K a').yld i H x H' → g x σ H' fun σ2 H2 => tb { D with nx := N, ct := N, bk := D.nx } σ2 H2) := by
  refine ⟨a, xs, rfl, hx, fun i m σ H => m = xs.length - i ∧ i ≤ xs.length ∧ Pv i (xs.drop i) σ H, ⟨xs.length, by simp, Nat.zero_le _, by simpa using h0⟩, ?_⟩
  rintro i m σ H ⟨rfl, hi, p⟩
  have hq := keep _ _ _ _ p
  by_cases hlt : i < xs.length
  · have e : xs[i]? = some xs[i] := List.getElem?_eq_getElem hlt
    refine .inr ⟨⟨xs, xs[i], hq, e⟩, Pv (i + 1) (xs.drop (i + 1)), fun σ' H' p' => ⟨xs.length - (i + 1), by omega, rfl, hlt, p'⟩, ?_⟩
    rintro x H' ⟨T, y, rfl, hT, rfl, hy⟩
    have ey := hy xs hq
    rw [drop_cons ey] at p
    exact step i y _ T σ H p hT
  · have e : i = xs.length := by omega
    subst e
    rw [List.drop_length] at p
    exact .inl ⟨⟨xs, hq, Nat.le_refl _⟩, done _ σ H p⟩
end
theorem f_mul2 {K : PySem.W.Frag} {H : Hp} {Q : VK} {l : Addr} {xs : List V} {k : Nat} (hl : H l = some (.lst xs)) (hk : k ≤ 1000) (hz : xs.length ≤ 1000) (h : ∀ p, H p = none → Q (.ref p) (upd H p (.lst (List.replicate k xs).flatten))) :
    uMul K (.ref l) (.int (k : Int)) H Q := by
  refine .inr ⟨l, k, xs, rfl, rfl, hl, by omega, by omega, ?_, ?_⟩
  · have : xs.length * k ≤ 1000 * 1000 := Nat.mul_le_mul hz hk
    rw [Int.toNat_natCast]
    exact Nat.le_trans this (by decide)
  · rw [Int.toNat_natCast]
    exact h
/-- comprehensions over range(n) -/
theorem lc_rng {g : TG} {tt : TT} {te : TE} {vs : List Nat} {σ : L2.St} {H1 : Hp} {D : Addr} {Qd : Hp → Prop} {n : Nat} (σ0 : L2.St) (hw : wipe σ vs = σ0) (Pv : Nat → Hp → Prop) (h0 : Pv 0 (upd H1 D (.lst [])))
    (hs : ∀ i H, i < n → Pv i H → g (.int (i : Int)) σ0 H fun σ2 H2 => wipe σ2 vs = σ0 ∧ tt σ2 H2 fun b H3 =>
      if b = true then te σ2 H3 fun y H4 => ∃ acc, H4 D = some (.lst acc) ∧ acc.length < sizeLine ∧ Pv (i + 1) (upd H4 D (.lst (acc ++ [y]))) else Pv (i + 1) H3) (hd : ∀ H, Pv n H → Qd H) :
    ∃ W : Nat → Nat → Hp → Prop, (∃ m, W 0 m (upd H1 D (.lst []))) ∧ ∀ i m H, W i m H →
      ((Itr 0 n).stop i H ∧ Qd H) ∨ ((Itr 0 n).go i H ∧ ∃ Nx : Hp → Prop, (∀ H', Nx H' → ∃ m', m' < m ∧ W (i + 1) m' H') ∧ ∀ x H', (Itr 0 n).yld i H x H' → g x (wipe σ vs) H' fun σ2 H2 => wipe σ2 vs = wipe σ vs ∧ tt σ2 H2 fun b H3 =>
        if b = true then te σ2 H3 fun y H4 => ∃ acc, H4 D = some (.lst acc) ∧ acc.length < sizeLine ∧ Nx (upd H4 D (.lst (acc ++ [y]))) else Nx H3) := by
  subst hw
  refine lc_range (lo := 0) (n := n) (σ := σ) (vs := vs) Pv h0 (fun i H hi p => ?_) hd
  rw [Int.zero_add]
  exact hs i H hi p
end Fk
/-! ## more rules: a tuple turned about; slices; in -/
namespace Fk
open PySem PySem.Spec PyProof.Rows L2
theorem rev_pick (xs : Array Value) : ((List.range xs.size).filterMap fun (m : Nat) => xs[(((xs.size : Int) - 1) + (m : Int) * (-1)).toNat]?).toArray = xs.toList.reverse.toArray := by
  have e : (List.range xs.size).filterMap (fun (m : Nat) => xs[(((xs.size : Int) - 1) + (m : Int) * (-1)).toNat]?) = ((List.range xs.size).map fun k => xs.size - 1 - k).filterMap (xs[·]?) := by
    rw [List.filterMap_map]
    have e1 : (fun (m : Nat) => xs[(((xs.size : Int) - 1) + (m : Int) * (-1)).toNat]?) = ((fun x => xs[x]?) ∘ fun k => xs.size - 1 - k) := by
      funext m
      have e2 : (((xs.size : Int) - 1) + (m : Int) * (-1)).toNat = xs.size - 1 - m := by omega
      show xs[_]? = xs[xs.size - 1 - m]?
      rw [e2]
    rw [e1]
  rw [e, PySem.W.krv_range, List.filterMap_reverse, PySem.W.krv_all]
section
variable {prog : Program} {w : World} {A : Around} {E : Value → Shared → Prop} {s : Shared}
theorem sliceApplied_rev {sl : Addr} {t : Tok} {n : Nat} {Q : Int × Int × Nat → Shared → Prop} (hs : s.heap.IsSliceOf sl .none .none (.int (-1) t))
    (h : Q ((n : Int) - 1, -1, n) s) : wpAny (model prog w) A (Builtin.Slice.sliceApplied (.ref sl) (pure (n : Int))) Q E s := by
  obtain ⟨os, hos, hcs, hds⟩ := id hs
  unfold Builtin.Slice.sliceApplied Builtin.Slice.sliceFields
  refine wpAny_bind (wpAny_bind (wpAny_field hos hds (x := .none) rfl (wpAny_bind (wpAny_field hos hds (x := .none) rfl (wpAny_bind (wpAny_field hos hds (x := .int (-1) t) rfl (wpAny_pure ?_)))))))
  refine wpAny_bind (HT.slicePart_ (IsPart.int _ _) ?_)
  show wpAny _ _ (if ((-1 : Int) == 0) = true then _ else _) _ _ s
  rw [if_neg (by decide)]
  refine wpAny_bind (HT.slicePart_ .none (wpAny_bind (HT.slicePart_ .none (wpAny_bind (wpAny_pure ?_)))))
  have e1 : Builtin.Slice.sliceAdjust none none (-1) (n : Int) = ((n : Int) - 1, -1) := rfl
  show wpAny _ _ (match Builtin.Slice.sliceAdjust none none (-1) (n : Int) with | (lo, hi) => pure (lo, (-1 : Int), Builtin.Slice.slicePlaces lo hi (-1))) _ _ s
  rw [e1]
  have e2 : Builtin.Slice.slicePlaces ((n : Int) - 1) (-1) (-1) = n := by
    unfold Builtin.Slice.slicePlaces
    rw [if_neg (by decide)]
    by_cases c : (n : Int) - 1 > -1
    · rw [if_pos c, show (- -1 : Int) = 1 by decide, Int.ediv_one]
      omega
    · rw [if_neg c]
      omega
  show wpAny _ _ (pure ((n : Int) - 1, (-1 : Int), Builtin.Slice.slicePlaces ((n : Int) - 1) (-1) (-1))) _ _ s
  rw [e2]
  exact wpAny_pure h
theorem getItem_tuple_rev {t sl : Addr} {tk : Tok} {items : Array Value} {Q : Value → Shared → Prop} (ht : IsTup s.heap t items) (hs : s.heap.IsSliceOf sl .none .none (.int (-1) tk))
    (h : Q (.ref s.heap.objs.size) { s with heap := s.heap.push { cls := .type "tuple", data := .seq items.toList.reverse.toArray } })
    (hsz : items.size ≤ sizeLine) : wpAny (model prog w) A (getItem (.ref t) (.ref sl)) Q E s := by
  have htake : sizeOk (.seq items.toList.reverse.toArray) := by
    show items.toList.reverse.toArray.size ≤ sizeLine
    rw [List.size_toArray, List.length_reverse, Array.length_toList]
    exact hsz
  obtain ⟨os, hos, hcs, hds⟩ := id hs
  have hTs : s.TypeIs (.ref sl) "slice" := ⟨os, hos, hcs⟩
  unfold getItem
  try with_reducible refine wpAny_holding ?_
  first | refine wpAny_bind (wpAny_pure ?_) | skip
  refine wpAny_bind (wpAny_sequenceKey ht.typeIs (by decide) ?_)
  refine wpAny_bind (wpAny_callSpecial?_slot (name := Str.ofString "__getitem__") ht.typeIs PyProof.Rows.slot_tuple_getitem
    (wpAny_call_entry PyProof.Rows.slot_tuple_getitem ht.typeIs entry_tuple_getitem ?_ (args_tuple_getitem _ _)))
  show wpAny _ _ (Builtin.Tuple.tupleItemsOf (.ref t) >>= _) _ _ s
  refine wpAny_bind (tupleItemsOf_ ht ?_)
  refine wpAny_bind (wpAny_typeOf hTs ?_)
  rw [if_pos (by decide)]
  refine wpAny_bind (sliceApplied_rev hs ?_)
  show wpAny _ _ (if ((((items.size : Int) - 1) == 0) && (-1 : Int) == 1 && items.size == items.size) = true then _ else _) _ _ s
  rw [if_neg (by rw [show ((-1 : Int) == 1) = false from rfl, Bool.and_false, Bool.false_and]; exact Bool.false_ne_true), rev_pick]
  first
    | exact wpAny_bind (m := Builtin.Tuple.tupleExact _) (wpAny_newObj_type (wpAny_pure ⟨_, rfl, wpAny_pure h⟩) htake)
    | exact wpAny_bind (m := Builtin.Tuple.tupleExact _) (wpAny_newObj_type (wpAny_bind (wpAny_pure (wpAny_pure ⟨_, rfl, wpAny_pure h⟩))) htake)
    | exact wpAny_bind (wpAny_bind (m := Builtin.Tuple.tupleExact _) (wpAny_newObj_type (wpAny_pure (wpAny_pure ⟨_, rfl, wpAny_pure h⟩)) htake))
    | exact wpAny_bind (wpAny_bind (m := Builtin.Tuple.tupleExact _) (wpAny_newObj_type (wpAny_pure ⟨_, rfl, wpAny_pure h⟩) htake))
end
section
variable {X : Cx}
def tRevT (K : PySem.W.Frag) (te : TE) : TE := fun σ H Q => te σ H fun x H1 => ∃ a xs, x = .ref a ∧ SqT K H1 a xs ∧ ∀ p, H1 p = none → Q (.ref p) (upd H1 p (.tup xs.reverse))
theorem pe_revT {e : Expr} {te : TE} {k : Nat} {p1 p2 p3 pos : Pos} (he : PE X e te) : PE X (.Subscript e (.Slice none none (some (.UnaryOp .USub (.Constant (.int 1) k p1) p2)) p3) pos) (tRevT X.K te) := by
  refine ⟨fun pins s σ H Q I h => ?_⟩
  refine Subscript_ (thn (he.run pins s σ H _ I h) fun v s1 ⟨x, H1, I1, r1, q1⟩ => ?_)
  obtain ⟨a, xs, ex, hx, q⟩ := q1
  subst ex
  cases r1
  have hst : PO X (some (.UnaryOp .USub (.Constant (.int 1) k p1) p2)) (tPart (tUn (rU fun i => .int (-i)) (tC (.int 1)))) := po_some (pe_un un_neg pe_int)
  refine wpAny_Slice (thn (po_none.run pins s1 σ H1 (fun o H2 => o = none ∧ H2 = H1) I1 ⟨rfl, rfl⟩) fun vl s2 ⟨l, H2, I2, pl, el, e2⟩ => ?_)
  subst el e2
  refine thn (po_none.run pins s2 σ H2 (fun o H3 => o = none ∧ H3 = H2) I2 ⟨rfl, rfl⟩) fun vu s3 ⟨u, H3, I3, pu, eu, e3⟩ => ?_
  subst eu e3
  refine thn (hst.run pins s3 σ H3 (fun o H4 => o = some (-1) ∧ H4 = H3) I3 ⟨1, rfl, -1, rfl, rfl, rfl⟩) fun vs s4 ⟨o, H4, I4, ps, eo, e4⟩ => ?_
  subst eo e4
  cases pl
  cases pu
  cases ps with
  | int _ tk =>
  have I5 : Inv X pins σ H4 { s4 with heap := s4.heap.push { cls := .type "slice", data := .fields #[.none, .none, .int (-1) tk] } } := I4.kept (t' := s4.toks) fun b ob q => Heap.get?_push_of_some _ q
  obtain ⟨its, r, ht, hz⟩ := I5.tuple hx
  have hlen := r.length
  show wpAny (model X.prog X.w) X.A (subscriptTail e (.Slice none none (some (.UnaryOp .USub (.Constant (.int 1) k p1) p2)) p3) (.ref a) (.ref s4.heap.objs.size)) (EP X pins σ Q) X.xe { s4 with heap := s4.heap.push { cls := .type "slice", data := .fields #[.none, .none, .int (-1) tk] } }
  refine tail_any (ops := [.ref a, .ref s4.heap.objs.size]) ht.typeIs PyProof.Rows.slot_tuple_getitem.lookup ?_ (by with_unfolding_all rfl)
  refine getItem_tuple_rev ht (Heap.IsSliceOf.new ..) ?_ (by rw [List.size_toArray]; omega)
  refine ⟨.ref _, _, I5.laid (t' := s4.toks) (o := .tup xs.reverse) (fun b ob q => Heap.get?_push_of_some _ q) (Nat.le_refl _) ?_, rfl, q _ (I5.hok.fresh (Nat.le_refl _))⟩
  exact ⟨by rw [List.length_reverse]; exact hz, its.reverse, r.reverse, ⟨_, Heap.get?_push_size _ rfl, rfl, _, rfl⟩⟩
def uRev (K : PySem.W.Frag) (te : TE) : TE := fun σ H Q => tRevL K te σ H Q ∨ tRevT K te σ H Q
theorem pe_rev {e : Expr} {te : TE} {k : Nat} {p1 p2 p3 pos : Pos} (he : PE X e te) : PE X (.Subscript e (.Slice none none (some (.UnaryOp .USub (.Constant (.int 1) k p1) p2)) p3) pos) (uRev X.K te) := pe_or (pe_revL he) (pe_revT he)
def uSl (K : PySem.W.Frag) : V → Option Int → Option Int → Hp → VK → Prop := fun x lo hi H Q => rSlL K x lo hi H Q ∨ (rSlA K x lo hi H Q ∨ rSlS x lo hi H Q)
theorem sl_any : SlR X (uSl X.K) := sl_list.or (sl_tupA.or sl_str)
def uList (K : PySem.W.Frag) : List V → Hp → VK → Prop := fun xs H Q => ∃ p ys, xs = [.ref p] ∧ (SqL K H p ys ∨ SqT K H p ys) ∧ ∀ l, H l = none → Q (.ref l) (upd H l (.lst ys))
def uTuple (K : PySem.W.Frag) : List V → Hp → VK → Prop := fun xs H Q => ∃ p ys, xs = [.ref p] ∧ ((SqL K H p ys ∧ ∀ l, H l = none → Q (.ref l) (upd H l (.tup ys))) ∨ (SqT K H p ys ∧ Q (.ref p) H))
def uTIndex (K : PySem.W.Frag) : V → List V → Hp → VK → Prop := fun x xs H Q => ∃ p, ∃ ys : List Str, ∃ z j, x = .ref p ∧ xs = [.str z] ∧ SqT K H p (ys.map V.str) ∧ ys[j]? = some z ∧ (∀ m, m < j → ys[m]? ≠ some z) ∧ Q (.int (j : Nat)) H
theorem o_in (hu : X.A.units + 64 < cLine) : OpR X (compareOp .In) (rIn X.K false) := op_in_seq
theorem o_nin (hu : X.A.units + 64 < cLine) : OpR X (compareOp .NotIn) (rIn X.K true) := op_notIn_seq
end
section
variable {X : Cx}
def uAddB (K : PySem.W.Frag) : R2 := fun x y H Q => uAdd K x y H Q ∨ ∃ a i, x = .bl a ∧ y = .int i ∧ Q (.int ((if a = true then (1 : Int) else 0) + i)) H
def uSubB : R2 := fun x y H Q => uSub x y H Q ∨ ∃ a i, x = .bl a ∧ y = .int i ∧ Q (.int ((if a = true then (1 : Int) else 0) - i)) H
theorem op_addBI : OpR X (binaryOp .Add) (fun x y H Q => ∃ a i, x = .bl a ∧ y = .int i ∧ Q (.int ((if a = true then (1 : Int) else 0) + i)) H) := by
  intro pins s σ H x y v u Q I rx ry h
  obtain ⟨a, i, rfl, rfl, q⟩ := h
  cases rx
  obtain ⟨t, rfl⟩ := ry
  exact PySem.IntBool.add_bool_int ⟨.int _, H, I.tok _, ⟨_, rfl⟩, q⟩
theorem op_subBI : OpR X (binaryOp .Sub) (fun x y H Q => ∃ a i, x = .bl a ∧ y = .int i ∧ Q (.int ((if a = true then (1 : Int) else 0) - i)) H) := by
  intro pins s σ H x y v u Q I rx ry h
  obtain ⟨a, i, rfl, rfl, q⟩ := h
  cases rx
  obtain ⟨t, rfl⟩ := ry
  exact PySem.IntBool.sub_bool_int ⟨.int _, H, I.tok _, ⟨_, rfl⟩, q⟩
theorem o_addB : OpR X (binaryOp .Add) (uAddB X.K) := o_add.or op_addBI
theorem o_subB : OpR X (binaryOp .Sub) uSubB := o_sub.or op_subBI
end
theorem units65 {k : Nat} {A : Around} (r : Room k A) : A.units + 65 < cLine := by
  have := r.un
  omega
/-! ### tuples of the top: plain objects -/
def plainT (K : PySem.W.Frag) (x : Str) : Bool := match K.lookup (He.ga K x) with
  | some ⟨.type c, none, _, _⟩ => decide (c = "tuple")
  | _ => false
theorem plainT_ok {K : PySem.W.Frag} {x : Str} (h : plainT K x = true) (H : Hp) : tyV K "tuple" (.ref (He.ga K x)) H := by
  unfold plainT at h
  cases q : K.lookup (He.ga K x) with
  | none =>
    rw [q] at h
    cases h
  | some o =>
    obtain ⟨oc, od, dt, osl⟩ := o
    rw [q] at h
    cases oc with
    | type c =>
      cases od with
      | none =>
        have e : c = "tuple" := of_decide_eq_true h
        subst e
        exact .inr (.inl ⟨rfl, _, q, rfl, rfl⟩)
      | some _ => cases h
    | _ => cases h
end Fk
/-! ## runs of more rules -/
namespace Fk
open PySem PySem.Spec PyProof.Rows L2
/-! ### runs -/
section
variable {K : PySem.W.Frag} {H : Hp} {Q : VK} {σ : L2.St} {a b p : Addr} {xs ys : List V} {v u x : V}
theorem ty_tup (h : SqT K H a xs) : TyX K H (.ref a) (.type "tuple") := by
  rcases h with (e | ⟨o, e⟩) | ⟨o, its, n, e, c, _⟩
  · exact .base (.tup e)
  · exact .fTuple e
  · exact .kTuple e c
theorem ty_lst (h : SqL K H a xs) : TyX K H (.ref a) (.type "list") := by
  rcases h with (e | ⟨o, e⟩) | ⟨o, its, n, e, c, _⟩
  · exact .base (.lst e)
  · exact .base (.frz e)
  · exact .kList e c
theorem r_sl {r : V → Option Int → Option Int → Hp → VK → Prop} {te : TE} {tl th : TO} (h : te σ H fun x H1 => tl σ H1 fun l H2 => th σ H2 fun u H3 => r x l u H3 Q) : tSl r te tl th σ H Q := h
theorem r_part {te : TE} {P : Option Int → Hp → Prop} (h : te σ H fun x H1 => ∃ i, x = .int i ∧ P (some i) H1) : tPart te σ H P := h
theorem r_pint {i : Int} {P : Int → Prop} (h : P i) : ∃ j, V.int i = .int j ∧ P j := ⟨i, rfl, h⟩
theorem r_nopart {P : Option Int → Hp → Prop} (h : P none H) : tNoPart σ H P := h
theorem r_slT {lo hi : Option Int} (hx : SqT K H a xs) (hw : ¬ (HT.sIx xs.length 0 lo = 0 ∧ HT.sIx xs.length xs.length hi = xs.length)) (hc : cutV xs lo hi = ys) (h : ∀ p, H p = none → Q (.ref p) (upd H p (.tup ys))) : uSl K (.ref a) lo hi H Q :=
  .inr (.inl ⟨a, xs, rfl, hx, fun z => absurd z hw, fun _ p hp => by rw [hc]; exact h p hp⟩)
theorem r_revT {te : TE} (h : te σ H fun x H1 => ∃ a xs, x = .ref a ∧ SqT K H1 a xs ∧ ∀ p, H1 p = none → Q (.ref p) (upd H1 p (.tup xs.reverse))) : uRev K te σ H Q := .inr h
theorem r_nin {p : Addr} (hs : SqT K H p xs) (fx : flatV x = true) (fs : xs.all flatV = true) (h : Q (.bl (!inV x xs)) H) : rIn K true x (.ref p) H Q := ⟨p, xs, rfl, .inr hs, fx, fs, h⟩
theorem r_in {p : Addr} (hs : SqT K H p xs) (fx : flatV x = true) (fs : xs.all flatV = true) (h : Q (.bl (inV x xs)) H) : rIn K false x (.ref p) H Q := ⟨p, xs, rfl, .inr hs, fx, fs, h⟩
theorem r_catT (ha : SqT K H a [v]) (hb : SqT K H b ys) (hz : ys.length ≤ 1000) (h : ∀ H' p, Ex H H' → SqT K H' p (v :: ys) → Q (.ref p) H') : uAdd K (.ref a) (.ref b) H Q := by
  refine .inr (.inr (.inr ⟨a, b, [v], ys, rfl, rfl, ha, hb, ?_, (fun z => nomatch z), fun _ z => ?_, fun _ _ p hp => ?_⟩))
  · rw [List.length_singleton]
    exact Nat.le_trans (by omega : 1 + ys.length ≤ 1001) (by decide)
  · subst z
    exact h H a Ex.rf ha
  · exact h _ p (Ex.rf.up hp) (SqT.of upd_same)
theorem r_eqB {c d : Bool} (h : Q (.bl (decide (c = d))) H) : uEq K (.bl c) (.bl d) H Q := by
  refine .inl ⟨rfl, ?_⟩
  have e : decide ((V.bl c) = V.bl d) = decide (c = d) := by cases c <;> cases d <;> rfl
  show Q (.bl (decide ((V.bl c) = V.bl d))) H
  rw [e]
  exact h
theorem r_neB {c d : Bool} (h : Q (.bl (!decide (c = d))) H) : uNe K (.bl c) (.bl d) H Q := by
  refine .inl ⟨rfl, ?_⟩
  have e : decide ((V.bl c) = V.bl d) = decide (c = d) := by cases c <;> cases d <;> rfl
  show Q (.bl (!decide ((V.bl c) = V.bl d))) H
  rw [e]
  exact h
theorem r_neSame {d : PyData} {v u : V} (hd : Dp K H v d) (he : Dp K H u d) (sd : SeqAt.shaped d = true) (h : Q (.bl false) H) : uNe K v u H Q := by
  refine r_neD hd he sd sd ?_
  rw [SeqAt.eqv_refl _ (SeqAt.canLay_of_shaped sd)]
  exact h
theorem r_all {bs : List Bool} (hs : SqL K H a (bs.map V.bl)) (h : Q (.bl (bs.all id)) H) : rAll K [.ref a] H Q := ⟨a, bs, rfl, hs, h⟩
theorem r_yes {QB : Bool → Hp → Prop} (h : QB true H) : tYes σ H QB := h
theorem r_NT {A B : Prop} (h : B) : if (!true) = true then A else B := h
theorem r_NF {A B : Prop} (h : A) : if (!false) = true then A else B := h
theorem r_isN (h : Q (.bl (decide (v = .non))) H) : uIsN v .non H Q := .inl ⟨rfl, h⟩
theorem r_nisN (h : Q (.bl (!decide (v = .non))) H) : uNotN v .non H Q := .inl ⟨rfl, h⟩
theorem r_nisB {c d : Bool} (h : Q (.bl (!decide (c = d))) H) : uNotN (.bl c) (.bl d) H Q := .inr ⟨c, d, rfl, rfl, h⟩
end
/-! ### zip of two tuples -/
section
variable {K : PySem.W.Frag} {D : Ends} {σ : L2.St} {H H1 : Hp} {g : TG} {tb : TS} {te : TE} {a b Dd : Addr} {zs : List (V × V)} {vs : List Nat} {Qd : Hp → Prop}
theorem r_iZip {tA : TA} {R : It → Hp → Prop} (h : tA σ H fun vs H1 => ∃ a b xs ys, vs = [.ref a, .ref b] ∧ ((SqL K H1 a xs ∧ SqL K H1 b ys ∧ R (Itz K a b) H1) ∨ (SqT K H1 a xs ∧ SqT K H1 b ys ∧ R (RZ.ItzT K a b) H1))) : RZ.iZipA K tA σ H R := h
theorem at_fst {i : Nat} {x : V} (h : (zs.map Prod.fst)[i]? = some x) : ∃ y, zs[i]? = some (x, y) := by
  rw [List.getElem?_map] at h
  cases e : zs[i]? with
  | none => rw [e] at h; cases h
  | some z => rw [e] at h; cases h; exact ⟨z.2, rfl⟩
theorem f_zipT (hx : SqT K H a (zs.map Prod.fst)) (hy : SqT K H b (zs.map Prod.snd)) (Pv : List (V × V) → L2.St → Hp → Prop) (h0 : Pv zs σ H) (keep : ∀ r σ H', Pv r σ H' → Ex H H')
    (step : ∀ x y r T σ H, Pv ((x, y) :: r) σ H → H T = none → g (.ref T) σ (upd H T (.tup [x, y])) fun σ2 H2 => tb { D with nx := Pv r, ct := Pv r, bk := D.nx } σ2 H2)
    (done : ∀ σ H, Pv [] σ H → D.nx σ H) :
    ∃ a' b' xs ys, [V.ref a, V.ref b] = [.ref a', .ref b'] ∧ ((SqL K H a' xs ∧ SqL K H b' ys ∧ ∃ W : Nat → Nat → L2.St → Hp → Prop, (∃ m, W 0 m σ H) ∧ ∀ i m σ H, W i m σ H →
      ((Itz K a' b').stop i H ∧ D.nx σ H) ∨ ((Itz K a' b').go i H ∧ ∃ N : L2.St → Hp → Prop, (∀ σ' H', N σ' H' → ∃ m', m' < m ∧ W (i + 1) m' σ' H') ∧ ∀ x H', (Itz K a' b').yld i H x H' → g x σ H' fun σ2 H2 => tb { D with nx := N, ct := N, bk := D.nx } σ2 H2)) ∨
      (SqT K H a' xs ∧ SqT K H b' ys ∧ ∃ W : Nat → Nat → L2.St → Hp → Prop, (∃ m, W 0 m σ H) ∧ ∀ i m σ H, W i m σ H →
      ((RZ.ItzT K a' b').stop i H ∧ D.nx σ H) ∨ ((RZ.ItzT K a' b').go i H ∧ ∃ N : L2.St → Hp → Prop, (∀ σ' H', N σ' H' → ∃ m', m' < m ∧ W (i + 1) m' σ' H') ∧ ∀ x H', (RZ.ItzT K a' b').yld i H x H' → g x σ H' fun σ2 H2 => tb { D with nx := N, ct := N, bk := D.nx } σ2 H2))) := by
  refine ⟨a, b, _, _, rfl, .inr ⟨hx, hy, fun i m σ H' => m = zs.length - i ∧ i ≤ zs.length ∧ Pv (zs.drop i) σ H', ⟨zs.length, by simp, Nat.zero_le _, by simpa using h0⟩, ?_⟩⟩
  rintro i m σ H' ⟨rfl, hi, p⟩
  have ex := keep _ _ _ p
  have qx := Evl.ex_t ex hx
  have qy := Evl.ex_t ex hy
  by_cases hlt : i < zs.length
  · have e : zs[i]? = some zs[i] := List.getElem?_eq_getElem hlt
    have ed : zs.drop i = zs[i] :: zs.drop (i + 1) := List.drop_eq_getElem_cons hlt
    have e1 : (zs.map Prod.fst)[i]? = some zs[i].1 := by rw [List.getElem?_map, e]; rfl
    have e2 : (zs.map Prod.snd)[i]? = some zs[i].2 := by rw [List.getElem?_map, e]; rfl
    refine .inr ⟨⟨_, _, _, _, qx, qy, e1, e2⟩, Pv (zs.drop (i + 1)), fun σ' H' p' => ⟨zs.length - (i + 1), by omega, rfl, hlt, p'⟩, ?_⟩
    rintro x H2 ⟨T, y, z, rfl, hT, rfl, h1, h2⟩
    have f1 := h1 _ qx
    have f2 := h2 _ qy
    rw [e1] at f1
    rw [e2] at f2
    cases f1
    cases f2
    rw [ed] at p
    exact step _ _ _ T σ H' p hT
  · have e : i = zs.length := by omega
    subst e
    rw [List.drop_length] at p
    exact .inl ⟨⟨_, _, qx, qy, .inl (by rw [List.length_map]; exact Nat.le_refl _)⟩, done _ _ p⟩
/-- [te for .. in zip(a, b)] where each turn tells f of the pair -/
theorem lc_zipT (σ0 : L2.St) (hw : wipe σ vs = σ0) (f : V × V → V) (hD : H1 Dd = none) (hz : zs.length ≤ 1000) (hx : SqT K H1 a (zs.map Prod.fst)) (hy : SqT K H1 b (zs.map Prod.snd))
    (hs : ∀ z, z ∈ zs → ∀ T H (Qy : VK), Ex H1 H → H T = none → (∀ H4, Ex H H4 → Qy (f z) H4) → g (.ref T) σ0 (upd H T (.tup [z.1, z.2])) fun σ2 H2 => wipe σ2 vs = σ0 ∧ te σ2 H2 Qy)
    (hd : ∀ H, Ex H1 H → H Dd = some (.lst (zs.map f)) → Qd H) :
    ∃ W : Nat → Nat → Hp → Prop, (∃ m, W 0 m (upd H1 Dd (.lst []))) ∧ ∀ i m H, W i m H →
      ((RZ.ItzT K a b).stop i H ∧ Qd H) ∨ ((RZ.ItzT K a b).go i H ∧ ∃ Nx : Hp → Prop, (∀ H', Nx H' → ∃ m', m' < m ∧ W (i + 1) m' H') ∧ ∀ x H', (RZ.ItzT K a b).yld i H x H' → g x (wipe σ vs) H' fun σ2 H2 => wipe σ2 vs = wipe σ vs ∧ tYes σ2 H2 fun b H3 =>
        if b = true then te σ2 H3 fun y H4 => ∃ acc, H4 Dd = some (.lst acc) ∧ acc.length < sizeLine ∧ Nx (upd H4 Dd (.lst (acc ++ [y]))) else Nx H3) := by
  subst hw
  refine ⟨fun i m H => m = zs.length - i ∧ i ≤ zs.length ∧ Ex H1 H ∧ H Dd = some (.lst ((zs.map f).take i)), ⟨zs.length, by simp, Nat.zero_le _, Ex.rf.up hD, by rw [upd_same, List.take_zero]⟩, ?_⟩
  rintro i m H ⟨rfl, hi, ex, hl⟩
  have qx := Evl.ex_t ex hx
  have qy := Evl.ex_t ex hy
  by_cases hlt : i < zs.length
  · have e : zs[i]? = some zs[i] := List.getElem?_eq_getElem hlt
    have e1 : (zs.map Prod.fst)[i]? = some zs[i].1 := by rw [List.getElem?_map, e]; rfl
    have e2 : (zs.map Prod.snd)[i]? = some zs[i].2 := by rw [List.getElem?_map, e]; rfl
    have em : (zs.map f)[i]? = some (f zs[i]) := by rw [List.getElem?_map, e]; rfl
    refine .inr ⟨⟨_, _, _, _, qx, qy, e1, e2⟩, fun H' => Ex H1 H' ∧ H' Dd = some (.lst ((zs.map f).take (i + 1))), fun H' p' => ⟨zs.length - (i + 1), by omega, rfl, hlt, p'⟩, ?_⟩
    rintro x H2 ⟨T, y, z, rfl, hT, rfl, h1, h2⟩
    have f1 := h1 _ qx
    have f2 := h2 _ qy
    rw [e1] at f1
    rw [e2] at f2
    cases f1
    cases f2
    have q := hs zs[i] (List.getElem_mem hlt) T H (fun y H4 => ∃ acc, H4 Dd = some (.lst acc) ∧ acc.length < sizeLine ∧ (Ex H1 (upd H4 Dd (.lst (acc ++ [y]))) ∧ (upd H4 Dd (.lst (acc ++ [y]))) Dd = some (.lst ((zs.map f).take (i + 1))))) ex hT ?_
    · exact q
    · intro H4 e4
      refine ⟨(zs.map f).take i, e4 _ _ hl, ?_, (ex.trans e4).up2 hD, ?_⟩
      · rw [List.length_take, List.length_map]
        exact Nat.lt_of_lt_of_le (by omega : min i zs.length < 1001) (by decide)
      · rw [upd_same, List.take_add_one, em]
        rfl
  · have e : i = zs.length := by omega
    subst e
    refine .inl ⟨⟨_, _, qx, qy, .inl (by rw [List.length_map]; exact Nat.le_refl _)⟩, hd _ ex ?_⟩
    rw [hl, List.take_of_length_le (by rw [List.length_map]; exact Nat.le_refl _)]
theorem lcz (hx : SqT K H a (zs.map Prod.fst)) (hy : SqT K H b (zs.map Prod.snd)) {P : Hp → It → Addr → Prop} (h : ∀ D, H D = none → P H (RZ.ItzT K a b) D) :
    ∃ a' b' xs ys, [V.ref a, V.ref b] = [.ref a', .ref b'] ∧ ((SqL K H a' xs ∧ SqL K H b' ys ∧ ∀ D, H D = none → P H (Itz K a' b') D) ∨ (SqT K H a' xs ∧ SqT K H b' ys ∧ ∀ D, H D = none → P H (RZ.ItzT K a' b') D)) :=
  ⟨a, b, _, _, rfl, .inr ⟨hx, hy, h⟩⟩
end
section
variable {K : PySem.W.Frag} {H H1 : Hp} {Q : VK} {σ : L2.St} {a b p : Addr} {xs ys : List V} {v u x : V} {g : TG} {te : TE} {Dd : Addr} {vs : List Nat} {Qd : Hp → Prop}
theorem r_eqSame {d : PyData} (hd : Dp K H v d) (he : Dp K H u d) (sd : SeqAt.shaped d = true) (h : Q (.bl true) H) : uEq K v u H Q := by
  refine r_eqD hd he sd sd ?_
  rw [SeqAt.eqv_refl _ (SeqAt.canLay_of_shaped sd)]
  exact h
theorem r_cat (ha : H a = some (.lst xs)) (hb : H b = some (.lst ys)) (hz : xs.length + ys.length ≤ 10000) (h : ∀ p, H p = none → Q (.ref p) (upd H p (.lst (xs ++ ys)))) : uAdd K (.ref a) (.ref b) H Q :=
  .inr (.inr (.inl ⟨a, b, xs, ys, rfl, rfl, ha, hb, Nat.le_trans hz (by decide), h⟩))
theorem r_gLst {n : Nat} {ts : TGs} {QG : L2.St → Hp → Prop} (hs : SqL K H a xs) (hl : xs.length = n) (h : ts xs σ H QG) : gLst K n ts (.ref a) σ H QG := ⟨a, xs, rfl, hs, hl, h⟩
theorem r_indexS {ks : List Str} {k : Str} {j : Nat} (hs : SqL K H a (ks.map V.str)) (sl : SeqAt.shaped (.list (ks.map PyData.str)) = true) (sd : SeqAt.shaped (.str k) = true) (hj : ks[j]? = some k) (hno : ∀ (m : Nat) (z : Str), m < j → ks[m]? = some z → (z == k) = false) (h : Q (.int (j : Nat)) H) : rIndexD K (.ref a) [.str k] H Q := by
  have al : ∀ l : List Str, DpAll K H (l.map V.str) (l.map PyData.str) := fun l => by
    induction l with
    | nil => exact .nil
    | cons x l ih => exact .cons (.str x) ih
  refine ⟨a, .str k, .str k, ks.map PyData.str, j, .str k, rfl, rfl, .lst hs (al ks), .str k, sl, sd, by rw [List.getElem?_map, hj]; rfl, ?_, ?_, h⟩
  · simp only [PyData.eqv, beq_self_eq_true]
  · intro m z' hm hz
    rw [List.getElem?_map] at hz
    cases e : ks[m]? with
    | none => rw [e] at hz; cases hz
    | some z =>
      rw [e] at hz
      cases hz
      simp only [PyData.eqv]
      exact hno m z hm e
/-- [te for x in a list] where each turn tells f of the item -/
theorem lc_lstT (σ0 : L2.St) (hw : wipe σ vs = σ0) (f : V → V) (hD : H1 Dd = none) (hz : xs.length ≤ 1000) (hx : SqL K H1 a xs)
    (hs : ∀ z, z ∈ xs → ∀ H (Qy : VK), Ex H1 H → (∀ H4, Ex H H4 → Qy (f z) H4) → g z σ0 H fun σ2 H2 => wipe σ2 vs = σ0 ∧ te σ2 H2 Qy)
    (hd : ∀ H, Ex H1 H → H Dd = some (.lst (xs.map f)) → Qd H) :
    ∃ W : Nat → Nat → Hp → Prop, (∃ m, W 0 m (upd H1 Dd (.lst []))) ∧ ∀ i m H, W i m H →
      ((Itl K a).stop i H ∧ Qd H) ∨ ((Itl K a).go i H ∧ ∃ Nx : Hp → Prop, (∀ H', Nx H' → ∃ m', m' < m ∧ W (i + 1) m' H') ∧ ∀ x H', (Itl K a).yld i H x H' → g x (wipe σ vs) H' fun σ2 H2 => wipe σ2 vs = wipe σ vs ∧ tYes σ2 H2 fun b H3 =>
        if b = true then te σ2 H3 fun y H4 => ∃ acc, H4 Dd = some (.lst acc) ∧ acc.length < sizeLine ∧ Nx (upd H4 Dd (.lst (acc ++ [y]))) else Nx H3) := by
  subst hw
  refine ⟨fun i m H => m = xs.length - i ∧ i ≤ xs.length ∧ Ex H1 H ∧ H Dd = some (.lst ((xs.map f).take i)), ⟨xs.length, by simp, Nat.zero_le _, Ex.rf.up hD, by rw [upd_same, List.take_zero]⟩, ?_⟩
  rintro i m H ⟨rfl, hi, ex, hl⟩
  have qx := Evl.ex_l ex hx
  by_cases hlt : i < xs.length
  · have e : xs[i]? = some xs[i] := List.getElem?_eq_getElem hlt
    have em : (xs.map f)[i]? = some (f xs[i]) := by rw [List.getElem?_map, e]; rfl
    refine .inr ⟨⟨_, _, qx, e⟩, fun H' => Ex H1 H' ∧ H' Dd = some (.lst ((xs.map f).take (i + 1))), fun H' p' => ⟨xs.length - (i + 1), by omega, rfl, hlt, p'⟩, ?_⟩
    rintro x H2 ⟨rfl, h1⟩
    have f1 := h1 _ qx
    rw [e] at f1
    cases f1
    have q := hs xs[i] (List.getElem_mem hlt) H2 (fun y H4 => ∃ acc, H4 Dd = some (.lst acc) ∧ acc.length < sizeLine ∧ (Ex H1 (upd H4 Dd (.lst (acc ++ [y]))) ∧ (upd H4 Dd (.lst (acc ++ [y]))) Dd = some (.lst ((xs.map f).take (i + 1))))) ex ?_
    · exact q
    · intro H4 e4
      refine ⟨(xs.map f).take i, e4 _ _ hl, ?_, (ex.trans e4).up2 hD, ?_⟩
      · rw [List.length_take, List.length_map]
        exact Nat.lt_of_lt_of_le (by omega : min i xs.length < 1001) (by decide)
      · rw [upd_same, List.take_add_one, em]
        rfl
  · have e : i = xs.length := by omega
    subst e
    refine .inl ⟨⟨_, qx, Nat.le_refl _⟩, hd _ ex ?_⟩
    rw [hl, List.take_of_length_le (by rw [List.length_map]; exact Nat.le_refl _)]
end
end Fk
/-! ## things of any sort, by what they read as -/
namespace Fk
open PySem PySem.Spec PyProof.Rows L2
mutual
theorem dt_mono {K : PySem.W.Frag} {H H' : Hp} (e : Ex H H') : ∀ {v : V} {d : PyData}, Dt K H v d → Dt K H' v d
  | _, _, .non => .non
  | _, _, .bl b => .bl b
  | _, _, .int i => .int i
  | _, _, .str x => .str x
  | _, _, .tup h r => .tup (Evl.ex_t e h) (dtAll_mono e r)
  | _, _, .dct h => .dct (e _ _ h)
theorem dtAll_mono {K : PySem.W.Frag} {H H' : Hp} (e : Ex H H') : ∀ {vs : List V} {ds : List PyData}, DtAll K H vs ds → DtAll K H' vs ds
  | _, _, .nil => .nil
  | _, _, .cons h r => .cons (dt_mono e h) (dtAll_mono e r)
end
theorem dd_mono {K : PySem.W.Frag} {H H' : Hp} {v : V} {d : PyData} (e : Ex H H') (h : Dd K H v d) : Dd K H' v d := h.elim (fun q => .inl (dp_mono e q)) fun q => .inr (dt_mono e q)
/-- the name of the class of what is read -/
def tyD : PyData → String
  | .none => "NoneType"
  | .bool _ => "bool"
  | .int _ => "int"
  | .str _ => "str"
  | .list _ => "list"
  | .tuple _ => "tuple"
  | .dict _ => "dict"
def isD (c : String) : PyData → Bool
  | .none => false
  | .bool _ => c == "bool" || c == "int"
  | .int _ => c == "int"
  | .str _ => c == "str"
  | .list _ => c == "list"
  | .tuple _ => c == "tuple"
  | .dict _ => c == "dict"
section
variable {K : PySem.W.Frag} {H : Hp} {Q : VK} {v : V} {d : PyData}
theorem Dd.ty (h : Dd K H v d) : TyX K H v (.type (tyD d)) := by
  rcases h with h | h
  · cases h with
    | non => exact .base .non
    | bl b => exact .base (.bl b)
    | int i => exact .base (.int i)
    | str x => exact .base (.str x)
    | lst s _ => exact ty_lst s
    | tup s _ => exact ty_tup s
  · cases h with
    | non => exact .base .non
    | bl b => exact .base (.bl b)
    | int i => exact .base (.int i)
    | str x => exact .base (.str x)
    | tup s _ => exact ty_tup s
    | dct e => exact .base (.dK e)
theorem kit_D {c : String} (hc : c = "int" ∨ c = "bool" ∨ c = "str" ∨ c = "tuple") (d : PyData) : kitB (tyD d) c = some (isD c d) := by
  rcases hc with rfl | rfl | rfl | rfl <;> cases d <;> kernel_rfl
theorem r_isD {c : String} (hc : c = "int" ∨ c = "bool" ∨ c = "str" ∨ c = "tuple") (hd : Dd K H v d) (h : Q (.bl (isD c d)) H) : rIsi K [v, .ty c] H Q :=
  r_isi (.ty _) hd.ty (kit_ty (kit_D hc d)) h
/-- a whole number, no truth, from a to b -/
def wiD (d : PyData) (a b : Int) : Bool := match d with
  | .int i => decide (a ≤ i ∧ i ≤ b)
  | _ => false
theorem Dd.int {i : Int} (h : Dd K H v (.int i)) : v = .int i := by
  rcases h with h | h <;> cases h <;> rfl
theorem Dd.bool {b : Bool} (h : Dd K H v (.bool b)) : v = .bl b := by
  rcases h with h | h <;> cases h <;> rfl
theorem Dd.str {x : Str} (h : Dd K H v (.str x)) : v = .str x := by
  rcases h with h | h <;> cases h <;> rfl
inductive DdAll (K : PySem.W.Frag) (H : Hp) : List V → List PyData → Prop
  | nil : DdAll K H [] []
  | cons {v : V} {vs : List V} {d : PyData} {ds : List PyData} : Dd K H v d → DdAll K H vs ds → DdAll K H (v :: vs) (d :: ds)
theorem dpAll_dd : ∀ {vs : List V} {ds : List PyData}, DpAll K H vs ds → DdAll K H vs ds
  | _, _, .nil => .nil
  | _, _, .cons h r => .cons (.inl h) (dpAll_dd r)
theorem dtAll_dd : ∀ {vs : List V} {ds : List PyData}, DtAll K H vs ds → DdAll K H vs ds
  | _, _, .nil => .nil
  | _, _, .cons h r => .cons (.inr h) (dtAll_dd r)
theorem Dd.tuple {ds : List PyData} (h : Dd K H v (.tuple ds)) : ∃ a xs, v = .ref a ∧ SqT K H a xs ∧ DdAll K H xs ds := by
  rcases h with h | h
  · cases h with
    | tup s r => exact ⟨_, _, rfl, s, dpAll_dd r⟩
  · cases h with
    | tup s r => exact ⟨_, _, rfl, s, dtAll_dd r⟩
theorem DdAll.length : ∀ {xs : List V} {ds : List PyData}, DdAll K H xs ds → xs.length = ds.length
  | _, _, .nil => rfl
  | _, _, .cons _ r => by rw [List.length_cons, List.length_cons, r.length]
theorem dp_dd (h : Dp K H v d) : Dd K H v d := .inl h
/-- what the text of data is long -/
structure Sx (k n : Nat) (d : PyData) : Prop where
  dep : d.depth ≤ k
  shw : d.showable = true
  len : d.shown.length ≤ n
theorem Sw.sx {k n : Nat} {d : PyData} (h : Sw k n d) : Sx k n d := ⟨h.dep, h.shw, h.len⟩
structure SxAll (k n : Nat) (ds : List PyData) : Prop where
  dep : PyData.depthAll ds ≤ k
  shw : PyData.showableAll ds = true
  len : ((PyData.shownAll ds).map (·.length)).sum + 2 * (PyData.shownAll ds).length ≤ n
theorem sxa_nil {k : Nat} : SxAll k 0 [] := ⟨Nat.zero_le _, rfl, by simp [PyData.shownAll]⟩
theorem sxa_cons {k n m : Nat} {d : PyData} {ds : List PyData} (h : Sx k n d) (r : SxAll k m ds) : SxAll k (n + 2 + m) (d :: ds) := by
  refine ⟨?_, by simp [PyData.showableAll, h.shw, r.shw], ?_⟩
  · have := h.dep
    have := r.dep
    simp only [PyData.depthAll]
    omega
  · have := h.len
    have := r.len
    simp only [PyData.shownAll, List.map_cons, List.sum_cons, List.length_cons]
    omega
theorem sx_tup {k n : Nat} {ds : List PyData} (h : SxAll k n ds) : Sx (k + 1) (n + 3) (.tuple ds) := by
  refine ⟨by have := h.dep; simp only [PyData.depth]; omega, by simpa [PyData.showable] using h.shw, ?_⟩
  have := tupleText_len_le (PyData.shownAll ds)
  have := h.len
  simp only [PyData.shown]
  omega
theorem sx_lst {k n : Nat} {ds : List PyData} (h : SxAll k n ds) : Sx (k + 1) (n + 3) (.list ds) := by
  refine ⟨by have := h.dep; simp only [PyData.depth]; omega, by simpa [PyData.showable] using h.shw, ?_⟩
  have := listText_len_le (PyData.shownAll ds)
  have := h.len
  simp only [PyData.shown]
  omega
theorem Sx.up {k n k' n' : Nat} {d : PyData} (h : Sx k n d) (hk : k ≤ k') (hn : n ≤ n') : Sx k' n' d := ⟨Nat.le_trans h.dep hk, h.shw, Nat.le_trans h.len hn⟩
mutual
theorem dp_nodict : ∀ {v : V} {d : PyData}, Dp K H v d → d.hasDict = false
  | _, _, .non => by simp only [PyData.hasDict]
  | _, _, .bl _ => by simp only [PyData.hasDict]
  | _, _, .int _ => by simp only [PyData.hasDict]
  | _, _, .str _ => by simp only [PyData.hasDict]
  | _, _, .lst _ r => by simp only [PyData.hasDict]; exact dpAll_nodict r
  | _, _, .tup _ r => by simp only [PyData.hasDict]; exact dpAll_nodict r
theorem dpAll_nodict : ∀ {vs : List V} {ds : List PyData}, DpAll K H vs ds → PyData.hasDictAll ds = false
  | _, _, .nil => by simp only [PyData.hasDictAll]
  | _, _, .cons h r => by simp only [PyData.hasDictAll, dp_nodict h, dpAll_nodict r, Bool.or_false]
end
theorem r_reprD {k n : Nat} (hd : Dd K H v d) (hs : Sx k n d) (hk : k ≤ 60) (hn : n ≤ 16000000) (h : Q (.str d.shown) H) : uReprD K [v] H Q :=
  ⟨v, d, rfl, hd, hs.shw, Nat.le_trans hs.dep hk, dp_nodict, Nat.le_trans hs.len (Nat.le_trans hn (by decide)), h⟩
end
section
variable {K : PySem.W.Frag} {H : Hp} {Q : VK} {m n : Int} {b : Bool} {σ : L2.St}
theorem r_addB (h : Q (.int (m + n)) H) : uAddB K (.int m) (.int n) H Q := .inl (r_add h)
theorem r_subB (h : Q (.int (m - n)) H) : uSubB (.int m) (.int n) H Q := .inl (r_sub h)
theorem r_addBB (h : Q (.int ((if b = true then (1 : Int) else 0) + n)) H) : uAddB K (.bl b) (.int n) H Q := .inr ⟨b, n, rfl, rfl, h⟩
theorem r_subBB (h : Q (.int ((if b = true then (1 : Int) else 0) - n)) H) : uSubB (.bl b) (.int n) H Q := .inr ⟨b, n, rfl, rfl, h⟩
theorem r_un {r : V → Hp → VK → Prop} {te : TE} (h : te σ H fun x H1 => r x H1 Q) : tUn r te σ H Q := h
theorem r_neg {f : Int → V} (h : Q (f m) H) : rU f (.int m) H Q := ⟨m, rfl, h⟩
theorem r_dnew (h : ∀ p, H p = none → Q (.ref p) (upd H p (.dK []))) : tDNewK σ H Q := h
end
/-! ### all but one address -/
def dl (a : Addr) (H : Hp) : Hp := fun b => if b = a then none else H b
theorem dl_ne {a b : Addr} {H : Hp} (n : b ≠ a) : dl a H b = H b := if_neg n
theorem dl_le {a : Addr} {H : Hp} : Ex (dl a H) H := fun b o h => by
  by_cases e : b = a
  · have : dl a H b = none := if_pos e
    rw [this] at h
    cases h
  · rw [dl_ne e] at h
    exact h
theorem dl_ex {a : Addr} {H H' : Hp} (e : Ex H H') : Ex (dl a H) (dl a H') := fun b o h => by
  by_cases q : b = a
  · have : dl a H b = none := if_pos q
    rw [this] at h
    cases h
  · rw [dl_ne q] at h ⊢
    exact e b o h
theorem dl_keep {a : Addr} {H H' : Hp} (k : ∀ b o, b ≠ a → H b = some o → H' b = some o) : Ex (dl a H) (dl a H') := fun b o h => by
  by_cases q : b = a
  · have : dl a H b = none := if_pos q
    rw [this] at h
    cases h
  · rw [dl_ne q] at h ⊢
    exact k b o q h
section
variable {K : PySem.W.Frag} {H : Hp} {Q : VK} {a b : Addr} {xs ys : List V}
theorem dl_sqT {l : List V} (st : H a = some (.lst l)) (h : SqT K H b xs) : SqT K (dl a H) b xs := by
  rcases h with (e | ⟨o, e⟩) | e
  · exact .inl (.inl (by rw [dl_ne (fun q => by rw [q, st] at e; cases e)]; exact e))
  · exact .inl (.inr ⟨o, by rw [dl_ne (fun q => by rw [q, st] at e; cases e)]; exact e⟩)
  · exact .inr e
theorem r_catG (ha : SqT K H a xs) (hb : SqT K H b ys) (hz : xs.length + ys.length ≤ 1000) (h : ∀ H' p, Ex H H' → SqT K H' p (xs ++ ys) → Q (.ref p) H') : uAdd K (.ref a) (.ref b) H Q := by
  refine .inr (.inr (.inr ⟨a, b, xs, ys, rfl, rfl, ha, hb, Nat.le_trans hz (by decide), (fun z => ?_), (fun _ z => ?_), fun _ _ p hp => ?_⟩))
  · subst z
    exact h H b Ex.rf hb
  · subst z
    refine h H a Ex.rf ?_
    rw [List.append_nil]
    exact ha
  · exact h _ p (Ex.rf.up hp) (SqT.of upd_same)
/-- t[lo:hi] of a tuple, whatever it is -/
theorem r_slG {lo hi : Option Int} (hx : SqT K H a xs) (hw : HT.sIx xs.length 0 lo = 0 ∧ HT.sIx xs.length xs.length hi = xs.length → cutV xs lo hi = xs) (h : ∀ H' p, Ex H H' → SqT K H' p (cutV xs lo hi) → Q (.ref p) H') : uSl K (.ref a) lo hi H Q := by
  refine .inr (.inl ⟨a, xs, rfl, hx, fun z => ?_, fun _ p hp => ?_⟩)
  · refine h H a Ex.rf ?_
    rw [hw z]
    exact hx
  · exact h _ p (Ex.rf.up hp) (SqT.of upd_same)
theorem r_list (hs : SqT K H a xs) (h : ∀ l, H l = none → Q (.ref l) (upd H l (.lst xs))) : uList K [.ref a] H Q := ⟨a, xs, rfl, .inr hs, h⟩
end
end Fk
namespace Fk
/-! ## bits: sums without carrying, linear maps -/
theorem or_xor_and (x y : Nat) : x ||| y = (x ^^^ y) + (x &&& y) := by
  induction x using Nat.strongRecOn generalizing y with
  | ind x ih =>
    by_cases hx : x = 0
    · subst hx; simp
    · have i := ih (x / 2) (by omega) (y / 2)
      have h1 := @Nat.or_div_two x y
      have h2 := @Nat.xor_div_two x y
      have h3 := @Nat.and_div_two x y
      have m1 := @Nat.or_mod_two_eq_one x y
      have m2 := @Nat.xor_mod_two_eq_one x y
      have m3 := @Nat.and_mod_two_eq_one x y
      omega
theorem add_xor {a b : Nat} (h : a &&& b = 0) : a + b = a ^^^ b := by
  have h1 : ∀ x y : Nat, x + y = (x ^^^ y) + 2 * (x &&& y) := by
    intro x
    induction x using Nat.strongRecOn with
    | ind x ih =>
      intro y
      by_cases hx : x = 0
      · subst hx; simp
      · have i := ih (x / 2) (by omega) (y / 2)
        have h2 := @Nat.xor_div_two x y
        have h3 := @Nat.and_div_two x y
        have m2 := @Nat.xor_mod_two_eq_one x y
        have m3 := @Nat.and_mod_two_eq_one x y
        omega
  have := h1 a b
  omega
theorem and_shl {a : Nat} {k : Nat} (c : Nat) (h : a < 2 ^ k) : a &&& (c <<< k) = 0 := by
  apply Nat.eq_of_testBit_eq
  intro i
  rw [Nat.testBit_and, Nat.zero_testBit, Nat.testBit_shiftLeft]
  by_cases hi : k ≤ i
  · have : a.testBit i = false := Nat.testBit_lt_two_pow (Nat.lt_of_lt_of_le h (Nat.pow_le_pow_right (by omega) hi))
    simp [this]
  · simp [hi]
theorem add_shl {a : Nat} {k : Nat} (c : Nat) (h : a < 2 ^ k) : a + c <<< k = a ^^^ (c <<< k) := add_xor (and_shl c h)
theorem xor_cancel (a b : Nat) : a ^^^ b ^^^ b = a := by rw [Nat.xor_assoc, Nat.xor_self, Nat.xor_zero]
theorem xor_ne {a b : Nat} (h : a ≠ b) : a ^^^ b ≠ 0 := fun e => h (by
  have := xor_cancel a b
  rw [e, Nat.zero_xor] at this
  exact this.symm)

/-- a map that goes with sums without carrying -/
def Lin (f : Nat → Nat) : Prop := ∀ a b, f (a ^^^ b) = f a ^^^ f b
theorem Lin.zero {f : Nat → Nat} (h : Lin f) : f 0 = 0 := by
  have := h 0 0
  rw [Nat.xor_self, Nat.xor_self] at this
  exact this
theorem Lin.id : Lin fun a => a := fun _ _ => rfl
theorem Lin.const0 : Lin fun _ => 0 := fun _ _ => (Nat.xor_self 0).symm
theorem Lin.comp {f g : Nat → Nat} (hf : Lin f) (hg : Lin g) : Lin fun a => f (g a) := fun a b => by
  show f (g (a ^^^ b)) = _
  rw [hg, hf]
theorem xor4 (a b c d : Nat) : (a ^^^ b) ^^^ (c ^^^ d) = (a ^^^ c) ^^^ (b ^^^ d) := by
  rw [Nat.xor_assoc, Nat.xor_assoc, ← Nat.xor_assoc b c d, Nat.xor_comm b c, Nat.xor_assoc c b d]
theorem Lin.xor {f g : Nat → Nat} (hf : Lin f) (hg : Lin g) : Lin fun a => f a ^^^ g a := fun a b => by
  show f (a ^^^ b) ^^^ g (a ^^^ b) = _
  rw [hf, hg, xor4]
theorem Lin.shr (k : Nat) {f : Nat → Nat} (hf : Lin f) : Lin fun a => f a >>> k := fun a b => by
  show f (a ^^^ b) >>> k = _
  rw [hf, Nat.shiftRight_xor_distrib]
theorem Lin.shl (k : Nat) {f : Nat → Nat} (hf : Lin f) : Lin fun a => f a <<< k := fun a b => by
  show f (a ^^^ b) <<< k = _
  rw [hf, Nat.shiftLeft_xor_distrib]
theorem Lin.and (m : Nat) {f : Nat → Nat} (hf : Lin f) : Lin fun a => f a &&& m := fun a b => by
  show f (a ^^^ b) &&& m = _
  rw [hf, Nat.and_xor_distrib_right]
theorem Lin.mod (k : Nat) {f : Nat → Nat} (hf : Lin f) : Lin fun a => f a % 2 ^ k := fun a b => by
  show f (a ^^^ b) % 2 ^ k = _
  rw [hf, Nat.xor_mod_two_pow]
theorem split_top {n w : Nat} (h : n < 2 ^ (w + 1)) : ∃ m, m < 2 ^ w ∧ (n = m ∨ n = m ^^^ 2 ^ w) := by
  by_cases hn : n < 2 ^ w
  · exact ⟨n, hn, .inl rfl⟩
  · have e : 2 ^ (w + 1) = 2 * 2 ^ w := by rw [Nat.pow_succ]; omega
    refine ⟨n - 2 ^ w, by omega, .inr ?_⟩
    have hm : n - 2 ^ w < 2 ^ w := by omega
    have q := add_shl (k := w) 1 hm
    rw [Nat.one_shiftLeft] at q
    omega
theorem lin_ext {f g : Nat → Nat} (hf : Lin f) (hg : Lin g) : ∀ w, (∀ k, k < w → f (2 ^ k) = g (2 ^ k)) → ∀ n, n < 2 ^ w → f n = g n
  | 0, _, n, h => by
    have : n = 0 := by simpa using h
    rw [this, hf.zero, hg.zero]
  | w + 1, hb, n, h => by
    obtain ⟨m, hm, e⟩ := split_top h
    have i := lin_ext hf hg w (fun k hk => hb k (by omega)) m hm
    rcases e with e | e
    · rw [e, i]
    · rw [e, hf, hg, i, hb w (by omega)]
theorem lin_lt {f : Nat → Nat} {t : Nat} (hf : Lin f) : ∀ w, (∀ k, k < w → f (2 ^ k) < 2 ^ t) → ∀ n, n < 2 ^ w → f n < 2 ^ t
  | 0, _, n, h => by
    have : n = 0 := by simpa using h
    rw [this, hf.zero]
    exact Nat.two_pow_pos t
  | w + 1, hb, n, h => by
    obtain ⟨m, hm, e⟩ := split_top h
    have i := lin_lt hf w (fun k hk => hb k (by omega)) m hm
    rcases e with e | e
    · rw [e]; exact i
    · rw [e, hf]
      exact Nat.xor_lt_two_pow i (hb w (by omega))

/-! ## the program's words -/
/-- is_odd's word behind its folds -/
def foldX (w : Nat) : Nat :=
  let a := w ^^^ w >>> 32
  let b := a ^^^ a >>> 16
  let c := b ^^^ b >>> 8
  let d := c ^^^ c >>> 4
  let e := d ^^^ d >>> 2
  e ^^^ e >>> 1
def parN (w : Nat) : Nat := foldX w % 2
theorem lin_step (s : Nat) : Lin fun w => w ^^^ w >>> s := Lin.id.xor (Lin.id.shr s)
theorem lin_par : Lin parN := by
  have h : Lin foldX := (lin_step 1).comp ((lin_step 2).comp ((lin_step 4).comp ((lin_step 8).comp ((lin_step 16).comp (lin_step 32)))))
  exact fun a b => (h.mod 1) a b
theorem par_lt (w : Nat) : parN w < 2 := Nat.mod_lt _ (by omega)
def masks : List Nat := [12297829382473034410, 14757395258967641292, 17361641481138401520, 18374966859414961920, 18446462603027742720, 18446744069414584320]
/-- wrong_of -/
def wrongN (w : Nat) : Nat := parN (w &&& 12297829382473034410) + (parN (w &&& 14757395258967641292) * 2 + (parN (w &&& 17361641481138401520) * 4 +
  (parN (w &&& 18374966859414961920) * 8 + (parN (w &&& 18446462603027742720) * 16 + (parN (w &&& 18446744069414584320) * 32 + 0)))))
def wrongX (w : Nat) : Nat := parN (w &&& 12297829382473034410) <<< 0 ^^^ (parN (w &&& 14757395258967641292) <<< 1 ^^^ (parN (w &&& 17361641481138401520) <<< 2 ^^^
  (parN (w &&& 18374966859414961920) <<< 3 ^^^ (parN (w &&& 18446462603027742720) <<< 4 ^^^ parN (w &&& 18446744069414584320) <<< 5))))
theorem six (a b c d e f : Nat) (ha : a < 2) (hb : b < 2) (hc : c < 2) (hd : d < 2) (he : e < 2) (hf : f < 2) :
    a + (b * 2 + (c * 4 + (d * 8 + (e * 16 + (f * 32 + 0))))) = a <<< 0 ^^^ (b <<< 1 ^^^ (c <<< 2 ^^^ (d <<< 3 ^^^ (e <<< 4 ^^^ f <<< 5)))) := by
  have z : ∀ x, x < 2 → x = 0 ∨ x = 1 := fun x h => by omega
  rcases z a ha with rfl | rfl <;> rcases z b hb with rfl | rfl <;> rcases z c hc with rfl | rfl <;> rcases z d hd with rfl | rfl <;> rcases z e he with rfl | rfl <;> rcases z f hf with rfl | rfl <;> rfl
theorem wrong_eq (w : Nat) : wrongN w = wrongX w := six _ _ _ _ _ _ (par_lt _) (par_lt _) (par_lt _) (par_lt _) (par_lt _) (par_lt _)
theorem lin_parM (m k : Nat) : Lin fun w => parN (w &&& m) <<< k := (lin_par.comp (Lin.id.and m)).shl k
theorem lin_wrong : Lin wrongN := by
  have h : Lin wrongX := (lin_parM _ _).xor ((lin_parM _ _).xor ((lin_parM _ _).xor ((lin_parM _ _).xor ((lin_parM _ _).xor (lin_parM _ _)))))
  exact fun a b => by rw [wrong_eq, wrong_eq, wrong_eq]; exact h a b
theorem wrong_lt (w : Nat) : wrongN w < 64 := by
  have h1 := par_lt (w &&& 12297829382473034410)
  have h2 := par_lt (w &&& 14757395258967641292)
  have h3 := par_lt (w &&& 17361641481138401520)
  have h4 := par_lt (w &&& 18374966859414961920)
  have h5 := par_lt (w &&& 18446462603027742720)
  have h6 := par_lt (w &&& 18446744069414584320)
  unfold wrongN
  omega
theorem basis : ∀ i, i < 64 → wrongN (2 ^ i) = i ∧ parN (2 ^ i) = 1 := by decide +kernel

/-- checks_for -/
def chkGo (w : Nat) : Nat → Nat → Nat
  | 0, f => f
  | n + 1, f => if 2 ^ f < w + f + 1 then chkGo w n (f + 1) else f
def chk (w : Nat) : Nat := chkGo w 10 0
/-- runs_of: (first, many) -/
def runsGo : Nat → Nat → Nat → List (Nat × Nat)
  | 0, _, _ => []
  | n + 1, left, check => if 0 < left then (check + 1, min (check - 1) left) :: runsGo n (left - min (check - 1) left) (2 * check) else []
def runs (w : Nat) : List (Nat × Nat) := runsGo 8 w 2
/-- the number's bits laid between the checks, as the program adds, and without carrying -/
def layS : List (Nat × Nat) → Nat → Nat → Nat
  | [], a, _ => a
  | (f, m) :: r, a, n => layS r (a + (n % 2 ^ m) * 2 ^ f) (n / 2 ^ m)
def layX : List (Nat × Nat) → Nat → Nat → Nat
  | [], a, _ => a
  | (f, m) :: r, a, n => layX r (a ^^^ (n % 2 ^ m) <<< f) (n >>> m)
def okR : Nat → List (Nat × Nat) → Bool
  | _, [] => true
  | b, (f, m) :: r => decide (b ≤ f) && okR (f + m) r
theorem mod_shl_lt {n m f b : Nat} (h : b = f + m) : (n % 2 ^ m) <<< f < 2 ^ b := by
  subst h
  rw [Nat.shiftLeft_eq, Nat.pow_add, Nat.mul_comm (2 ^ f)]
  exact Nat.mul_lt_mul_of_pos_right (Nat.mod_lt _ (Nat.two_pow_pos m)) (Nat.two_pow_pos f)
theorem lay_eq : ∀ (r : List (Nat × Nat)) (b a n : Nat), okR b r = true → a < 2 ^ b → layS r a n = layX r a n
  | [], _, _, _, _, _ => rfl
  | (f, m) :: r, b, a, n, ok, ha => by
    simp only [okR, Bool.and_eq_true, decide_eq_true_eq] at ok
    have haf : a < 2 ^ f := Nat.lt_of_lt_of_le ha (Nat.pow_le_pow_right (by omega) ok.1)
    have e : a + (n % 2 ^ m) * 2 ^ f = a ^^^ (n % 2 ^ m) <<< f := by rw [← Nat.shiftLeft_eq, add_shl _ haf]
    show layS r (a + (n % 2 ^ m) * 2 ^ f) (n / 2 ^ m) = layX r (a ^^^ (n % 2 ^ m) <<< f) (n >>> m)
    rw [e, Nat.shiftRight_eq_div_pow]
    refine lay_eq r (f + m) _ _ ok.2 (Nat.xor_lt_two_pow ?_ (mod_shl_lt rfl))
    exact Nat.lt_of_lt_of_le haf (Nat.pow_le_pow_right (by omega) (by omega))
theorem lay_two : ∀ (r : List (Nat × Nat)) (a b n m : Nat), layX r (a ^^^ b) (n ^^^ m) = layX r a n ^^^ layX r b m
  | [], _, _, _, _ => rfl
  | (f, k) :: r, a, b, n, m => by
    show layX r ((a ^^^ b) ^^^ ((n ^^^ m) % 2 ^ k) <<< f) ((n ^^^ m) >>> k) = _
    rw [Nat.xor_mod_two_pow, Nat.shiftLeft_xor_distrib, Nat.shiftRight_xor_distrib, xor4, lay_two r]
    rfl
theorem lin_lay (r : List (Nat × Nat)) : Lin (layX r 0) := fun a b => by
  have := lay_two r 0 0 a b
  rw [Nat.xor_self] at this
  exact this
/-- the checks put in -/
def putS : Nat → Nat → Nat → Nat → Nat
  | 0, _, a, _ => a
  | n + 1, c, a, x => putS n (c + 1) (a + (x / 2 ^ c % 2) * 2 ^ (2 ^ c)) x
def putX : Nat → Nat → Nat → Nat
  | 0, _, _ => 0
  | n + 1, c, x => ((x >>> c) % 2 ^ 1) <<< (2 ^ c) ^^^ putX n (c + 1) x
theorem lin_put : ∀ n c, Lin (putX n c)
  | 0, _ => Lin.const0
  | n + 1, c => (((Lin.id.shr c).mod 1).shl (2 ^ c)).xor (lin_put n (c + 1))
theorem bit_shl {x k i : Nat} (h : i ≠ k) : ((x % 2 ^ 1) <<< k).testBit i = false := by
  rw [Nat.testBit_shiftLeft]
  by_cases hi : k ≤ i
  · have e : i - k ≠ 0 := by omega
    have : (x % 2 ^ 1).testBit (i - k) = false := by
      refine Nat.testBit_lt_two_pow (Nat.lt_of_lt_of_le (Nat.mod_lt _ (by decide)) ?_)
      exact Nat.pow_le_pow_right (by omega) (by omega)
    simp [this]
  · simp [hi]
theorem put_eq : ∀ (n c a x : Nat), (∀ i, c ≤ i → i < c + n → a.testBit (2 ^ i) = false) → putS n c a x = a ^^^ putX n c x
  | 0, _, a, _, _ => (Nat.xor_zero a).symm
  | n + 1, c, a, x, h => by
    have e : a + (x / 2 ^ c % 2) * 2 ^ (2 ^ c) = a ^^^ ((x >>> c) % 2 ^ 1) <<< (2 ^ c) := by
      rw [← Nat.shiftLeft_eq, Nat.shiftRight_eq_div_pow, Nat.pow_one]
      refine add_xor (Nat.eq_of_testBit_eq fun i => ?_)
      rw [Nat.testBit_and, Nat.zero_testBit]
      by_cases hi : i = 2 ^ c
      · rw [hi, h c (by omega) (by omega), Bool.false_and]
      · have := bit_shl (x := x / 2 ^ c) (k := 2 ^ c) (i := i) hi
        rw [Nat.pow_one] at this
        rw [this, Bool.and_false]
    show putS n (c + 1) (a + (x / 2 ^ c % 2) * 2 ^ (2 ^ c)) x = a ^^^ (((x >>> c) % 2 ^ 1) <<< (2 ^ c) ^^^ putX n (c + 1) x)
    rw [e, put_eq n (c + 1) _ x, Nat.xor_assoc]
    intro i h1 h2
    rw [Nat.testBit_xor, h i (by omega) (by omega), bit_shl]
    · rfl
    · intro q
      have := Nat.pow_lt_pow_right (a := 2) (by omega) (show c < i by omega)
      omega
/-- seal_by -/
def sealS (n w : Nat) : Nat :=
  let a := layS (runs w) 0 n
  let b := putS (chk w) 0 a (wrongN a)
  b + parN b
def sealX (w n : Nat) : Nat :=
  let a := layX (runs w) 0 n
  let b := a ^^^ putX (chk w) 0 (wrongN a)
  b ^^^ parN b
theorem lin_seal (w : Nat) : Lin (sealX w) := by
  have h : Lin fun n => layX (runs w) 0 n ^^^ putX (chk w) 0 (wrongN (layX (runs w) 0 n)) := (lin_lay _).xor (((lin_put _ _).comp lin_wrong).comp (lin_lay _))
  exact h.xor (lin_par.comp h)
/-- number_in -/
def numS : List (Nat × Nat) → Nat → Nat → Nat → Nat
  | [], a, _, _ => a
  | (f, m) :: r, a, p, w => numS r (a + (w / 2 ^ f % 2 ^ m) * 2 ^ p) (p + m) w
def numX : List (Nat × Nat) → Nat → Nat → Nat
  | [], _, _ => 0
  | (f, m) :: r, p, w => ((w >>> f) % 2 ^ m) <<< p ^^^ numX r (p + m) w
theorem lin_num : ∀ r p, Lin (numX r p)
  | [], _ => Lin.const0
  | (f, m) :: r, p => (((Lin.id.shr f).mod m).shl p).xor (lin_num r (p + m))
theorem num_eq : ∀ (r : List (Nat × Nat)) (a p w : Nat), a < 2 ^ p → numS r a p w = a ^^^ numX r p w
  | [], a, _, _, _ => (Nat.xor_zero a).symm
  | (f, m) :: r, a, p, w, h => by
    have e : a + (w / 2 ^ f % 2 ^ m) * 2 ^ p = a ^^^ ((w >>> f) % 2 ^ m) <<< p := by rw [← Nat.shiftLeft_eq, Nat.shiftRight_eq_div_pow, add_shl _ h]
    show numS r (a + (w / 2 ^ f % 2 ^ m) * 2 ^ p) (p + m) w = a ^^^ (((w >>> f) % 2 ^ m) <<< p ^^^ numX r (p + m) w)
    rw [e, num_eq r _ (p + m) w, Nat.xor_assoc]
    exact Nat.xor_lt_two_pow (Nat.lt_of_lt_of_le h (Nat.pow_le_pow_right (by omega) (by omega))) (mod_shl_lt (by omega))
def numN (word w : Nat) : Nat := numS (runs w) 0 0 word
def numL (w word : Nat) : Nat := numX (runs w) 0 word
theorem numN_eq (word w : Nat) : numN word w = numL w word := by
  unfold numN numL
  rw [num_eq _ _ _ _ (by decide), Nat.zero_xor]
/-! ### what holds of every width, looked at number by number at the powers of two -/
def checkMask (w : Nat) : Nat := (List.range (chk w)).foldl (fun m c => m + 2 ^ (2 ^ c)) 0
def preX (w n : Nat) : Nat := layX (runs w) 0 n ^^^ putX (chk w) 0 (wrongN (layX (runs w) 0 n))
theorem lin_pre (w : Nat) : Lin (preX w) := (lin_lay _).xor (((lin_put _ _).comp lin_wrong).comp (lin_lay _))
def lookB (w : Nat) : Bool := okR 0 (runs w) && (decide (chk w ≤ 6) && (decide (w + chk w < 64) && (((List.range (chk w)).all fun i => (checkMask w).testBit (2 ^ i)) && ((List.range w).all fun k =>
    decide (layX (runs w) 0 (2 ^ k) &&& checkMask w = 0) && (decide (preX w (2 ^ k) &&& 1 = 0) && (decide (sealX w (2 ^ k) < 2 ^ (w + chk w + 1)) && (decide (wrongN (sealX w (2 ^ k)) = 0) &&
      (decide (parN (sealX w (2 ^ k)) = 0) && decide (numL w (sealX w (2 ^ k)) = 2 ^ k)))))))))
theorem lookB_all : ((List.range 58).all fun w => w == 0 || lookB w) = true := by decide +kernel
theorem look (w : Nat) (hw : w < 58) (h1 : 1 ≤ w) : okR 0 (runs w) = true ∧ chk w ≤ 6 ∧ w + chk w < 64 ∧ (∀ i, i < chk w → (checkMask w).testBit (2 ^ i) = true) ∧ ∀ k, k < w →
    layX (runs w) 0 (2 ^ k) &&& checkMask w = 0 ∧ preX w (2 ^ k) &&& 1 = 0 ∧ sealX w (2 ^ k) < 2 ^ (w + chk w + 1) ∧ wrongN (sealX w (2 ^ k)) = 0 ∧ parN (sealX w (2 ^ k)) = 0 ∧ numL w (sealX w (2 ^ k)) = 2 ^ k := by
  have h := List.all_eq_true.mp lookB_all w (List.mem_range.mpr hw)
  have h0 : (w == 0) = false := by simp; omega
  rw [h0, Bool.false_or] at h
  simp only [lookB, Bool.and_eq_true, decide_eq_true_eq, List.all_eq_true, List.mem_range] at h
  exact h
section
variable {w n : Nat} (h1 : 1 ≤ w) (h2 : w ≤ 57) (hn : n < 2 ^ w)
include h1 h2 hn
theorem lay_mask : layX (runs w) 0 n &&& checkMask w = 0 :=
  lin_ext ((lin_lay _).and (checkMask w)) Lin.const0 w (fun k hk => ((look w (by omega) h1).2.2.2.2 k hk).1) n hn
theorem seal_eq : sealS n w = sealX w n := by
  obtain ⟨ok, _, _, hm, hk⟩ := look w (by omega) h1
  unfold sealS sealX
  have e1 : layS (runs w) 0 n = layX (runs w) 0 n := lay_eq _ 0 0 n ok (by decide)
  have e2 : putS (chk w) 0 (layX (runs w) 0 n) (wrongN (layX (runs w) 0 n)) = preX w n := by
    refine put_eq _ _ _ _ fun i _ hi => ?_
    have q := congrArg (fun z : Nat => z.testBit (2 ^ i)) (lay_mask h1 h2 hn)
    simp only [Nat.testBit_and, Nat.zero_testBit, hm i (by omega), Bool.and_true] at q
    exact q
  have e3 : preX w n &&& 1 = 0 := lin_ext ((lin_pre w).and 1) Lin.const0 w (fun k h => (hk k h).2.1) n hn
  have e4 : preX w n &&& parN (preX w n) = 0 := by
    have z := par_lt (preX w n)
    rcases (by omega : parN (preX w n) = 0 ∨ parN (preX w n) = 1) with z | z
    · rw [z, Nat.and_zero]
    · rw [z, e3]
  simp only [e1, e2]
  exact add_xor e4
theorem seal_lt : sealX w n < 2 ^ (w + chk w + 1) := lin_lt (lin_seal w) w (fun k hk => ((look w (by omega) h1).2.2.2.2 k hk).2.2.1) n hn
theorem seal_wrong : wrongN (sealX w n) = 0 := lin_ext (lin_wrong.comp (lin_seal w)) Lin.const0 w (fun k hk => ((look w (by omega) h1).2.2.2.2 k hk).2.2.2.1) n hn
theorem seal_par : parN (sealX w n) = 0 := lin_ext (lin_par.comp (lin_seal w)) Lin.const0 w (fun k hk => ((look w (by omega) h1).2.2.2.2 k hk).2.2.2.2.1) n hn
theorem seal_num : numL w (sealX w n) = n := lin_ext ((lin_num _ _).comp (lin_seal w)) Lin.id w (fun k hk => ((look w (by omega) h1).2.2.2.2 k hk).2.2.2.2.2) n hn
end
/-- opened_by -/
inductive Op | good (n : Nat) | mended (n b : Nat) | spoilt
  deriving DecidableEq
def openN (word w : Nat) : Op :=
  if wrongN word = 0 ∧ parN word = 0 then .good (numN word w) else if parN word = 0 ∨ w + chk w < wrongN word then .spoilt else .mended (numN (word ^^^ 2 ^ wrongN word) w) (wrongN word)
section
variable {w n : Nat} (h1 : 1 ≤ w) (h2 : w ≤ 57) (hn : n < 2 ^ w)
include h1 h2 hn
theorem open_good : openN (sealX w n) w = .good n := by
  unfold openN
  rw [if_pos ⟨seal_wrong h1 h2 hn, seal_par h1 h2 hn⟩, numN_eq, seal_num h1 h2 hn]
theorem open_mended {b : Nat} (hb : b ≤ w + chk w) : openN (sealX w n ^^^ 2 ^ b) w = .mended n b := by
  have h64 := (look w (by omega) h1).2.2.1
  obtain ⟨bw, bp⟩ := basis b (by omega)
  have e1 : wrongN (sealX w n ^^^ 2 ^ b) = b := by rw [lin_wrong, seal_wrong h1 h2 hn, bw, Nat.zero_xor]
  have e2 : parN (sealX w n ^^^ 2 ^ b) = 1 := by rw [lin_par, seal_par h1 h2 hn, bp]; rfl
  unfold openN
  rw [e1, e2, if_neg (by omega), if_neg (by omega), xor_cancel, numN_eq, seal_num h1 h2 hn]
theorem open_spoilt {b c : Nat} (hb : b ≤ w + chk w) (hc : c ≤ w + chk w) (hbc : b ≠ c) : openN (sealX w n ^^^ 2 ^ b ^^^ 2 ^ c) w = .spoilt := by
  have h64 := (look w (by omega) h1).2.2.1
  obtain ⟨bw, bp⟩ := basis b (by omega)
  obtain ⟨cw, cp⟩ := basis c (by omega)
  have e1 : wrongN (sealX w n ^^^ 2 ^ b ^^^ 2 ^ c) = b ^^^ c := by rw [lin_wrong, lin_wrong, seal_wrong h1 h2 hn, bw, cw, Nat.zero_xor]
  have e2 : parN (sealX w n ^^^ 2 ^ b ^^^ 2 ^ c) = 0 := by rw [lin_par, lin_par, seal_par h1 h2 hn, bp, cp]; rfl
  unfold openN
  rw [e1, e2, if_neg (fun z => xor_ne hbc z.1), if_pos (.inl rfl)]
end
/-! ### how many bits are 1 -/
def cnt (n : Nat) : Nat := if h : n = 0 then 0 else n % 2 + cnt (n / 2)
decreasing_by omega
theorem cnt_zero : cnt 0 = 0 := by unfold cnt; rfl
theorem cnt_step (n : Nat) : cnt n = n % 2 + cnt (n / 2) := by
  by_cases h : n = 0
  · subst h
    rw [Nat.zero_div, Nat.zero_mod, cnt_zero]
  · conv => lhs; unfold cnt
    rw [dif_neg h]
theorem cnt_eq0 : ∀ n, cnt n = 0 → n = 0 := by
  intro n
  induction n using Nat.strongRecOn with
  | ind n ih =>
    intro h
    by_cases hn : n = 0
    · exact hn
    · have e := cnt_step n
      have := ih (n / 2) (by omega) (by omega)
      omega
theorem pow_half (i : Nat) : 2 * 2 ^ i = 2 ^ (i + 1) := by rw [Nat.pow_succ]; omega
theorem dbl_xor (a b : Nat) : 2 * (a ^^^ b) = (2 * a) ^^^ (2 * b) := by
  have h := @Nat.shiftLeft_xor_distrib 1 a b
  rw [Nat.shiftLeft_eq, Nat.shiftLeft_eq, Nat.shiftLeft_eq, Nat.pow_one] at h
  rw [Nat.mul_comm 2 a, Nat.mul_comm 2 b, ← h, Nat.mul_comm]
theorem cnt_eq1 : ∀ n, cnt n = 1 → ∃ i, n = 2 ^ i := by
  intro n
  induction n using Nat.strongRecOn with
  | ind n ih =>
    intro h
    have e := cnt_step n
    by_cases hn : n = 0
    · subst hn; rw [cnt_zero] at h; omega
    · by_cases hp : n % 2 = 1
      · have := cnt_eq0 (n / 2) (by omega)
        exact ⟨0, by omega⟩
      · obtain ⟨i, hi⟩ := ih (n / 2) (by omega) (by omega)
        exact ⟨i + 1, by rw [← pow_half]; omega⟩
theorem cnt_eq2 : ∀ n, cnt n = 2 → ∃ i j, i ≠ j ∧ n = 2 ^ i ^^^ 2 ^ j := by
  intro n
  induction n using Nat.strongRecOn with
  | ind n ih =>
    intro h
    have e := cnt_step n
    by_cases hn : n = 0
    · subst hn; rw [cnt_zero] at h; omega
    · by_cases hp : n % 2 = 1
      · obtain ⟨i, hi⟩ := cnt_eq1 (n / 2) (by omega)
        refine ⟨0, i + 1, by omega, ?_⟩
        rw [← pow_half]
        have q := add_shl (a := 1) (k := 1) (2 ^ i) (by decide)
        rw [Nat.shiftLeft_eq, Nat.pow_one, Nat.mul_comm] at q
        rw [Nat.pow_zero]
        omega
      · obtain ⟨i, j, hij, hi⟩ := ih (n / 2) (by omega) (by omega)
        refine ⟨i + 1, j + 1, by omega, ?_⟩
        rw [← pow_half, ← pow_half, ← dbl_xor, ← hi]
        omega
theorem cnt_par2 : ∀ a b, (cnt (a ^^^ b)) % 2 = (cnt a + cnt b) % 2 := by
  intro a
  induction a using Nat.strongRecOn with
  | ind a ih =>
    intro b
    by_cases ha : a = 0
    · subst ha; rw [Nat.zero_xor, cnt_zero]; omega
    · have i := ih (a / 2) (by omega) (b / 2)
      have e1 := cnt_step (a ^^^ b)
      have e2 := cnt_step a
      have e3 := cnt_step b
      rw [Nat.xor_div_two] at e1
      have m2 := @Nat.xor_mod_two_eq_one a b
      omega
theorem cnt_pow (k : Nat) : cnt (2 ^ k) = 1 := by
  induction k with
  | zero => rw [cnt_step]; simp [cnt_zero]
  | succ k ih =>
    rw [cnt_step, ← pow_half]
    have e : 2 * 2 ^ k / 2 = 2 ^ k := by omega
    rw [e, ih]
    omega
theorem par_cnt {n : Nat} (h : n < 2 ^ 64) : parN n = cnt n % 2 := by
  have hl : Lin fun a => cnt a % 2 := fun a b => by
    show cnt (a ^^^ b) % 2 = (cnt a % 2) ^^^ (cnt b % 2)
    rw [cnt_par2]
    rcases (by omega : cnt a % 2 = 0 ∨ cnt a % 2 = 1) with x | x <;> rcases (by omega : cnt b % 2 = 0 ∨ cnt b % 2 = 1) with y | y
    all_goals rw [x, y, Nat.add_mod, x, y]; rfl
  exact lin_ext lin_par hl 64 (fun k hk => by rw [(basis k hk).2, cnt_pow]) n h
theorem two_pow_le_xor {i j : Nat} (h : i ≠ j) : 2 ^ i ≤ 2 ^ i ^^^ 2 ^ j := by
  refine Nat.le_of_not_lt fun q => ?_
  have z := Nat.testBit_lt_two_pow q
  rw [Nat.testBit_xor, Nat.testBit_two_pow_self, Nat.testBit_two_pow_of_ne (Ne.symm h)] at z
  cases z
/-- a word that is not 0 and has nothing wrong has four bits at least -/
theorem cnt_four {a : Nat} (h : a < 2 ^ 64) (h0 : a ≠ 0) (hw : wrongN a = 0) (hp : parN a = 0) : 4 ≤ cnt a := by
  have e := par_cnt h
  have n0 : cnt a ≠ 0 := fun q => h0 (cnt_eq0 a q)
  have n2 : cnt a ≠ 2 := fun q => by
    obtain ⟨i, j, hij, ha⟩ := cnt_eq2 a q
    have hi : i < 64 := by
      have := two_pow_le_xor hij
      rw [← ha] at this
      exact (Nat.pow_lt_pow_iff_right (by omega)).mp (Nat.lt_of_le_of_lt this h)
    have hj : j < 64 := by
      have := two_pow_le_xor (Ne.symm hij)
      rw [Nat.xor_comm, ← ha] at this
      exact (Nat.pow_lt_pow_iff_right (by omega)).mp (Nat.lt_of_le_of_lt this h)
    rw [ha, lin_wrong, (basis i hi).1, (basis j hj).1] at hw
    exact xor_ne hij hw
  omega
theorem seal_four {w n m : Nat} (h1 : 1 ≤ w) (h2 : w ≤ 57) (hn : n < 2 ^ w) (hm : m < 2 ^ w) (hne : n ≠ m) : 4 ≤ cnt (sealX w n ^^^ sealX w m) := by
  rw [← lin_seal]
  have hx := Nat.xor_lt_two_pow hn hm
  have h64 := (look w (by omega) h1).2.2.1
  refine cnt_four (Nat.lt_of_lt_of_le (seal_lt h1 h2 hx) (Nat.pow_le_pow_right (by omega) (by omega))) ?_ (seal_wrong h1 h2 hx) (seal_par h1 h2 hx)
  intro z
  have q := seal_num h1 h2 hx
  rw [z] at q
  have q0 : numL w 0 = 0 := (lin_num _ _).zero
  rw [q0] at q
  exact xor_ne hne q.symm
/-- the last bit of a width's words -/
theorem seal_last : ∀ w, w < 58 → 1 ≤ w → 2 ^ (w + chk w) ≤ sealS (2 ^ w - 1) w ∧ sealS (2 ^ w - 1) w < 2 ^ (w + chk w + 1) := by decide +kernel
end Fk
namespace Fk
/-! ## the law's own words of seals -/
/-- the numbers of the bits that are 1, put together -/
def wr (n k : Nat) : Nat := if h : n = 0 then 0 else (if n % 2 = 1 then k else 0) ^^^ wr (n / 2) (k + 1)
termination_by n
decreasing_by omega
theorem wr_zero (k : Nat) : wr 0 k = 0 := by unfold wr; rfl
theorem wr_step (n k : Nat) : wr n k = (if n % 2 = 1 then k else 0) ^^^ wr (n / 2) (k + 1) := by
  by_cases h : n = 0
  · subst h
    rw [Nat.zero_div, wr_zero, wr_zero, Nat.xor_zero, if_neg (by decide)]
  · conv => lhs; unfold wr
    rw [dif_neg h]
theorem wr_lin : ∀ a b k, wr (a ^^^ b) k = wr a k ^^^ wr b k := by
  intro a
  induction a using Nat.strongRecOn with
  | ind a ih =>
    intro b k
    by_cases ha : a = 0
    · subst ha; rw [Nat.zero_xor, wr_zero, Nat.zero_xor]
    · have i := ih (a / 2) (by omega) (b / 2) (k + 1)
      rw [wr_step (a ^^^ b), wr_step a, wr_step b, Nat.xor_div_two, i, xor4]
      have m2 := @Nat.xor_mod_two_eq_one a b
      congr 1
      by_cases p : a % 2 = 1 <;> by_cases q : b % 2 = 1
      · rw [if_pos p, if_pos q, if_neg (by omega), Nat.xor_self]
      · rw [if_pos p, if_neg q, if_pos (by omega), Nat.xor_zero]
      · rw [if_neg p, if_pos q, if_pos (by omega), Nat.zero_xor]
      · rw [if_neg p, if_neg q, if_neg (by omega), Nat.xor_self]
theorem wr_pow : ∀ i k, wr (2 ^ i) k = k + i := by
  intro i
  induction i with
  | zero => intro k; rw [wr_step, Nat.pow_zero, if_pos rfl, show 1 / 2 = 0 from rfl, wr_zero, Nat.xor_zero]; rfl
  | succ i ih =>
    intro k
    rw [wr_step, ← pow_half, if_neg (by omega), show 2 * 2 ^ i / 2 = 2 ^ i by omega, ih, Nat.zero_xor]
    omega
theorem wr_wrong {n : Nat} (h : n < 2 ^ 64) : wr n 0 = wrongN n :=
  lin_ext (f := fun a => wr a 0) (fun a b => wr_lin a b 0) lin_wrong 64 (fun k hk => by rw [wr_pow, (basis k hk).1]; omega) n h
/-- the bits that hold a number -/
def spGo : Nat → Nat → Nat → Nat → List Nat
  | 0, _, _, _ => []
  | f + 1, bit, check, need => if need = 0 then [] else if bit = check then spGo f (bit + 1) (2 * check) need else bit :: spGo f (bit + 1) check (need - 1)
def spots (w : Nat) : List Nat := spGo 70 1 1 w
/-- the number laid bit by bit -/
def lpS : List Nat → Nat → Nat → Nat → Nat
  | [], _, a, _ => a
  | b :: r, i, a, n => lpS r (i + 1) (a + (n / 2 ^ i % 2) * 2 ^ b) n
def lpX : List Nat → Nat → Nat → Nat
  | [], _, _ => 0
  | b :: r, i, n => ((n >>> i) % 2 ^ 1) <<< b ^^^ lpX r (i + 1) n
theorem lin_lp : ∀ r i, Lin (lpX r i)
  | [], _ => Lin.const0
  | b :: r, i => (((Lin.id.shr i).mod 1).shl b).xor (lin_lp r (i + 1))
def rising : Nat → List Nat → Bool
  | _, [] => true
  | k, b :: r => decide (k ≤ b) && rising (b + 1) r
theorem lp_eq : ∀ (r : List Nat) (k i a n : Nat), rising k r = true → a < 2 ^ k → lpS r i a n = a ^^^ lpX r i n
  | [], _, _, a, _, _, _ => (Nat.xor_zero a).symm
  | b :: r, k, i, a, n, ok, h => by
    simp only [rising, Bool.and_eq_true, decide_eq_true_eq] at ok
    have hb : a < 2 ^ b := Nat.lt_of_lt_of_le h (Nat.pow_le_pow_right (by omega) ok.1)
    have e : a + (n / 2 ^ i % 2) * 2 ^ b = a ^^^ ((n >>> i) % 2 ^ 1) <<< b := by
      rw [← Nat.shiftLeft_eq, Nat.shiftRight_eq_div_pow, Nat.pow_one, add_shl _ hb]
    show lpS r (i + 1) (a + (n / 2 ^ i % 2) * 2 ^ b) n = a ^^^ (((n >>> i) % 2 ^ 1) <<< b ^^^ lpX r (i + 1) n)
    rw [e, lp_eq r (b + 1) (i + 1) _ n ok.2, Nat.xor_assoc]
    refine Nat.xor_lt_two_pow (Nat.lt_of_lt_of_le hb (Nat.pow_le_pow_right (by omega) (by omega))) ?_
    exact mod_shl_lt (n := n >>> i) (m := 1) (f := b) rfl
def look2B (w : Nat) : Bool := rising 0 (spots w) && (decide ((spots w).length = w) && (((spots w).all fun b => decide (b ≤ 64)) && ((List.range w).all fun k =>
    decide (lpX (spots w) 0 (2 ^ k) = layX (runs w) 0 (2 ^ k)) && (decide (wrongN (layX (runs w) 0 (2 ^ k)) < 2 ^ chk w) && (decide (layX (runs w) 0 (2 ^ k) < 2 ^ 64) && decide (preX w (2 ^ k) < 2 ^ 64))))))
theorem look2_all : ((List.range 58).all fun w => w == 0 || look2B w) = true := by decide +kernel
theorem look2 (w : Nat) (hw : w < 58) (h1 : 1 ≤ w) : rising 0 (spots w) = true ∧ (spots w).length = w ∧ (∀ b ∈ spots w, b ≤ 64) ∧ ∀ k, k < w →
    lpX (spots w) 0 (2 ^ k) = layX (runs w) 0 (2 ^ k) ∧ wrongN (layX (runs w) 0 (2 ^ k)) < 2 ^ chk w ∧ layX (runs w) 0 (2 ^ k) < 2 ^ 64 ∧ preX w (2 ^ k) < 2 ^ 64 := by
  have h := List.all_eq_true.mp look2_all w (List.mem_range.mpr hw)
  have h0 : (w == 0) = false := by simp; omega
  rw [h0, Bool.false_or] at h
  simp only [look2B, Bool.and_eq_true, decide_eq_true_eq, List.all_eq_true, List.mem_range] at h
  exact h
/-- the law's way to put the checks in -/
def putL : Nat → Nat → Nat → Nat → Nat
  | 0, _, a, _ => a
  | f + 1, c, a, x => if 2 ^ c ≤ x then putL f (c + 1) (a + (if 0 < x &&& 2 ^ c then 1 else 0) * 2 ^ (2 ^ c)) x else a
theorem put_none : ∀ (n c a x : Nat), x < 2 ^ c → putS n c a x = a
  | 0, _, _, _, _ => rfl
  | n + 1, c, a, x, h => by
    show putS n (c + 1) (a + (x / 2 ^ c % 2) * 2 ^ (2 ^ c)) x = a
    rw [Nat.div_eq_of_lt h, Nat.zero_mod, Nat.zero_mul, Nat.add_zero]
    exact put_none n (c + 1) a x (Nat.lt_of_lt_of_le h (Nat.pow_le_pow_right (by omega) (by omega)))
theorem and_pow (x c : Nat) : (if 0 < x &&& 2 ^ c then 1 else 0) = x / 2 ^ c % 2 := by
  have h : x &&& 2 ^ c = (x / 2 ^ c % 2) * 2 ^ c := by
    apply Nat.eq_of_testBit_eq
    intro i
    rw [Nat.testBit_and, Nat.testBit_two_pow]
    have e : (x / 2 ^ c % 2) * 2 ^ c = ((x >>> c) % 2 ^ 1) <<< c := by rw [Nat.shiftLeft_eq, Nat.shiftRight_eq_div_pow, Nat.pow_one]
    rw [e]
    by_cases hi : i = c
    · subst hi
      rw [Nat.testBit_shiftLeft, Nat.sub_self, Nat.testBit_mod_two_pow, Nat.testBit_shiftRight]
      simp
    · rw [bit_shl hi, decide_eq_false (Ne.symm hi), Bool.and_false]
  have p := Nat.two_pow_pos c
  have q : x / 2 ^ c % 2 = 0 ∨ x / 2 ^ c % 2 = 1 := by omega
  rcases q with q | q
  · rw [h, q, Nat.zero_mul]; rfl
  · rw [h, q, Nat.one_mul, if_pos p]
theorem put_law : ∀ (n c a x f : Nat), x < 2 ^ (c + n) → n ≤ f → putL f c a x = putS n c a x
  | n, c, a, x, 0, h, hf => by
    have : n = 0 := by omega
    subst this; rfl
  | n, c, a, x, f + 1, h, hf => by
    show (if 2 ^ c ≤ x then putL f (c + 1) (a + (if 0 < x &&& 2 ^ c then 1 else 0) * 2 ^ (2 ^ c)) x else a) = _
    by_cases q : 2 ^ c ≤ x
    · rw [if_pos q]
      cases n with
      | zero =>
        rw [Nat.add_zero] at h
        omega
      | succ n =>
        rw [and_pow, put_law n (c + 1) _ x f (by rw [show c + 1 + n = c + (n + 1) by omega]; exact h) (by omega)]
        rfl
    · rw [if_neg q, put_none _ _ _ _ (by omega)]
section
variable {w n : Nat} (h1 : 1 ≤ w) (h2 : w ≤ 57) (hn : n < 2 ^ w)
include h1 h2 hn
theorem lp_lay : lpS (spots w) 0 0 n = layS (runs w) 0 n := by
  obtain ⟨r, _, _, hk⟩ := look2 w (by omega) h1
  rw [lp_eq _ 0 _ _ _ r (by decide), Nat.zero_xor, lay_eq _ 0 0 n (look w (by omega) h1).1 (by decide)]
  exact lin_ext (lin_lp _ _) (lin_lay _) w (fun k h => (hk k h).1) n hn
theorem lay_lt : layS (runs w) 0 n < 2 ^ 64 := by
  rw [lay_eq _ 0 0 n (look w (by omega) h1).1 (by decide)]
  exact lin_lt (lin_lay _) w (fun k h => ((look2 w (by omega) h1).2.2.2 k h).2.2.1) n hn
theorem layw_lt : wrongN (layS (runs w) 0 n) < 2 ^ chk w := by
  rw [lay_eq _ 0 0 n (look w (by omega) h1).1 (by decide)]
  exact lin_lt (lin_wrong.comp (lin_lay _)) w (fun k h => ((look2 w (by omega) h1).2.2.2 k h).2.1) n hn
theorem put_pre : putS (chk w) 0 (layS (runs w) 0 n) (wrongN (layS (runs w) 0 n)) = preX w n := by
  obtain ⟨ok, _, _, hm, hk⟩ := look w (by omega) h1
  rw [lay_eq _ 0 0 n ok (by decide)]
  refine put_eq _ _ _ _ fun i _ hi => ?_
  have q := congrArg (fun z : Nat => z.testBit (2 ^ i)) (lay_mask h1 h2 hn)
  simp only [Nat.testBit_and, Nat.zero_testBit, hm i (by omega), Bool.and_true] at q
  exact q
theorem pre_lt : preX w n < 2 ^ 64 := lin_lt (lin_pre w) w (fun k h => ((look2 w (by omega) h1).2.2.2 k h).2.2.2) n hn
end
end Fk
/-! ## a number read bit by bit; all words of small widths -/
namespace Fk
def npS : List Nat → Nat → Nat → Nat → Nat
  | [], _, a, _ => a
  | b :: r, i, a, n => npS r (i + 1) (a + (n / 2 ^ b % 2) * 2 ^ i) n
def npX : List Nat → Nat → Nat → Nat
  | [], _, _ => 0
  | b :: r, i, n => ((n >>> b) % 2 ^ 1) <<< i ^^^ npX r (i + 1) n
theorem lin_np : ∀ r i, Lin (npX r i)
  | [], _ => Lin.const0
  | b :: r, i => (((Lin.id.shr b).mod 1).shl i).xor (lin_np r (i + 1))
theorem np_eq : ∀ (r : List Nat) (i a n : Nat), a < 2 ^ i → npS r i a n = a ^^^ npX r i n
  | [], i, a, n, h => (Nat.xor_zero a).symm
  | b :: r, i, a, n, h => by
    have e : a + (n / 2 ^ b % 2) * 2 ^ i = a ^^^ (((n >>> b) % 2 ^ 1) <<< i) := by
      rw [← add_shl _ h, Nat.shiftLeft_eq, Nat.shiftRight_eq_div_pow, Nat.pow_one]
    show npS r (i + 1) (a + (n / 2 ^ b % 2) * 2 ^ i) n = a ^^^ (((n >>> b) % 2 ^ 1) <<< i ^^^ npX r (i + 1) n)
    rw [np_eq r (i + 1) _ n, e, Nat.xor_assoc]
    have m : n / 2 ^ b % 2 < 2 := Nat.mod_lt _ (by omega)
    have e2 : 2 ^ (i + 1) = 2 * 2 ^ i := by rw [Nat.pow_succ]; omega
    have : n / 2 ^ b % 2 * 2 ^ i ≤ 1 * 2 ^ i := Nat.mul_le_mul_right _ (by omega)
    omega
theorem np_basis : ((List.range 58).all fun w => w == 0 || (List.range (w + chk w + 1)).all fun k => npX (spots w) 0 (2 ^ k) == numL w (2 ^ k)) = true := by decide +kernel
theorem np_num {w n : Nat} (h1 : 1 ≤ w) (hw : w ≤ 57) (hn : n < 2 ^ (w + chk w + 1)) : npS (spots w) 0 0 n = numN n w := by
  rw [np_eq _ _ _ _ (by decide), Nat.zero_xor, numN_eq]
  refine lin_ext (lin_np _ _) (lin_num _ _) (w + chk w + 1) (fun k hk => ?_) n hn
  have h := List.all_eq_true.mp np_basis w (List.mem_range.mpr (by omega))
  rw [Bool.or_eq_true] at h
  rcases h with h | h
  · have : w = 0 := by simpa using h
    omega
  · have := List.all_eq_true.mp h k (List.mem_range.mpr hk)
    exact eq_of_beq this
def okOp (w word : Nat) : Op → Bool
  | .good n => decide (n < 2 ^ w) && (sealX w n == word)
  | .mended n b => decide (n < 2 ^ w) && (sealX w n ^^^ 2 ^ b == word)
  | .spoilt => true
theorem all_small : ((List.range 5).all fun w => w == 0 || (List.range (2 ^ (w + chk w + 1))).all fun word => okOp w word (openN word w)) = true := by decide +kernel
theorem small_spoilt {w word : Nat} (h1 : 1 ≤ w) (hw : w ≤ 4) (hn : word < 2 ^ (w + chk w + 1)) (h : ∀ n, n < 2 ^ w → sealX w n ≠ word ∧ cnt (sealX w n ^^^ word) ≠ 1) : openN word w = .spoilt := by
  have q := List.all_eq_true.mp all_small w (List.mem_range.mpr (by omega))
  rw [Bool.or_eq_true] at q
  rcases q with q | q
  · have : w = 0 := by simpa using q
    omega
  · have z := List.all_eq_true.mp q word (List.mem_range.mpr hn)
    cases e : openN word w with
    | spoilt => rfl
    | good n =>
      rw [e] at z
      have z2 : n < 2 ^ w ∧ sealX w n = word := by simpa [okOp] using z
      exact absurd z2.2 (h n z2.1).1
    | mended n b =>
      rw [e] at z
      have z2 : n < 2 ^ w ∧ sealX w n ^^^ 2 ^ b = word := by simpa [okOp] using z
      refine absurd ?_ (h n z2.1).2
      rw [← z2.2, ← Nat.xor_assoc, Nat.xor_self, Nat.zero_xor, cnt_pow]
theorem one_away {w n word : Nat} (h1 : 1 ≤ w) (hw : w ≤ 57) (hn : n < 2 ^ w) (hx : word < 2 ^ (w + chk w + 1)) (h : cnt (sealX w n ^^^ word) = 1) :
    ∃ b, b ≤ w + chk w ∧ word = sealX w n ^^^ 2 ^ b ∧ openN word w = .mended n b := by
  obtain ⟨b, hb⟩ := cnt_eq1 _ h
  have e : word = sealX w n ^^^ 2 ^ b := by rw [← hb, ← Nat.xor_assoc, Nat.xor_self, Nat.zero_xor]
  have lt : 2 ^ b < 2 ^ (w + chk w + 1) := by rw [← hb]; exact Nat.xor_lt_two_pow (seal_lt h1 hw hn) hx
  have lb : b < w + chk w + 1 := (Nat.pow_lt_pow_iff_right (a := 2) (by omega)).mp lt
  refine ⟨b, by omega, e, ?_⟩
  rw [e]
  exact open_mended h1 hw hn (by omega)
theorem pow_inj {a b : Nat} (h : 2 ^ a = 2 ^ b) : a = b := by
  rcases Nat.lt_trichotomy a b with c | c | c
  · have := Nat.pow_lt_pow_right (a := 2) (by omega) c
    omega
  · exact c
  · have := Nat.pow_lt_pow_right (a := 2) (by omega) c
    omega
theorem xor_right {s a b : Nat} (h : s ^^^ a = s ^^^ b) : a = b := by
  have : s ^^^ (s ^^^ a) = s ^^^ (s ^^^ b) := by rw [h]
  rwa [← Nat.xor_assoc, ← Nat.xor_assoc, Nat.xor_self, Nat.zero_xor, Nat.zero_xor] at this
theorem num_basis : ((List.range 58).all fun w => w == 0 || (List.range (w + chk w + 1)).all fun k => decide (numL w (2 ^ k) < 2 ^ w)) = true := by decide +kernel
theorem num_lt {w n : Nat} (h1 : 1 ≤ w) (hw : w ≤ 57) (hn : n < 2 ^ (w + chk w + 1)) : numN n w < 2 ^ w := by
  rw [numN_eq]
  refine lin_lt (lin_num _ _) (w + chk w + 1) (fun k hk => ?_) n hn
  have h := List.all_eq_true.mp num_basis w (List.mem_range.mpr (by omega))
  rw [Bool.or_eq_true] at h
  rcases h with h | h
  · have : w = 0 := by simpa using h
    omega
  · exact of_decide_eq_true (List.all_eq_true.mp h k (List.mem_range.mpr hk))
theorem open_bd {w n : Nat} (h1 : 1 ≤ w) (hw : w ≤ 57) (hn : n < 2 ^ (w + chk w + 1)) : (∃ m, openN n w = .good m ∧ m < 2 ^ w) ∨ (∃ m b, openN n w = .mended m b ∧ m < 2 ^ w ∧ b ≤ w + chk w) ∨ openN n w = .spoilt := by
  unfold openN
  by_cases c : wrongN n = 0 ∧ parN n = 0
  · rw [if_pos c]
    exact .inl ⟨_, rfl, num_lt h1 hw hn⟩
  · rw [if_neg c]
    by_cases c2 : parN n = 0 ∨ w + chk w < wrongN n
    · rw [if_pos c2]
      exact .inr (.inr rfl)
    · rw [if_neg c2]
      refine .inr (.inl ⟨_, _, rfl, num_lt h1 hw (Nat.xor_lt_two_pow hn (Nat.pow_lt_pow_right (by omega) (by omega))), by omega⟩)
end Fk
/-! ## fields of pages, as numbers -/
namespace Fk
structure F5 where
  k : Nat
  p : Nat
  n : Nat
  g : Nat
  d : Nat
  deriving DecidableEq
def okF (f : F5) : Prop := f.k < 4 ∧ f.p ≤ 15 ∧ f.n ≤ 16383 ∧ f.g ≤ 16383 ∧ f.d ≤ 63 ∧ (f.k = 3 → f.p = 0 ∧ f.d = 0) ∧ (f.k ≠ 3 → (f.g = 0 ∨ f.k = 2) ∧ (f.d = 0 ∨ f.k ≠ 1))
instance (f : F5) : Decidable (okF f) := by unfold okF; exact inferInstance
def numF (f : F5) : Nat := (((f.k * 16 + f.p) * 16384 + f.n) * 16384 + f.g) * 64 + f.d
def splitN (N : Nat) : F5 := ⟨N / 64 / 16384 / 16384 / 16, N / 64 / 16384 / 16384 % 16, N / 64 / 16384 % 16384, N / 64 % 16384, N % 64⟩
def fldN (N : Nat) : Option F5 := if okF (splitN N) then some (splitN N) else none
theorem num_split (N : Nat) : numF (splitN N) = N := by
  unfold numF splitN
  simp only
  omega
theorem split_num {f : F5} (h : okF f) : splitN (numF f) = f := by
  obtain ⟨k, p, n, g, d⟩ := f
  obtain ⟨h1, h2, h3, h4, h5, _⟩ := h
  simp only at h1 h2 h3 h4 h5
  unfold numF splitN
  simp only [F5.mk.injEq]
  refine ⟨by omega, by omega, by omega, by omega, by omega⟩
theorem fld_num {f : F5} (h : okF f) : fldN (numF f) = some f := by
  unfold fldN
  rw [split_num h, if_pos h]
theorem num_fld {N : Nat} {f : F5} (h : fldN N = some f) : numF f = N ∧ okF f := by
  unfold fldN at h
  by_cases c : okF (splitN N)
  · rw [if_pos c] at h
    cases h
    exact ⟨num_split N, c⟩
  · rw [if_neg c] at h
    cases h
theorem numF_lt {f : F5} (h : okF f) : numF f < 2 ^ 40 := by
  obtain ⟨k, p, n, g, d⟩ := f
  obtain ⟨h1, h2, h3, h4, h5, _⟩ := h
  simp only at h1 h2 h3 h4 h5
  unfold numF
  simp only
  omega
theorem numF_inj {f g : F5} (h : okF f) (h2 : okF g) (e : numF f = numF g) : f = g := by
  rw [← split_num h, ← split_num h2, e]
theorem chk40 : chk 40 = 6 := by decide +kernel
/-- fields_by: none where it is spoilt, else whether it is mended, and the fields -/
def fbN (word : Nat) : Bool → Option (Bool × F5)
  | true => match openN word 40 with
    | .good n => (fldN n).map fun f => (false, f)
    | .mended n _ => (fldN n).map fun f => (true, f)
    | .spoilt => none
  | false => (fldN word).map fun f => (false, f)
def wordN (f : F5) : Bool → Nat
  | true => sealX 40 (numF f)
  | false => numF f
theorem fb_word {f : F5} (h : okF f) (s : Bool) : fbN (wordN f s) s = some (false, f) := by
  cases s with
  | true =>
    unfold fbN wordN
    simp only
    rw [open_good (by decide) (by decide) (numF_lt h)]
    simp only [fld_num h, Option.map_some]
  | false =>
    unfold fbN wordN
    simp only [fld_num h, Option.map_some]
theorem fb_mended {f : F5} (h : okF f) {b : Nat} (hb : b < 47) : fbN (wordN f true ^^^ 2 ^ b) true = some (true, f) := by
  unfold fbN wordN
  simp only
  rw [open_mended (by decide) (by decide) (numF_lt h) (by rw [chk40]; omega)]
  simp only [fld_num h, Option.map_some]
theorem fb_spoilt {f : F5} (h : okF f) {b c : Nat} (hb : b < 47) (hc : c < 47) (hbc : b ≠ c) : fbN (wordN f true ^^^ 2 ^ b ^^^ 2 ^ c) true = none := by
  unfold fbN wordN
  simp only
  rw [open_spoilt (by decide) (by decide) (numF_lt h) (by rw [chk40]; omega) (by rw [chk40]; omega) hbc]
theorem word_lt {f : F5} (h : okF f) (s : Bool) : wordN f s < 2 ^ 47 := by
  have a := numF_lt h
  cases s with
  | true =>
    have := seal_lt (w := 40) (by decide) (by decide) a
    rw [chk40] at this
    exact this
  | false =>
    show numF f < 2 ^ 47
    omega
theorem word_inj {f g : F5} (h : okF f) (h2 : okF g) (s : Bool) : wordN f s = wordN g s ↔ f = g := by
  constructor
  · intro e
    have a := fb_word h s
    rw [e, fb_word h2 s] at a
    cases a
    rfl
  · rintro rfl
    rfl
/-- a turned bit of a plain word -/
theorem fb_plain {f : F5} (h : okF f) (b : Nat) : fbN (wordN f false ^^^ 2 ^ b) false = none ∨ ∃ f', fbN (wordN f false ^^^ 2 ^ b) false = some (false, f') ∧ okF f' ∧ f' ≠ f ∧ wordN f' false = wordN f false ^^^ 2 ^ b := by
  unfold fbN wordN
  simp only
  cases e : fldN (numF f ^^^ 2 ^ b) with
  | none => exact .inl rfl
  | some f' =>
    obtain ⟨e1, e2⟩ := num_fld e
    refine .inr ⟨f', rfl, e2, ?_, e1⟩
    rintro rfl
    have q : 2 ^ b = 0 := xor_right (s := numF f') (by rw [Nat.xor_zero]; exact e1.symm)
    have := Nat.two_pow_pos b
    omega
end Fk
namespace Fk
open PySem PySem.Spec PyProof.Rows L2
/-! ### the text -/
def top (i : Nat) : Stmt := PySem.Challenge.pw_flashkeep_k15_plans_looked_at.main.body.getD i (.Pass ⟨0, 0, 0, 0⟩)
/-! ### readings and promises -/
abbrev s_is_whole : Stmt := top 1
abbrev N_is_whole : List Str := ["thing"]
theorem sc_is_whole : FnScope N_is_whole ["thing"] (defScope s_is_whole) := ⟨rfl, rfl, rfl, by decide +kernel, rfl, by decide +kernel, by decide +kernel⟩
def t_is_whole (K : PySem.W.Frag) (E : XK) : TS :=
    (tRet (tAndV (tCB (rIsi K) (tCons (tVar 0) (tCons (tC (.ty "int")) tNil))) (tNotV (tCB (rIsi K) (tCons (tVar 0) (tCons (tC (.ty "bool")) tNil))))))
def sp_is_whole (K : PySem.W.Frag) : Sp := fun vs H Q E => vs.length = 1 ∧ t_is_whole K E { nx := fun _ H' => Q .non H', rt := Q } (start N_is_whole vs) H
abbrev s_is_within : Stmt := top 2
abbrev N_is_within : List Str := ["thing", "least", "most"]
theorem sc_is_within : FnScope N_is_within ["thing", "least", "most"] (defScope s_is_within) := ⟨rfl, rfl, rfl, by decide +kernel, rfl, by decide +kernel, by decide +kernel⟩
def t_is_within (K : PySem.W.Frag) (E : XK) : TS :=
    (tRet (tAndV (tCall (sp_is_whole K) [] E (tCons (tVar 0) tNil)) (tChain uLe uLe (tVar 1) (tVar 0) (tVar 2))))
def sp_is_within (K : PySem.W.Frag) : Sp := fun vs H Q E => vs.length = 3 ∧ t_is_within K E { nx := fun _ H' => Q .non H', rt := Q } (start N_is_within vs) H
abbrev s_is_plan : Stmt := top 8
abbrev N_is_plan : List Str := ["thing", "blocks", "pages", "places", "sealed", "commits"]
theorem sc_is_plan : FnScope N_is_plan ["thing"] (defScope s_is_plan) := ⟨rfl, rfl, rfl, by decide +kernel, rfl, by decide +kernel, by decide +kernel⟩
def t_is_plan (K : PySem.W.Frag) (E : XK) : TS :=
    (tSeq (tIfS (tOr (tNot (tB (tCB (rIsi K) (tCons (tVar 0) (tCons (tC (.ty "tuple")) tNil))))) (tTest (tOp (uNe K) (tCB (rLen K) (tCons (tVar 0) tNil)) (tC (.int 5))))) (tRet (tC (.bl false))) tNext)
    (tSeq (tAsg (tVar 0) (gTup K 5 (gCons (gName 1) (gCons (gName 2) (gCons (gName 3) (gCons (gName 4) (gCons (gName 5) gNil)))))))
    (tSeq (tIfS (tOr (tNot (tB (tCall (sp_is_within K) [] E (tCons (tVar 1) (tCons (tC (.int 3)) (tCons (tC (.int 8)) tNil)))))) (tNot (tB (tCall (sp_is_within K) [] E (tCons (tVar 2) (tCons (tC (.int 2)) (tCons (tC (.int 8)) tNil))))))) (tRet (tC (.bl false))) tNext)
    (tSeq (tIfS (tNot (tB (tCall (sp_is_within K) [] E (tCons (tVar 3) (tCons (tC (.int 1)) (tCons (tCB uMin2 (tCons (tC (.int 16)) (tCons (tOp uSub (tOp (uMul K) (tOp uSub (tVar 1) (tC (.int 2))) (tVar 2)) (tC (.int 5))) tNil))) tNil)))))) (tRet (tC (.bl false))) tNext)
    (tRet (tAndV (tCB (rIsi K) (tCons (tVar 4) (tCons (tC (.ty "bool")) tNil))) (tCB (rIsi K) (tCons (tVar 5) (tCons (tC (.ty "bool")) tNil)))))))))
def sp_is_plan (K : PySem.W.Frag) : Sp := fun vs H Q E => vs.length = 1 ∧ t_is_plan K E { nx := fun _ H' => Q .non H', rt := Q } (start N_is_plan vs) H
abbrev s__law_cell_at : Stmt := top 10
abbrev N__law_cell_at : List Str := ["_law_script", "_law_k"]
theorem sc__law_cell_at : FnScope N__law_cell_at ["_law_script", "_law_k"] (defScope s__law_cell_at) := ⟨rfl, rfl, rfl, by decide +kernel, rfl, by decide +kernel, by decide +kernel⟩
def t__law_cell_at (K : PySem.W.Frag) (E : XK) : TS :=
    (tSeq (tIfS (tTest (tOp uLt (tVar 1) (tCB (rLen K) (tCons (tVar 0) tNil)))) (tRet (tOp (rIx K) (tVar 0) (tVar 1))) tNext)
    (tRet (tC (.int 0))))
def sp__law_cell_at (K : PySem.W.Frag) : Sp := fun vs H Q E => vs.length = 2 ∧ t__law_cell_at K E { nx := fun _ H' => Q .non H', rt := Q } (start N__law_cell_at vs) H
abbrev s__law_state : Stmt := top 11
abbrev N__law_state : List Str := ["_law_script", "_law_k", "_law_cell"]
theorem sc__law_state : FnScope N__law_state ["_law_script", "_law_k"] (defScope s__law_state) := ⟨rfl, rfl, rfl, by decide +kernel, rfl, by decide +kernel, by decide +kernel⟩
def t__law_state (K : PySem.W.Frag) (E : XK) : TS :=
    (tSeq (tAsg (tCall (sp__law_cell_at K) [] E (tCons (tVar 0) (tCons (tVar 1) tNil))) (gName 2))
    (tRet (tLst (tCons (tCB uMax2 (tCons (tC (.int 0)) (tCons (tOp uSub (tVar 2) (tOp uPow (tC (.int 10)) (tC (.int 18)))) tNil))) (tCons (tOp (uAdd K) (tOp uMod (tVar 2) (tC (.int 2147483629))) (tC (.int 1))) (tCons (tC (.int 0)) tNil))))))
def sp__law_state (K : PySem.W.Frag) : Sp := fun vs H Q E => vs.length = 2 ∧ t__law_state K E { nx := fun _ H' => Q .non H', rt := Q } (start N__law_state vs) H
abbrev s__law_choice : Stmt := top 12
abbrev N__law_choice : List Str := ["_law_state_here", "_law_many", "_law_found", "_law_mixed"]
theorem sc__law_choice : FnScope N__law_choice ["_law_state_here", "_law_many"] (defScope s__law_choice) := ⟨rfl, rfl, rfl, by decide +kernel, rfl, by decide +kernel, by decide +kernel⟩
def t__law_choice (K : PySem.W.Frag) (E : XK) : TS :=
    (tSeq (tIfS (tTest (tOp uGt (tOp (rIx K) (tVar 0) (tC (.int 0))) (tC (.int 0)))) (tSeq (tAsg (tOp uMod (tOp (rIx K) (tVar 0) (tC (.int 0))) (tVar 1)) (gName 2))
    (tSeq (tAsg (tOp uFdv (tOp (rIx K) (tVar 0) (tC (.int 0))) (tVar 1)) (gSub (tVar 0) (tC (.int 0)) rSetL))
    (tRet (tVar 2)))) tNext)
    (tSeq (tAsg (tOp (uAdd K) (tOp (rIx K) (tVar 0) (tC (.int 2))) (tC (.int 1))) (gSub (tVar 0) (tC (.int 2)) rSetL))
    (tSeq (tAsg (tOp uMod (tOp (uAdd K) (tOp (uAdd K) (tOp (uMul K) (tOp (rIx K) (tVar 0) (tC (.int 1))) (tC (.int 48271))) (tC (.int 29))) (tOp (rIx K) (tVar 0) (tC (.int 2)))) (tC (.int 2147483647))) (gSub (tVar 0) (tC (.int 1)) rSetL))
    (tSeq (tAsg (tOp uMod (tOp (uAdd K) (tOp (uAdd K) (tOp (uMul K) (tOp (rIx K) (tVar 0) (tC (.int 1))) (tOp (rIx K) (tVar 0) (tC (.int 1)))) (tOp (uMul K) (tC (.int 39373)) (tOp (rIx K) (tVar 0) (tC (.int 1))))) (tC (.int 7))) (tC (.int 2147483629))) (gName 3))
    (tSeq (tAsg (tOp uMod (tOp (uAdd K) (tOp (uMul K) (tVar 3) (tVar 3)) (tOp (uMul K) (tC (.int 50021)) (tVar 3))) (tC (.int 2147483587))) (gName 3))
    (tRet (tOp uMod (tOp uFdv (tVar 3) (tC (.int 8))) (tVar 1))))))))
def sp__law_choice (K : PySem.W.Frag) : Sp := fun vs H Q E => vs.length = 2 ∧ t__law_choice K E { nx := fun _ H' => Q .non H', rt := Q } (start N__law_choice vs) H
abbrev s__law_plan : Stmt := top 13
abbrev N__law_plan : List Str := ["_law_state_here", "_law_sealed", "_law_commits", "_law_blocks", "_law_pages"]
theorem sc__law_plan : FnScope N__law_plan ["_law_state_here", "_law_sealed", "_law_commits"] (defScope s__law_plan) := ⟨rfl, rfl, rfl, by decide +kernel, rfl, by decide +kernel, by decide +kernel⟩
def t__law_plan (K : PySem.W.Frag) (E : XK) : TS :=
    (tSeq (tAsg (tOp (rIx K) (tLst (tCons (tTup (tCons (tC (.int 3)) (tCons (tC (.int 6)) tNil))) (tCons (tTup (tCons (tC (.int 3)) (tCons (tC (.int 8)) tNil))) (tCons (tTup (tCons (tC (.int 4)) (tCons (tC (.int 4)) tNil))) (tCons (tTup (tCons (tC (.int 4)) (tCons (tC (.int 6)) tNil))) (tCons (tTup (tCons (tC (.int 5)) (tCons (tC (.int 3)) tNil))) (tCons (tTup (tCons (tC (.int 5)) (tCons (tC (.int 4)) tNil))) (tCons (tTup (tCons (tC (.int 8)) (tCons (tC (.int 2)) tNil))) tNil)))))))) (tCall (sp__law_choice K) [] E (tCons (tVar 0) (tCons (tC (.int 7)) tNil)))) (gTup K 2 (gCons (gName 3) (gCons (gName 4) gNil))))
    (tRet (tTup (tCons (tVar 3) (tCons (tVar 4) (tCons (tOp (uAdd K) (tC (.int 1)) (tCall (sp__law_choice K) [] E (tCons (tVar 0) (tCons (tOp uSub (tOp (uMul K) (tOp uSub (tVar 3) (tC (.int 2))) (tVar 4)) (tC (.int 5))) tNil)))) (tCons (tVar 1) (tCons (tVar 2) tNil))))))))
def sp__law_plan (K : PySem.W.Frag) : Sp := fun vs H Q E => vs.length = 3 ∧ t__law_plan K E { nx := fun _ H' => Q .non H', rt := Q } (start N__law_plan vs) H
abbrev s__law_same : Stmt := top 14
abbrev N__law_same : List Str := ["_law_found", "_law_owed"]
theorem sc__law_same : FnScope N__law_same ["_law_found", "_law_owed"] (defScope s__law_same) := ⟨rfl, rfl, rfl, by decide +kernel, rfl, by decide +kernel, by decide +kernel⟩
def t__law_same (K : PySem.W.Frag) (E : XK) : TS :=
    (tRet (tOp (uEq K) (tCB (uReprD K) (tCons (tVar 0) tNil)) (tCB (uReprD K) (tCons (tVar 1) tNil))))
def sp__law_same (K : PySem.W.Frag) : Sp := fun vs H Q E => vs.length = 2 ∧ t__law_same K E { nx := fun _ H' => Q .non H', rt := Q } (start N__law_same vs) H
abbrev s__law_odd : Stmt := top 15
abbrev N__law_odd : List Str := ["_law_state_here", "_law_some"]
theorem sc__law_odd : FnScope N__law_odd ["_law_state_here"] (defScope s__law_odd) := ⟨rfl, rfl, rfl, by decide +kernel, rfl, by decide +kernel, by decide +kernel⟩
def t__law_odd (K : PySem.W.Frag) (E : XK) : TS :=
    (tSeq (tAsg (tLst (tCons (tC .non) (tCons (tC (.bl true)) (tCons (tC (.bl false)) (tCons (tC (.int 0)) (tCons (tC (.int 1)) (tCons (tUn (rU fun i => .int (-i)) (tC (.int 1))) (tCons (tOp uPow (tC (.int 10)) (tC (.int 29))) (tCons (tC (.str "")) (tCons (tC (.str "a")) (tCons (tC (.str "page")) (tCons (tTup tNil) (tCons (tLst tNil) (tCons tDNewK (tCons (tTup (tCons (tC (.int 0)) (tCons (tC (.int 1)) tNil))) (tCons (tLst (tCons (tC (.int 0)) tNil)) (tCons (tTup (tCons (tC (.str "none")) tNil)) tNil))))))))))))))))) (gName 1))
    (tRet (tOp (rIx K) (tVar 1) (tCall (sp__law_choice K) [] E (tCons (tVar 0) (tCons (tC (.int 16)) tNil))))))
def sp__law_odd (K : PySem.W.Frag) : Sp := fun vs H Q E => vs.length = 1 ∧ t__law_odd K E { nx := fun _ H' => Q .non H', rt := Q } (start N__law_odd vs) H
abbrev s__law_within : Stmt := top 16
abbrev N__law_within : List Str := ["_law_thing", "_law_least", "_law_limit"]
theorem sc__law_within : FnScope N__law_within ["_law_thing", "_law_least", "_law_limit"] (defScope s__law_within) := ⟨rfl, rfl, rfl, by decide +kernel, rfl, by decide +kernel, by decide +kernel⟩
def t__law_within (K : PySem.W.Frag) (E : XK) : TS :=
    (tRet (tAndV (tCB (rIsi K) (tCons (tVar 0) (tCons (tC (.ty "int")) tNil))) (tAndV (tNotV (tCB (rIsi K) (tCons (tVar 0) (tCons (tC (.ty "bool")) tNil)))) (tChain uLe uLe (tVar 1) (tVar 0) (tVar 2)))))
def sp__law_within (K : PySem.W.Frag) : Sp := fun vs H Q E => vs.length = 3 ∧ t__law_within K E { nx := fun _ H' => Q .non H', rt := Q } (start N__law_within vs) H
abbrev s__law_is_plan : Stmt := top 17
abbrev N__law_is_plan : List Str := ["_law_thing"]
theorem sc__law_is_plan : FnScope N__law_is_plan ["_law_thing"] (defScope s__law_is_plan) := ⟨rfl, rfl, rfl, by decide +kernel, rfl, by decide +kernel, by decide +kernel⟩
def t__law_is_plan (K : PySem.W.Frag) (E : XK) : TS :=
    (tSeq (tIfS (tOr (tNot (tB (tCB (rIsi K) (tCons (tVar 0) (tCons (tC (.ty "tuple")) tNil))))) (tTest (tOp (uNe K) (tCB (rLen K) (tCons (tVar 0) tNil)) (tC (.int 5))))) (tRet (tC (.bl false))) tNext)
    (tSeq (tIfS (tOr (tNot (tB (tCall (sp__law_within K) [] E (tCons (tOp (rIx K) (tVar 0) (tC (.int 0))) (tCons (tC (.int 3)) (tCons (tC (.int 8)) tNil)))))) (tOr (tNot (tB (tCall (sp__law_within K) [] E (tCons (tOp (rIx K) (tVar 0) (tC (.int 1))) (tCons (tC (.int 2)) (tCons (tC (.int 8)) tNil)))))) (tNot (tB (tCall (sp__law_within K) [] E (tCons (tOp (rIx K) (tVar 0) (tC (.int 2))) (tCons (tC (.int 1)) (tCons (tC (.int 16)) tNil)))))))) (tRet (tC (.bl false))) tNext)
    (tSeq (tIfS (tOr (tNot (tB (tCB (rIsi K) (tCons (tOp (rIx K) (tVar 0) (tC (.int 3))) (tCons (tC (.ty "bool")) tNil))))) (tNot (tB (tCB (rIsi K) (tCons (tOp (rIx K) (tVar 0) (tC (.int 4))) (tCons (tC (.ty "bool")) tNil)))))) (tRet (tC (.bl false))) tNext)
    (tRet (tOp uLe (tOp (uAdd K) (tOp (rIx K) (tVar 0) (tC (.int 2))) (tC (.int 5))) (tOp uSub (tOp (uMul K) (tOp (rIx K) (tVar 0) (tC (.int 0))) (tOp (rIx K) (tVar 0) (tC (.int 1)))) (tOp (uMul K) (tC (.int 2)) (tOp (rIx K) (tVar 0) (tC (.int 1))))))))))
def sp__law_is_plan (K : PySem.W.Frag) : Sp := fun vs H Q E => vs.length = 1 ∧ t__law_is_plan K E { nx := fun _ H' => Q .non H', rt := Q } (start N__law_is_plan vs) H
abbrev s_law : Stmt := top 18
abbrev N_law : List Str := ["_law_script", "_law_k", "_law_state_here", "_law_plan_here", "_law_things", "_law_at", "_law_other", "_law_thing", "_law_stays", "_law_blocks", "_law_pages", "_law_places"]
theorem sc_law : FnScope N_law ["_law_script"] (defScope s_law) := ⟨rfl, rfl, rfl, by decide +kernel, rfl, by decide +kernel, by decide +kernel⟩
def t_law (K : PySem.W.Frag) (E : XK) : TS :=
    (tSeq (tFor (iRng1 (tCons (tCB uMax2 (tCons (tC (.int 1)) (tCons (tCB uMin2 (tCons (tCB (rLen K) (tCons (tVar 0) tNil)) (tCons (tC (.int 8)) tNil))) tNil))) tNil)) (gName 1) (tSeq (tAsg (tCall (sp__law_state K) [] E (tCons (tVar 0) (tCons (tVar 1) tNil))) (gName 2))
    (tSeq (tAsg (tCall (sp__law_plan K) [] E (tCons (tVar 2) (tCons (tOp (uEq K) (tCall (sp__law_choice K) [] E (tCons (tVar 2) (tCons (tC (.int 2)) tNil))) (tC (.int 0))) (tCons (tOp (uEq K) (tCall (sp__law_choice K) [] E (tCons (tVar 2) (tCons (tC (.int 2)) tNil))) (tC (.int 0))) tNil)))) (gName 3))
    (tSeq (tIfS (tTest (tOp uNotN (tCall (sp_is_plan K) [] E (tCons (tVar 3) tNil)) (tC (.bl true)))) (tRet (tC (.bl false))) tNext)
    (tSeq (tAsg (tLst (tCons (tCB (uList K) (tCons (tVar 3) tNil)) (tCons (tSl (uSl K) (tVar 3) tNoPart (tPart (tC (.int 4)))) (tCons (tOp (uAdd K) (tVar 3) (tTup (tCons (tC (.bl true)) tNil))) (tCons (uRev K (tVar 3)) (tCons (tCall (sp__law_odd K) [] E (tCons (tVar 2) tNil)) tNil)))))) (gName 4))
    (tSeq (tAsg (tOp (uAdd K) (tVar 4) (tLst (tCons (tTup (tCons (tC (.int 8)) (tCons (tC (.int 8)) (tCons (tC (.int 16)) (tCons (tC (.bl true)) (tCons (tC (.bl false)) tNil)))))) (tCons (tTup tNil) tNil)))) (gName 4))
    (tSeq (tFor (iRng1 (tCons (tC (.int 5)) tNil)) (gName 5) (tFor (iList K (tLst (tCons (tOp (uAddB K) (tOp (rIx K) (tVar 3) (tVar 5)) (tC (.int 1))) (tCons (tOp uSubB (tOp (rIx K) (tVar 3) (tVar 5)) (tC (.int 1))) (tCons (tC (.int 0)) (tCons (tC (.int 2)) (tCons (tC (.int 9)) (tCons (tC (.int 17)) (tCons (tC .non) (tCons (tC (.bl true)) (tCons (tC (.str "3")) (tCons (tTup (tCons (tC (.int 3)) tNil)) (tCons (tCall (sp__law_odd K) [] E (tCons (tVar 2) tNil)) tNil))))))))))))) (gName 6) (tDrop (tBM K "list" rAppend (tVar 4) (tCons (tOp (uAdd K) (tOp (uAdd K) (tSl (uSl K) (tVar 3) tNoPart (tPart (tVar 5))) (tTup (tCons (tVar 6) tNil))) (tSl (uSl K) (tVar 3) (tPart (tOp (uAdd K) (tVar 5) (tC (.int 1)))) tNoPart)) tNil)))))
    (tFor (uIter K (tVar 4)) (gName 7) (tSeq (tAsg (tCB (uReprD K) (tCons (tVar 7) tNil)) (gName 8))
    (tIfS (tOr (tNot (tB (tCall (sp__law_same K) [] E (tCons (tCall (sp_is_plan K) [] E (tCons (tVar 7) tNil)) (tCons (tCall (sp__law_is_plan K) [] E (tCons (tVar 7) tNil)) tNil))))) (tTest (tOp (uNe K) (tCB (uReprD K) (tCons (tVar 7) tNil)) (tVar 8)))) (tRet (tC (.bl false))) tNext))))))))))
    (tSeq (tFor (iList K (tLst (tCons (tC (.int 2)) (tCons (tC (.int 3)) (tCons (tC (.int 4)) (tCons (tC (.int 7)) (tCons (tC (.int 8)) (tCons (tC (.int 9)) tNil)))))))) (gName 9) (tFor (iList K (tLst (tCons (tC (.int 1)) (tCons (tC (.int 2)) (tCons (tC (.int 3)) (tCons (tC (.int 5)) (tCons (tC (.int 6)) (tCons (tC (.int 7)) (tCons (tC (.int 8)) (tCons (tC (.int 9)) tNil)))))))))) (gName 10) (tFor (iList K (tLst (tCons (tC (.int 0)) (tCons (tC (.int 1)) (tCons (tC (.int 2)) (tCons (tC (.int 3)) (tCons (tC (.int 7)) (tCons (tC (.int 15)) (tCons (tC (.int 16)) (tCons (tC (.int 17)) tNil)))))))))) (gName 11) (tSeq (tAsg (tTup (tCons (tVar 9) (tCons (tVar 10) (tCons (tVar 11) (tCons (tC (.bl true)) (tCons (tC (.bl false)) tNil)))))) (gName 7))
    (tIfS (tTest (tOp (uNe K) (tCall (sp_is_plan K) [] E (tCons (tVar 7) tNil)) (tCall (sp__law_is_plan K) [] E (tCons (tVar 7) tNil)))) (tRet (tC (.bl false))) tNext)))))
    (tRet (tC (.bl true)))))
def sp_law (K : PySem.W.Frag) : Sp := fun vs H Q E => vs.length = 1 ∧ t_law K E { nx := fun _ H' => Q .non H', rt := Q } (start N_law vs) H
/-! ### what the top has written -/
structure Bs (K : PySem.W.Frag) (mg : Str → Option Value) : Prop where
  n_bool : mg "bool" = none
  n_int : mg "int" = none
  n_isinstance : mg "isinstance" = none
  n_len : mg "len" = none
  n_list : mg "list" = none
  n_max : mg "max" = none
  n_min : mg "min" = none
  n_range : mg "range" = none
  n_repr : mg "repr" = none
  n_tuple : mg "tuple" = none
  c_MOST_BLOCKS : ∃ t, mg "MOST_BLOCKS" = some (.int 8 t)
  c_MOST_PAGES : ∃ t, mg "MOST_PAGES" = some (.int 8 t)
  c_MOST_PLACES : ∃ t, mg "MOST_PLACES" = some (.int 16 t)
  c_SPARE : ∃ t, mg "SPARE" = some (.int 5 t)
/-! ### each def keeps its promise -/
section
variable {P : Program} {w : World} {K : PySem.W.Frag} {mg : Str → Option Value} {base : Heap} {f : Addr} {fd : FuncData}
abbrev FnP (K : PySem.W.Frag) (x : Str) (st : Stmt) (dvs : List V) (f : Addr) (fd : FuncData) : Prop := FunD K x x (defArgs st) (defBody st) (defScope st) dvs [] f fd
theorem ok_is_whole (F : FnP K "is_whole" s_is_whole [] f fd) (B : Bs K mg) : FnOk P w K mg base (L2.CX P w) 1 f fd ["thing"] (sp_is_whole K) := by
  have sc := sc_is_whole
  refine F.ok sc (fun vs H Q E h => h.1) (fun cdv A outer s H vs Q E hr h => ⟨t_is_whole K E, ?_, h.2⟩)
  have tk := takes_def (P := P) (w := w) (K := K) (mg := mg) (base := base) (N := N_is_whole) (qual := "is_whole") (scope := defScope s_is_whole) (f := f) (cd := cdv) (A := A) (outer := outer) (s := s) (H := H) (E := E)
  have pC := pass_def tk
  have pO := own_def (P := P) (w := w) (K := K) (mg := mg) (base := base) (N := N_is_whole) (qual := "is_whole") (scope := defScope s_is_whole) (f := f) (cd := cdv) (A := A) (outer := outer) (s := s) (H := H) (E := E)
  have hU := hr.units
  exact (pss_one (ps_ret (L2.pe_and (pe_callB call_isi rfl B.n_isinstance (by decide +kernel) (pa_cons (pv 0) (pa_cons (pe_bltn rfl B.n_int (by decide +kernel) rfl) pa_nil))) (pe_one (pe_not (pe_callB call_isi rfl B.n_isinstance (by decide +kernel) (pa_cons (pv 0) (pa_cons (pe_bltn rfl B.n_bool (by decide +kernel) rfl) pa_nil))))))))
theorem ok_is_within (F : FnP K "is_within" s_is_within [] f fd) (B : Bs K mg) (C_is_whole : Cal P w K mg base 1 "is_whole" ["thing"] [] (sp_is_whole K)) : FnOk P w K mg base (L2.CX P w) 2 f fd ["thing", "least", "most"] (sp_is_within K) := by
  have sc := sc_is_within
  refine F.ok sc (fun vs H Q E h => h.1) (fun cdv A outer s H vs Q E hr h => ⟨t_is_within K E, ?_, h.2⟩)
  have tk := takes_def (P := P) (w := w) (K := K) (mg := mg) (base := base) (N := N_is_within) (qual := "is_within") (scope := defScope s_is_within) (f := f) (cd := cdv) (A := A) (outer := outer) (s := s) (H := H) (E := E)
  have pC := pass_def tk
  have pO := own_def (P := P) (w := w) (K := K) (mg := mg) (base := base) (N := N_is_within) (qual := "is_within") (scope := defScope s_is_within) (f := f) (cd := cdv) (A := A) (outer := outer) (s := s) (H := H) (E := E)
  have hU := hr.units
  exact (pss_one (ps_ret (L2.pe_and (pe_cal C_is_whole hr (by decide) rfl pC (pa_cons (pv 0) pa_nil)) (pe_one (pe_chain o_le o_le (pv 1) (pv 0) (pv 2))))))
theorem ok_is_plan (F : FnP K "is_plan" s_is_plan [] f fd) (B : Bs K mg) (C_is_within : Cal P w K mg base 2 "is_within" ["thing", "least", "most"] [] (sp_is_within K)) : FnOk P w K mg base (L2.CX P w) 3 f fd ["thing"] (sp_is_plan K) := by
  have sc := sc_is_plan
  obtain ⟨_, h_MOST_BLOCKS⟩ := B.c_MOST_BLOCKS
  obtain ⟨_, h_MOST_PAGES⟩ := B.c_MOST_PAGES
  obtain ⟨_, h_MOST_PLACES⟩ := B.c_MOST_PLACES
  obtain ⟨_, h_SPARE⟩ := B.c_SPARE
  refine F.ok sc (fun vs H Q E h => h.1) (fun cdv A outer s H vs Q E hr h => ⟨t_is_plan K E, ?_, h.2⟩)
  have tk := takes_def (P := P) (w := w) (K := K) (mg := mg) (base := base) (N := N_is_plan) (qual := "is_plan") (scope := defScope s_is_plan) (f := f) (cd := cdv) (A := A) (outer := outer) (s := s) (H := H) (E := E)
  have pC := pass_def tk
  have pO := own_def (P := P) (w := w) (K := K) (mg := mg) (base := base) (N := N_is_plan) (qual := "is_plan") (scope := defScope s_is_plan) (f := f) (cd := cdv) (A := A) (outer := outer) (s := s) (H := H) (E := E)
  have hU := hr.units
  exact (pss_cons (ps_if (PW.pt (pw_or (pt_not (pt_val (pe_callB call_isi rfl B.n_isinstance (by decide +kernel) (pa_cons (pv 0) (pa_cons (pe_bltn rfl B.n_tuple (by decide +kernel) rfl) pa_nil))))) (pw_or1 (pt_cmpR (o_ne hU) (pe_callB call_len rfl B.n_len (by decide +kernel) (pa_cons (pv 0) pa_nil)) pe_int (nomark _))))) (pss_one (ps_ret pe_bl)) pss_nil)
      (pss_cons (ps_asg (pv 0) (pg_tup rfl (pgs_cons (pg_name (i := 1) sc.nd rfl (Or.inl rfl)) (pgs_cons (pg_name (i := 2) sc.nd rfl (Or.inl rfl)) (pgs_cons (pg_name (i := 3) sc.nd rfl (Or.inl rfl)) (pgs_cons (pg_name (i := 4) sc.nd rfl (Or.inl rfl)) (pgs_cons (pg_name (i := 5) sc.nd rfl (Or.inl rfl)) pgs_nil)))))))
      (pss_cons (ps_if (PW.pt (pw_or (pt_not (pt_val (pe_cal C_is_within hr (by decide) rfl pC (pa_cons (pv 1) (pa_cons pe_int (pa_cons (pe_glob rfl h_MOST_BLOCKS ⟨_, rfl⟩) pa_nil)))))) (pw_or1 (pt_not (pt_val (pe_cal C_is_within hr (by decide) rfl pC (pa_cons (pv 2) (pa_cons pe_int (pa_cons (pe_glob rfl h_MOST_PAGES ⟨_, rfl⟩) pa_nil))))))))) (pss_one (ps_ret pe_bl)) pss_nil)
      (pss_cons (ps_if (pt_not (pt_val (pe_cal C_is_within hr (by decide) rfl pC (pa_cons (pv 3) (pa_cons pe_int (pa_cons (pe_callB (call_min2 rfl) rfl B.n_min (by decide +kernel) (pa_cons (pe_glob rfl h_MOST_PLACES ⟨_, rfl⟩) (pa_cons (pe_op o_sub (pe_op o_mul (pe_op o_sub (pv 1) pe_int) (pv 2)) (pe_glob rfl h_SPARE ⟨_, rfl⟩)) pa_nil))) pa_nil)))))) (pss_one (ps_ret pe_bl)) pss_nil)
      (pss_one (ps_ret (L2.pe_and (pe_callB call_isi rfl B.n_isinstance (by decide +kernel) (pa_cons (pv 4) (pa_cons (pe_bltn rfl B.n_bool (by decide +kernel) rfl) pa_nil))) (pe_one (pe_callB call_isi rfl B.n_isinstance (by decide +kernel) (pa_cons (pv 5) (pa_cons (pe_bltn rfl B.n_bool (by decide +kernel) rfl) pa_nil)))))))))))
theorem ok__law_cell_at (F : FnP K "_law_cell_at" s__law_cell_at [] f fd) (B : Bs K mg) : FnOk P w K mg base (L2.CX P w) 1 f fd ["_law_script", "_law_k"] (sp__law_cell_at K) := by
  have sc := sc__law_cell_at
  refine F.ok sc (fun vs H Q E h => h.1) (fun cdv A outer s H vs Q E hr h => ⟨t__law_cell_at K E, ?_, h.2⟩)
  have tk := takes_def (P := P) (w := w) (K := K) (mg := mg) (base := base) (N := N__law_cell_at) (qual := "_law_cell_at") (scope := defScope s__law_cell_at) (f := f) (cd := cdv) (A := A) (outer := outer) (s := s) (H := H) (E := E)
  have pC := pass_def tk
  have pO := own_def (P := P) (w := w) (K := K) (mg := mg) (base := base) (N := N__law_cell_at) (qual := "_law_cell_at") (scope := defScope s__law_cell_at) (f := f) (cd := cdv) (A := A) (outer := outer) (s := s) (H := H) (E := E)
  have hU := hr.units
  exact (pss_cons (ps_if (pt_cmpR o_lt (pv 1) (pe_callB call_len rfl B.n_len (by decide +kernel) (pa_cons (pv 0) pa_nil)) (nomark _)) (pss_one (ps_ret (pe_ix ix_seq (pv 0) (pv 1) (fun _ _ => rfl)))) pss_nil)
      (pss_one (ps_ret pe_int)))
theorem ok__law_state (F : FnP K "_law_state" s__law_state [] f fd) (B : Bs K mg) (C__law_cell_at : Cal P w K mg base 1 "_law_cell_at" ["_law_script", "_law_k"] [] (sp__law_cell_at K)) : FnOk P w K mg base (L2.CX P w) 2 f fd ["_law_script", "_law_k"] (sp__law_state K) := by
  have sc := sc__law_state
  refine F.ok sc (fun vs H Q E h => h.1) (fun cdv A outer s H vs Q E hr h => ⟨t__law_state K E, ?_, h.2⟩)
  have tk := takes_def (P := P) (w := w) (K := K) (mg := mg) (base := base) (N := N__law_state) (qual := "_law_state") (scope := defScope s__law_state) (f := f) (cd := cdv) (A := A) (outer := outer) (s := s) (H := H) (E := E)
  have pC := pass_def tk
  have pO := own_def (P := P) (w := w) (K := K) (mg := mg) (base := base) (N := N__law_state) (qual := "_law_state") (scope := defScope s__law_state) (f := f) (cd := cdv) (A := A) (outer := outer) (s := s) (H := H) (E := E)
  have hU := hr.units
  exact (pss_cons (ps_set (i := 2) sc.nd rfl (Or.inl rfl) (pe_cal C__law_cell_at hr (by decide) rfl pC (pa_cons (pv 0) (pa_cons (pv 1) pa_nil))))
      (pss_one (ps_ret (pe_lst (pa_cons (pe_callB (call_max2 rfl) rfl B.n_max (by decide +kernel) (pa_cons pe_int (pa_cons (pe_op o_sub (pv 2) (pe_op o_pow pe_int pe_int)) pa_nil))) (pa_cons (pe_op o_add (pe_op o_mod (pv 2) pe_int) pe_int) (pa_cons pe_int pa_nil)))))))
theorem ok__law_choice (F : FnP K "_law_choice" s__law_choice [] f fd) (B : Bs K mg) : FnOk P w K mg base (L2.CX P w) 1 f fd ["_law_state_here", "_law_many"] (sp__law_choice K) := by
  have sc := sc__law_choice
  refine F.ok sc (fun vs H Q E h => h.1) (fun cdv A outer s H vs Q E hr h => ⟨t__law_choice K E, ?_, h.2⟩)
  have tk := takes_def (P := P) (w := w) (K := K) (mg := mg) (base := base) (N := N__law_choice) (qual := "_law_choice") (scope := defScope s__law_choice) (f := f) (cd := cdv) (A := A) (outer := outer) (s := s) (H := H) (E := E)
  have pC := pass_def tk
  have pO := own_def (P := P) (w := w) (K := K) (mg := mg) (base := base) (N := N__law_choice) (qual := "_law_choice") (scope := defScope s__law_choice) (f := f) (cd := cdv) (A := A) (outer := outer) (s := s) (H := H) (E := E)
  have hU := hr.units
  exact (pss_cons (ps_if (pt_cmpR o_gt (pe_ix ix_seq (pv 0) pe_int (fun _ _ => rfl)) pe_int (nomark _)) (pss_cons (ps_set (i := 2) sc.nd rfl (Or.inl rfl) (pe_op o_mod (pe_ix ix_seq (pv 0) pe_int (fun _ _ => rfl)) (pv 1)))
      (pss_cons (ps_asg (pe_op o_fdv (pe_ix ix_seq (pv 0) pe_int (fun _ _ => rfl)) (pv 1)) (pg_sub (pv 0) pe_int set_list))
      (pss_one (ps_ret (pv 2))))) pss_nil)
      (pss_cons (ps_asg (pe_op o_add (pe_ix ix_seq (pv 0) pe_int (fun _ _ => rfl)) pe_int) (pg_sub (pv 0) pe_int set_list))
      (pss_cons (ps_asg (pe_op o_mod (pe_op o_add (pe_op o_add (pe_op o_mul (pe_ix ix_seq (pv 0) pe_int (fun _ _ => rfl)) pe_int) pe_int) (pe_ix ix_seq (pv 0) pe_int (fun _ _ => rfl))) pe_int) (pg_sub (pv 0) pe_int set_list))
      (pss_cons (ps_set (i := 3) sc.nd rfl (Or.inl rfl) (pe_op o_mod (pe_op o_add (pe_op o_add (pe_op o_mul (pe_ix ix_seq (pv 0) pe_int (fun _ _ => rfl)) (pe_ix ix_seq (pv 0) pe_int (fun _ _ => rfl))) (pe_op o_mul pe_int (pe_ix ix_seq (pv 0) pe_int (fun _ _ => rfl)))) pe_int) pe_int))
      (pss_cons (ps_set (i := 3) sc.nd rfl (Or.inl rfl) (pe_op o_mod (pe_op o_add (pe_op o_mul (pv 3) (pv 3)) (pe_op o_mul pe_int (pv 3))) pe_int))
      (pss_one (ps_ret (pe_op o_mod (pe_op o_fdv (pv 3) pe_int) (pv 1)))))))))
theorem ok__law_plan (F : FnP K "_law_plan" s__law_plan [] f fd) (B : Bs K mg) (C__law_choice : Cal P w K mg base 1 "_law_choice" ["_law_state_here", "_law_many"] [] (sp__law_choice K)) : FnOk P w K mg base (L2.CX P w) 2 f fd ["_law_state_here", "_law_sealed", "_law_commits"] (sp__law_plan K) := by
  have sc := sc__law_plan
  refine F.ok sc (fun vs H Q E h => h.1) (fun cdv A outer s H vs Q E hr h => ⟨t__law_plan K E, ?_, h.2⟩)
  have tk := takes_def (P := P) (w := w) (K := K) (mg := mg) (base := base) (N := N__law_plan) (qual := "_law_plan") (scope := defScope s__law_plan) (f := f) (cd := cdv) (A := A) (outer := outer) (s := s) (H := H) (E := E)
  have pC := pass_def tk
  have pO := own_def (P := P) (w := w) (K := K) (mg := mg) (base := base) (N := N__law_plan) (qual := "_law_plan") (scope := defScope s__law_plan) (f := f) (cd := cdv) (A := A) (outer := outer) (s := s) (H := H) (E := E)
  have hU := hr.units
  exact (pss_cons (ps_asg (pe_ix ix_seq (pe_lst (pa_cons (pe_tup (pa_cons pe_int (pa_cons pe_int pa_nil))) (pa_cons (pe_tup (pa_cons pe_int (pa_cons pe_int pa_nil))) (pa_cons (pe_tup (pa_cons pe_int (pa_cons pe_int pa_nil))) (pa_cons (pe_tup (pa_cons pe_int (pa_cons pe_int pa_nil))) (pa_cons (pe_tup (pa_cons pe_int (pa_cons pe_int pa_nil))) (pa_cons (pe_tup (pa_cons pe_int (pa_cons pe_int pa_nil))) (pa_cons (pe_tup (pa_cons pe_int (pa_cons pe_int pa_nil))) pa_nil)))))))) (pe_cal C__law_choice hr (by decide) rfl pC (pa_cons (pv 0) (pa_cons pe_int pa_nil))) (fun _ _ => rfl)) (pg_tup rfl (pgs_cons (pg_name (i := 3) sc.nd rfl (Or.inl rfl)) (pgs_cons (pg_name (i := 4) sc.nd rfl (Or.inl rfl)) pgs_nil))))
      (pss_one (ps_ret (pe_tup (pa_cons (pv 3) (pa_cons (pv 4) (pa_cons (pe_op o_add pe_int (pe_cal C__law_choice hr (by decide) rfl pC (pa_cons (pv 0) (pa_cons (pe_op o_sub (pe_op o_mul (pe_op o_sub (pv 3) pe_int) (pv 4)) pe_int) pa_nil)))) (pa_cons (pv 1) (pa_cons (pv 2) pa_nil)))))))))
theorem ok__law_same (F : FnP K "_law_same" s__law_same [] f fd) (B : Bs K mg) : FnG P w K mg base 1 f fd ["_law_found", "_law_owed"] (sp__law_same K) := by
  have sc := sc__law_same
  refine okG F sc (fun vs H Q E h => h.1) (fun cdv A outer s H vs Q E hG hr h => ⟨t__law_same K E, ?_, h.2⟩)
  have tk := takes_def (P := P) (w := w) (K := K) (mg := mg) (base := base) (N := N__law_same) (qual := "_law_same") (scope := defScope s__law_same) (f := f) (cd := cdv) (A := A) (outer := outer) (s := s) (H := H) (E := E)
  have pC := pass_def tk
  have pO := own_def (P := P) (w := w) (K := K) (mg := mg) (base := base) (N := N__law_same) (qual := "_law_same") (scope := defScope s__law_same) (f := f) (cd := cdv) (A := A) (outer := outer) (s := s) (H := H) (E := E)
  have hU := hr.units
  exact (pss_one (ps_ret (pe_cmpR (o_eq hU) (pe_callB (call_reprT hG hU) rfl B.n_repr (by decide +kernel) (pa_cons (pv 0) pa_nil)) (pe_callB (call_reprT hG hU) rfl B.n_repr (by decide +kernel) (pa_cons (pv 1) pa_nil)) (nomark _))))
theorem ok__law_odd (F : FnP K "_law_odd" s__law_odd [] f fd) (B : Bs K mg) (C__law_choice : Cal P w K mg base 1 "_law_choice" ["_law_state_here", "_law_many"] [] (sp__law_choice K)) : FnOk P w K mg base (L2.CX P w) 2 f fd ["_law_state_here"] (sp__law_odd K) := by
  have sc := sc__law_odd
  refine F.ok sc (fun vs H Q E h => h.1) (fun cdv A outer s H vs Q E hr h => ⟨t__law_odd K E, ?_, h.2⟩)
  have tk := takes_def (P := P) (w := w) (K := K) (mg := mg) (base := base) (N := N__law_odd) (qual := "_law_odd") (scope := defScope s__law_odd) (f := f) (cd := cdv) (A := A) (outer := outer) (s := s) (H := H) (E := E)
  have pC := pass_def tk
  have pO := own_def (P := P) (w := w) (K := K) (mg := mg) (base := base) (N := N__law_odd) (qual := "_law_odd") (scope := defScope s__law_odd) (f := f) (cd := cdv) (A := A) (outer := outer) (s := s) (H := H) (E := E)
  have hU := hr.units
  exact (pss_cons (ps_set (i := 1) sc.nd rfl (Or.inl rfl) (pe_lst (pa_cons pe_non (pa_cons pe_bl (pa_cons pe_bl (pa_cons pe_int (pa_cons pe_int (pa_cons (pe_un un_neg pe_int) (pa_cons (pe_op o_pow pe_int pe_int) (pa_cons pe_str (pa_cons pe_str (pa_cons pe_str (pa_cons (pe_tup pa_nil) (pa_cons (pe_lst pa_nil) (pa_cons pe_dnewK (pa_cons (pe_tup (pa_cons pe_int (pa_cons pe_int pa_nil))) (pa_cons (pe_lst (pa_cons pe_int pa_nil)) (pa_cons (pe_tup (pa_cons pe_str pa_nil)) pa_nil))))))))))))))))))
      (pss_one (ps_ret (pe_ix ix_seq (pv 1) (pe_cal C__law_choice hr (by decide) rfl pC (pa_cons (pv 0) (pa_cons pe_int pa_nil))) (fun _ _ => rfl)))))
theorem ok__law_within (F : FnP K "_law_within" s__law_within [] f fd) (B : Bs K mg) : FnOk P w K mg base (L2.CX P w) 1 f fd ["_law_thing", "_law_least", "_law_limit"] (sp__law_within K) := by
  have sc := sc__law_within
  refine F.ok sc (fun vs H Q E h => h.1) (fun cdv A outer s H vs Q E hr h => ⟨t__law_within K E, ?_, h.2⟩)
  have tk := takes_def (P := P) (w := w) (K := K) (mg := mg) (base := base) (N := N__law_within) (qual := "_law_within") (scope := defScope s__law_within) (f := f) (cd := cdv) (A := A) (outer := outer) (s := s) (H := H) (E := E)
  have pC := pass_def tk
  have pO := own_def (P := P) (w := w) (K := K) (mg := mg) (base := base) (N := N__law_within) (qual := "_law_within") (scope := defScope s__law_within) (f := f) (cd := cdv) (A := A) (outer := outer) (s := s) (H := H) (E := E)
  have hU := hr.units
  exact (pss_one (ps_ret (L2.pe_and (pe_callB call_isi rfl B.n_isinstance (by decide +kernel) (pa_cons (pv 0) (pa_cons (pe_bltn rfl B.n_int (by decide +kernel) rfl) pa_nil))) (L2.pe_and (pe_not (pe_callB call_isi rfl B.n_isinstance (by decide +kernel) (pa_cons (pv 0) (pa_cons (pe_bltn rfl B.n_bool (by decide +kernel) rfl) pa_nil)))) (pe_one (pe_chain o_le o_le (pv 1) (pv 0) (pv 2)))))))
theorem ok__law_is_plan (F : FnP K "_law_is_plan" s__law_is_plan [] f fd) (B : Bs K mg) (C__law_within : Cal P w K mg base 1 "_law_within" ["_law_thing", "_law_least", "_law_limit"] [] (sp__law_within K)) : FnOk P w K mg base (L2.CX P w) 2 f fd ["_law_thing"] (sp__law_is_plan K) := by
  have sc := sc__law_is_plan
  refine F.ok sc (fun vs H Q E h => h.1) (fun cdv A outer s H vs Q E hr h => ⟨t__law_is_plan K E, ?_, h.2⟩)
  have tk := takes_def (P := P) (w := w) (K := K) (mg := mg) (base := base) (N := N__law_is_plan) (qual := "_law_is_plan") (scope := defScope s__law_is_plan) (f := f) (cd := cdv) (A := A) (outer := outer) (s := s) (H := H) (E := E)
  have pC := pass_def tk
  have pO := own_def (P := P) (w := w) (K := K) (mg := mg) (base := base) (N := N__law_is_plan) (qual := "_law_is_plan") (scope := defScope s__law_is_plan) (f := f) (cd := cdv) (A := A) (outer := outer) (s := s) (H := H) (E := E)
  have hU := hr.units
  exact (pss_cons (ps_if (PW.pt (pw_or (pt_not (pt_val (pe_callB call_isi rfl B.n_isinstance (by decide +kernel) (pa_cons (pv 0) (pa_cons (pe_bltn rfl B.n_tuple (by decide +kernel) rfl) pa_nil))))) (pw_or1 (pt_cmpR (o_ne hU) (pe_callB call_len rfl B.n_len (by decide +kernel) (pa_cons (pv 0) pa_nil)) pe_int (nomark _))))) (pss_one (ps_ret pe_bl)) pss_nil)
      (pss_cons (ps_if (PW.pt (pw_or (pt_not (pt_val (pe_cal C__law_within hr (by decide) rfl pC (pa_cons (pe_ix ix_seq (pv 0) pe_int (fun _ _ => rfl)) (pa_cons pe_int (pa_cons pe_int pa_nil)))))) (pw_or (pt_not (pt_val (pe_cal C__law_within hr (by decide) rfl pC (pa_cons (pe_ix ix_seq (pv 0) pe_int (fun _ _ => rfl)) (pa_cons pe_int (pa_cons pe_int pa_nil)))))) (pw_or1 (pt_not (pt_val (pe_cal C__law_within hr (by decide) rfl pC (pa_cons (pe_ix ix_seq (pv 0) pe_int (fun _ _ => rfl)) (pa_cons pe_int (pa_cons pe_int pa_nil)))))))))) (pss_one (ps_ret pe_bl)) pss_nil)
      (pss_cons (ps_if (PW.pt (pw_or (pt_not (pt_val (pe_callB call_isi rfl B.n_isinstance (by decide +kernel) (pa_cons (pe_ix ix_seq (pv 0) pe_int (fun _ _ => rfl)) (pa_cons (pe_bltn rfl B.n_bool (by decide +kernel) rfl) pa_nil))))) (pw_or1 (pt_not (pt_val (pe_callB call_isi rfl B.n_isinstance (by decide +kernel) (pa_cons (pe_ix ix_seq (pv 0) pe_int (fun _ _ => rfl)) (pa_cons (pe_bltn rfl B.n_bool (by decide +kernel) rfl) pa_nil)))))))) (pss_one (ps_ret pe_bl)) pss_nil)
      (pss_one (ps_ret (pe_cmpR o_le (pe_op o_add (pe_ix ix_seq (pv 0) pe_int (fun _ _ => rfl)) pe_int) (pe_op o_sub (pe_op o_mul (pe_ix ix_seq (pv 0) pe_int (fun _ _ => rfl)) (pe_ix ix_seq (pv 0) pe_int (fun _ _ => rfl))) (pe_op o_mul pe_int (pe_ix ix_seq (pv 0) pe_int (fun _ _ => rfl)))) (nomark _)))))))
theorem ok_law (F : FnP K "law" s_law [] f fd) (B : Bs K mg) (C__law_choice : Cal P w K mg base 1 "_law_choice" ["_law_state_here", "_law_many"] [] (sp__law_choice K)) (C__law_is_plan : Cal P w K mg base 2 "_law_is_plan" ["_law_thing"] [] (sp__law_is_plan K)) (C__law_odd : Cal P w K mg base 2 "_law_odd" ["_law_state_here"] [] (sp__law_odd K)) (C__law_plan : Cal P w K mg base 2 "_law_plan" ["_law_state_here", "_law_sealed", "_law_commits"] [] (sp__law_plan K)) (C__law_same : CalG P w K mg base 1 "_law_same" ["_law_found", "_law_owed"] [] (sp__law_same K)) (C__law_state : Cal P w K mg base 2 "_law_state" ["_law_script", "_law_k"] [] (sp__law_state K)) (C_is_plan : Cal P w K mg base 3 "is_plan" ["thing"] [] (sp_is_plan K)) : FnG P w K mg base 4 f fd ["_law_script"] (sp_law K) := by
  have sc := sc_law
  refine okG F sc (fun vs H Q E h => h.1) (fun cdv A outer s H vs Q E hG hr h => ⟨t_law K E, ?_, h.2⟩)
  have tk := takes_def (P := P) (w := w) (K := K) (mg := mg) (base := base) (N := N_law) (qual := "law") (scope := defScope s_law) (f := f) (cd := cdv) (A := A) (outer := outer) (s := s) (H := H) (E := E)
  have pC := pass_def tk
  have pO := own_def (P := P) (w := w) (K := K) (mg := mg) (base := base) (N := N_law) (qual := "law") (scope := defScope s_law) (f := f) (cd := cdv) (A := A) (outer := outer) (s := s) (H := H) (E := E)
  have hU := hr.units
  exact (pss_cons (ps_for pO rfl (pi_range1 rfl B.n_range (pa_cons (pe_callB (call_max2 rfl) rfl B.n_max (by decide +kernel) (pa_cons pe_int (pa_cons (pe_callB (call_min2 rfl) rfl B.n_min (by decide +kernel) (pa_cons (pe_callB call_len rfl B.n_len (by decide +kernel) (pa_cons (pv 0) pa_nil)) (pa_cons pe_int pa_nil))) pa_nil))) pa_nil)) (pg_name (i := 1) sc.nd rfl (Or.inl rfl)) (pss_cons (ps_set (i := 2) sc.nd rfl (Or.inl rfl) (pe_cal C__law_state hr (by decide) rfl pC (pa_cons (pv 0) (pa_cons (pv 1) pa_nil))))
      (pss_cons (ps_set (i := 3) sc.nd rfl (Or.inl rfl) (pe_cal C__law_plan hr (by decide) rfl pC (pa_cons (pv 2) (pa_cons (pe_cmpR (o_eq hU) (pe_cal C__law_choice hr (by decide) rfl pC (pa_cons (pv 2) (pa_cons pe_int pa_nil))) pe_int (nomark _)) (pa_cons (pe_cmpR (o_eq hU) (pe_cal C__law_choice hr (by decide) rfl pC (pa_cons (pv 2) (pa_cons pe_int pa_nil))) pe_int (nomark _)) pa_nil)))))
      (pss_cons (ps_if (pt_cmpR o_nis (pe_cal C_is_plan hr (by decide) rfl pC (pa_cons (pv 3) pa_nil)) pe_bl (nomark _)) (pss_one (ps_ret pe_bl)) pss_nil)
      (pss_cons (ps_set (i := 4) sc.nd rfl (Or.inl rfl) (pe_lst (pa_cons (pe_callTy call_list_of rfl B.n_list (by decide +kernel) (pa_cons (pv 3) pa_nil)) (pa_cons (pe_slice sl_any (pv 3) po_none (po_some pe_int)) (pa_cons (pe_op o_add (pv 3) (pe_tup (pa_cons pe_bl pa_nil))) (pa_cons (pe_rev (pv 3)) (pa_cons (pe_cal C__law_odd hr (by decide) rfl pC (pa_cons (pv 2) pa_nil)) pa_nil)))))))
      (pss_cons (ps_set (i := 4) sc.nd rfl (Or.inl rfl) (pe_op o_add (pv 4) (pe_lst (pa_cons (pe_tup (pa_cons pe_int (pa_cons pe_int (pa_cons pe_int (pa_cons pe_bl (pa_cons pe_bl pa_nil)))))) (pa_cons (pe_tup pa_nil) pa_nil)))))
      (pss_cons (ps_for pO rfl (pi_range1 rfl B.n_range (pa_cons pe_int pa_nil)) (pg_name (i := 5) sc.nd rfl (Or.inl rfl)) (pss_one (ps_for pO rfl (pi_list (pe_lst (pa_cons (pe_op o_addB (pe_ix ix_seq (pv 3) (pv 5) (fun _ _ => rfl)) pe_int) (pa_cons (pe_op o_subB (pe_ix ix_seq (pv 3) (pv 5) (fun _ _ => rfl)) pe_int) (pa_cons pe_int (pa_cons pe_int (pa_cons pe_int (pa_cons pe_int (pa_cons pe_non (pa_cons pe_bl (pa_cons pe_str (pa_cons (pe_tup (pa_cons pe_int pa_nil)) (pa_cons (pe_cal C__law_odd hr (by decide) rfl pC (pa_cons (pv 2) pa_nil)) pa_nil))))))))))))) (pg_name (i := 6) sc.nd rfl (Or.inl rfl)) (pss_one (ps_expr (pe_bm PySem.F.plainAttrs_list PySem.F.slot_list_append PySem.F.type_list_append mt_append (pv 4) (pa_cons (pe_op o_add (pe_op o_add (pe_slice sl_any (pv 3) po_none (po_some (pv 5))) (pe_tup (pa_cons (pv 6) pa_nil))) (pe_slice sl_any (pv 3) (po_some (pe_op o_add (pv 5) pe_int)) po_none)) pa_nil)))))))
      (pss_one (ps_for pO rfl (pi_or (pi_list (pv 4)) (pi_tup (pv 4))) (pg_name (i := 7) sc.nd rfl (Or.inl rfl)) (pss_cons (ps_set (i := 8) sc.nd rfl (Or.inl rfl) (pe_callB (call_reprT hG hU) rfl B.n_repr (by decide +kernel) (pa_cons (pv 7) pa_nil)))
      (pss_one (ps_if (PW.pt (pw_or (pt_not (pt_val (pe_calG C__law_same hG hr (by decide) rfl pC (pa_cons (pe_cal C_is_plan hr (by decide) rfl pC (pa_cons (pv 7) pa_nil)) (pa_cons (pe_cal C__law_is_plan hr (by decide) rfl pC (pa_cons (pv 7) pa_nil)) pa_nil))))) (pw_or1 (pt_cmpR (o_ne hU) (pe_callB (call_reprT hG hU) rfl B.n_repr (by decide +kernel) (pa_cons (pv 7) pa_nil)) (pv 8) (nomark _))))) (pss_one (ps_ret pe_bl)) pss_nil))))))))))))
      (pss_cons (ps_for pO rfl (pi_list (pe_lst (pa_cons pe_int (pa_cons pe_int (pa_cons pe_int (pa_cons pe_int (pa_cons pe_int (pa_cons pe_int pa_nil)))))))) (pg_name (i := 9) sc.nd rfl (Or.inl rfl)) (pss_one (ps_for pO rfl (pi_list (pe_lst (pa_cons pe_int (pa_cons pe_int (pa_cons pe_int (pa_cons pe_int (pa_cons pe_int (pa_cons pe_int (pa_cons pe_int (pa_cons pe_int pa_nil)))))))))) (pg_name (i := 10) sc.nd rfl (Or.inl rfl)) (pss_one (ps_for pO rfl (pi_list (pe_lst (pa_cons pe_int (pa_cons pe_int (pa_cons pe_int (pa_cons pe_int (pa_cons pe_int (pa_cons pe_int (pa_cons pe_int (pa_cons pe_int pa_nil)))))))))) (pg_name (i := 11) sc.nd rfl (Or.inl rfl)) (pss_cons (ps_set (i := 7) sc.nd rfl (Or.inl rfl) (pe_tup (pa_cons (pv 9) (pa_cons (pv 10) (pa_cons (pv 11) (pa_cons pe_bl (pa_cons pe_bl pa_nil)))))))
      (pss_one (ps_if (pt_cmpR (o_ne hU) (pe_cal C_is_plan hr (by decide) rfl pC (pa_cons (pv 7) pa_nil)) (pe_cal C__law_is_plan hr (by decide) rfl pC (pa_cons (pv 7) pa_nil)) (nomark _)) (pss_one (ps_ret pe_bl)) pss_nil))))))))
      (pss_one (ps_ret pe_bl))))
end
/-! ### the head: facts by names, the run -/
def dd_is_whole : He.DefD := ⟨("is_whole", none), "is_whole", "is_whole", defArgs s_is_whole, defBody s_is_whole, defScope s_is_whole, [], []⟩
def dd_is_within : He.DefD := ⟨("is_within", none), "is_within", "is_within", defArgs s_is_within, defBody s_is_within, defScope s_is_within, [], []⟩
def dd_is_plan : He.DefD := ⟨("is_plan", none), "is_plan", "is_plan", defArgs s_is_plan, defBody s_is_plan, defScope s_is_plan, [], []⟩
def dd__law_cell_at : He.DefD := ⟨("_law_cell_at", none), "_law_cell_at", "_law_cell_at", defArgs s__law_cell_at, defBody s__law_cell_at, defScope s__law_cell_at, [], []⟩
def dd__law_state : He.DefD := ⟨("_law_state", none), "_law_state", "_law_state", defArgs s__law_state, defBody s__law_state, defScope s__law_state, [], []⟩
def dd__law_choice : He.DefD := ⟨("_law_choice", none), "_law_choice", "_law_choice", defArgs s__law_choice, defBody s__law_choice, defScope s__law_choice, [], []⟩
def dd__law_plan : He.DefD := ⟨("_law_plan", none), "_law_plan", "_law_plan", defArgs s__law_plan, defBody s__law_plan, defScope s__law_plan, [], []⟩
def dd__law_same : He.DefD := ⟨("_law_same", none), "_law_same", "_law_same", defArgs s__law_same, defBody s__law_same, defScope s__law_same, [], []⟩
def dd__law_odd : He.DefD := ⟨("_law_odd", none), "_law_odd", "_law_odd", defArgs s__law_odd, defBody s__law_odd, defScope s__law_odd, [], []⟩
def dd__law_within : He.DefD := ⟨("_law_within", none), "_law_within", "_law_within", defArgs s__law_within, defBody s__law_within, defScope s__law_within, [], []⟩
def dd__law_is_plan : He.DefD := ⟨("_law_is_plan", none), "_law_is_plan", "_law_is_plan", defArgs s__law_is_plan, defBody s__law_is_plan, defScope s__law_is_plan, [], []⟩
def dd_law : He.DefD := ⟨("law", none), "law", "law", defArgs s_law, defBody s_law, defScope s_law, [], []⟩
def fn : List He.DefD := [dd_is_whole, dd_is_within, dd_is_plan, dd__law_cell_at, dd__law_state, dd__law_choice, dd__law_plan, dd__law_same, dd__law_odd, dd__law_within, dd__law_is_plan, dd_law]
def fa : List He.Fa := [.free "bool", .free "int", .free "isinstance", .free "len", .free "list", .free "max", .free "min", .free "range", .free "repr", .free "tuple", .int "MOST_BLOCKS" 8, .int "MOST_PAGES" 8, .int "MOST_PLACES" 16, .int "SPARE" 5, .glo "is_whole", .glo "is_within", .glo "is_plan", .glo "_law_cell_at", .glo "_law_state", .glo "_law_choice", .glo "_law_plan", .glo "_law_same", .glo "_law_odd", .glo "_law_within", .glo "_law_is_plan", .glo "law"]
/-- what the pure part may lean on -/
structure Pu (K : PySem.W.Frag) : Prop where
  non : True
def ex (K : PySem.W.Frag) : Bool := true
abbrev R : PySem.W.OpenRow := PySem.W.OpenLaw.row PySem.Challenge.rw_flashkeep_k15_plans_looked_at
abbrev hk : PySem.W.Hook := He.hookX 6 fa fn [] [] ex
def ob (s : PySem.W.SharedT) : He.AlX := He.obsX 6 fa fn [] [] ex (HandSHeadRun.getT s)
theorem ob_eq (s : PySem.W.SharedT) : ob s = hk.obs s.abs := He.obsX_eq (HandSHeadRun.getT_eq s)
def loose0 : List Str := ["is_whole", "is_within", "MOST_BLOCKS", "MOST_PAGES", "MOST_PLACES", "SPARE", "is_plan", "_law_cell_at", "_law_state", "_law_choice", "_law_plan", "_law_same", "_law_odd", "_law_within", "_law_is_plan"]
def loose : List Str := loose0
theorem run (w : World) : HandSHeadRun.RunEq R (PySem.W.view R.prog [18]) hk ob 20000 loose w := by
  intro os
  kernel_rfl
theorem facts {P : Program} {w : World} {K : PySem.W.Frag} {h : Heap} {mg : Str → Option Value} {f : Addr} (X : K.In h) (G : h.Ns mainGlobals mg) (hfa : mg ("law" : Str) = some (.ref f)) (c : He.SaysX fa fn [] [] ex w h K) :
    Pu K ∧ ∃ fd : FuncData, (∀ (s : Shared) (v : Value), BindsTo s fd ⟨[v], []⟩ [("_law_script", v)]) ∧ ∀ base : Heap, K.In base → base.Ns mainGlobals mg → FnG P w K mg base 4 f fd ["_law_script"] (sp_law K) := by
  have cD : He.SaysD fa fn K := congrArg (fun z : He.AlT => z.1) c.t
  have B : Bs K mg := {
    n_bool := He.free_ok X G (cD.fact 0 (f := .free "bool") rfl)
    n_int := He.free_ok X G (cD.fact 1 (f := .free "int") rfl)
    n_isinstance := He.free_ok X G (cD.fact 2 (f := .free "isinstance") rfl)
    n_len := He.free_ok X G (cD.fact 3 (f := .free "len") rfl)
    n_list := He.free_ok X G (cD.fact 4 (f := .free "list") rfl)
    n_max := He.free_ok X G (cD.fact 5 (f := .free "max") rfl)
    n_min := He.free_ok X G (cD.fact 6 (f := .free "min") rfl)
    n_range := He.free_ok X G (cD.fact 7 (f := .free "range") rfl)
    n_repr := He.free_ok X G (cD.fact 8 (f := .free "repr") rfl)
    n_tuple := He.free_ok X G (cD.fact 9 (f := .free "tuple") rfl)
    c_MOST_BLOCKS := He.int_ok X G (cD.fact 10 (f := .int "MOST_BLOCKS" 8) rfl)
    c_MOST_PAGES := He.int_ok X G (cD.fact 11 (f := .int "MOST_PAGES" 8) rfl)
    c_MOST_PLACES := He.int_ok X G (cD.fact 12 (f := .int "MOST_PLACES" 16) rfl)
    c_SPARE := He.int_ok X G (cD.fact 13 (f := .int "SPARE" 5) rfl)
  }
  have mo := c.more
  simp only [ex, Bool.and_eq_true] at mo
  refine ⟨⟨trivial⟩, ?_⟩
  obtain ⟨fd_is_whole, F_is_whole⟩ := cD.def_ 0 (d := dd_is_whole) rfl
  obtain ⟨fd_is_within, F_is_within⟩ := cD.def_ 1 (d := dd_is_within) rfl
  obtain ⟨fd_is_plan, F_is_plan⟩ := cD.def_ 2 (d := dd_is_plan) rfl
  obtain ⟨fd__law_cell_at, F__law_cell_at⟩ := cD.def_ 3 (d := dd__law_cell_at) rfl
  obtain ⟨fd__law_state, F__law_state⟩ := cD.def_ 4 (d := dd__law_state) rfl
  obtain ⟨fd__law_choice, F__law_choice⟩ := cD.def_ 5 (d := dd__law_choice) rfl
  obtain ⟨fd__law_plan, F__law_plan⟩ := cD.def_ 6 (d := dd__law_plan) rfl
  obtain ⟨fd__law_same, F__law_same⟩ := cD.def_ 7 (d := dd__law_same) rfl
  obtain ⟨fd__law_odd, F__law_odd⟩ := cD.def_ 8 (d := dd__law_odd) rfl
  obtain ⟨fd__law_within, F__law_within⟩ := cD.def_ 9 (d := dd__law_within) rfl
  obtain ⟨fd__law_is_plan, F__law_is_plan⟩ := cD.def_ 10 (d := dd__law_is_plan) rfl
  obtain ⟨fd_law, F_law⟩ := cD.def_ 11 (d := dd_law) rfl
  have e := hfa.symm.trans (He.glo_ok X G (cD.fact 25 (f := .glo "law") rfl))
  cases e
  have b := FunD.bindsA (ps := ["_law_script"]) F_law fun _ _ _ _ _ _ us hl => match us, hl with | [_], _ => rfl
  refine ⟨fd_law, fun s v => b s [v] rfl, fun base _ _ => ?_⟩
  have C_is_whole : Cal P w K mg base 1 "is_whole" ["thing"] [] (sp_is_whole K) := ⟨_, _, _, ok_is_whole F_is_whole B , He.glo_ok X G (cD.fact 14 (f := .glo "is_whole") rfl), F_is_whole.kp, F_is_whole.bindsN (fun _ _ _ _ _ _ us hl => match us, hl with | [_], _ => rfl), .nil⟩
  have C_is_within : Cal P w K mg base 2 "is_within" ["thing", "least", "most"] [] (sp_is_within K) := ⟨_, _, _, ok_is_within F_is_within B C_is_whole, He.glo_ok X G (cD.fact 15 (f := .glo "is_within") rfl), F_is_within.kp, F_is_within.bindsN (fun _ _ _ _ _ _ us hl => match us, hl with | [_, _, _], _ => rfl), .nil⟩
  have C_is_plan : Cal P w K mg base 3 "is_plan" ["thing"] [] (sp_is_plan K) := ⟨_, _, _, ok_is_plan F_is_plan B C_is_within, He.glo_ok X G (cD.fact 16 (f := .glo "is_plan") rfl), F_is_plan.kp, F_is_plan.bindsN (fun _ _ _ _ _ _ us hl => match us, hl with | [_], _ => rfl), .nil⟩
  have C__law_cell_at : Cal P w K mg base 1 "_law_cell_at" ["_law_script", "_law_k"] [] (sp__law_cell_at K) := ⟨_, _, _, ok__law_cell_at F__law_cell_at B , He.glo_ok X G (cD.fact 17 (f := .glo "_law_cell_at") rfl), F__law_cell_at.kp, F__law_cell_at.bindsN (fun _ _ _ _ _ _ us hl => match us, hl with | [_, _], _ => rfl), .nil⟩
  have C__law_state : Cal P w K mg base 2 "_law_state" ["_law_script", "_law_k"] [] (sp__law_state K) := ⟨_, _, _, ok__law_state F__law_state B C__law_cell_at, He.glo_ok X G (cD.fact 18 (f := .glo "_law_state") rfl), F__law_state.kp, F__law_state.bindsN (fun _ _ _ _ _ _ us hl => match us, hl with | [_, _], _ => rfl), .nil⟩
  have C__law_choice : Cal P w K mg base 1 "_law_choice" ["_law_state_here", "_law_many"] [] (sp__law_choice K) := ⟨_, _, _, ok__law_choice F__law_choice B , He.glo_ok X G (cD.fact 19 (f := .glo "_law_choice") rfl), F__law_choice.kp, F__law_choice.bindsN (fun _ _ _ _ _ _ us hl => match us, hl with | [_, _], _ => rfl), .nil⟩
  have C__law_plan : Cal P w K mg base 2 "_law_plan" ["_law_state_here", "_law_sealed", "_law_commits"] [] (sp__law_plan K) := ⟨_, _, _, ok__law_plan F__law_plan B C__law_choice, He.glo_ok X G (cD.fact 20 (f := .glo "_law_plan") rfl), F__law_plan.kp, F__law_plan.bindsN (fun _ _ _ _ _ _ us hl => match us, hl with | [_, _, _], _ => rfl), .nil⟩
  have C__law_same : CalG P w K mg base 1 "_law_same" ["_law_found", "_law_owed"] [] (sp__law_same K) := ⟨_, _, _, ok__law_same F__law_same B , He.glo_ok X G (cD.fact 21 (f := .glo "_law_same") rfl), F__law_same.kp, F__law_same.bindsN (fun _ _ _ _ _ _ us hl => match us, hl with | [_, _], _ => rfl), .nil⟩
  have C__law_odd : Cal P w K mg base 2 "_law_odd" ["_law_state_here"] [] (sp__law_odd K) := ⟨_, _, _, ok__law_odd F__law_odd B C__law_choice, He.glo_ok X G (cD.fact 22 (f := .glo "_law_odd") rfl), F__law_odd.kp, F__law_odd.bindsN (fun _ _ _ _ _ _ us hl => match us, hl with | [_], _ => rfl), .nil⟩
  have C__law_within : Cal P w K mg base 1 "_law_within" ["_law_thing", "_law_least", "_law_limit"] [] (sp__law_within K) := ⟨_, _, _, ok__law_within F__law_within B , He.glo_ok X G (cD.fact 23 (f := .glo "_law_within") rfl), F__law_within.kp, F__law_within.bindsN (fun _ _ _ _ _ _ us hl => match us, hl with | [_, _, _], _ => rfl), .nil⟩
  have C__law_is_plan : Cal P w K mg base 2 "_law_is_plan" ["_law_thing"] [] (sp__law_is_plan K) := ⟨_, _, _, ok__law_is_plan F__law_is_plan B C__law_within, He.glo_ok X G (cD.fact 24 (f := .glo "_law_is_plan") rfl), F__law_is_plan.kp, F__law_is_plan.bindsN (fun _ _ _ _ _ _ us hl => match us, hl with | [_], _ => rfl), .nil⟩
  exact ok_law F_law B C__law_choice C__law_is_plan C__law_odd C__law_plan C__law_same C__law_state C_is_plan
end Fk
namespace Fk
open PySem PySem.Spec PyProof.Rows L2
local macro_rules
  | `(tactic| walk_at "g1") => `(tactic| first
    | (with_reducible refine' r_setNx ?ns ?_; (case ns => repeat constructor))
    | with_reducible refine r_seq ?_
    | with_reducible refine r_asg ?_
    | (with_reducible refine' r_var ?gs ?_; (case gs => repeat constructor))
    | with_reducible refine r_c ?_
    | with_reducible refine r_op ?_
    | with_reducible refine r_nil ?_
    | with_reducible refine r_cons ?_
    | with_reducible refine r_cb ?_
    | with_reducible refine r_call ?_
    | (with_reducible refine' r_gn ?ns ?_; (case ns => repeat constructor))
    | with_reducible refine r_nx ?_
    | with_reducible refine r_rt ?_
    | with_reducible refine r_ret ?_
    | with_reducible refine r_retN ?_
    | with_reducible refine r_drop ?_
    | with_reducible refine r_next ?_
    | with_reducible refine r_if ?_
    | with_reducible refine r_ife ?_
    | with_reducible refine r_test ?_
    | with_reducible refine r_tB ?_
    | with_reducible refine r_bl ?_
    | with_reducible refine r_not ?_
    | with_reducible refine r_and ?_
    | with_reducible refine r_or ?_
    | with_reducible refine r_andV ?_
    | with_reducible refine r_orV ?_
    | with_reducible refine r_notV ?_
    | with_reducible refine r_chain ?_
    | with_reducible refine r_parS ?_
    | (with_reducible refine' r_par ?n1 ?n2 ?_; (case n1 => repeat constructor); (case n2 => repeat constructor))
    | with_reducible refine r_par3S ?_
    | (with_reducible refine' r_par3 ?n1 ?n2 ?n3 ?_; (case n1 => repeat constructor); (case n2 => repeat constructor); (case n3 => repeat constructor))
    | (with_reducible refine' r_aug ?gs ?_; (case gs => repeat constructor))
    | with_reducible refine r_ipI ?_
    | with_reducible refine r_add ?_
    | with_reducible refine r_sub ?_
    | with_reducible refine r_addB ?_
    | with_reducible refine r_subB ?_
    | with_reducible refine r_addBB ?_
    | with_reducible refine r_subBB ?_
    | with_reducible refine r_un ?_
    | with_reducible refine r_neg ?_
    | with_reducible refine r_band ?_
    | with_reducible refine r_bxor ?_
    | with_reducible refine r_lt ?_
    | with_reducible refine r_le ?_
    | with_reducible refine r_gt ?_
    | with_reducible refine r_ge ?_
    | with_reducible refine r_eqI ?_
    | with_reducible refine r_neI ?_
    | with_reducible refine r_int ?_
    | with_reducible refine r_intB ?_
    | with_reducible refine r_max2 ?_
    | with_reducible refine r_min2 ?_
    | with_reducible refine r_tup ?_
    | with_reducible refine r_lst ?_
    | with_reducible refine r_gSub ?_
    | with_reducible refine r_gCons ?_
    | with_reducible refine r_gNil ?_
    | with_reducible refine r_bm ?_
    | with_reducible refine r_sl ?_
    | with_reducible refine r_part ?_
    | with_reducible refine r_pint ?_
    | with_reducible refine r_nopart ?_
    | with_reducible refine r_yes ?_
    | with_reducible refine r_NT ?_
    | with_reducible refine r_NF ?_
    | with_reducible refine r_isN ?_
    | with_reducible refine r_nisN ?_
    | with_reducible refine r_nisB ?_
    | with_reducible refine r_neB ?_
    | with_reducible refine r_eqB ?_
    | with_reducible refine r_eqS ?_
    | with_reducible refine r_neS ?_
    | with_reducible refine r_T ?_
    | with_reducible refine r_F ?_)
local macro_rules
  | `(tactic| walk_at "go") => `(tactic| repeat (walk_at "g1"))

/-! ## the law's draws -/
section
variable {K : PySem.W.Frag} {H : Hp} {Q : VK} {E : XK}
theorem log64 {m : Int} (h1 : 1 ≤ m) (h2 : m < 2 ^ 100) : CDivW 0 m := by
  refine ⟨by omega, ?_⟩
  have : m.natAbs < 2 ^ 100 := by omega
  exact Nat.lt_of_lt_of_le ((Nat.log2_lt (by omega)).mpr this) (by decide)
theorem run__law_choice {a : Addr} {x y z many : Int} (hs : H a = some (.lst [.int x, .int y, .int z])) (h1 : 1 ≤ many) (h2 : many < 2 ^ 100)
    (h : ∀ v x y z : Int, 0 ≤ v → v < many → Q (.int v) (upd H a (.lst [.int x, .int y, .int z]))) : sp__law_choice K [.ref a, .int many] H Q E := by
  refine ⟨rfl, ?_⟩
  show t__law_choice K E _ [some (.ref a), some (.int many), none, none] H
  unfold t__law_choice
  walk_at "go"
  refine r_ixL (SqL.of hs) rfl ?_
  walk_at "go"
  refine r_iteD (fun c => ?_) (fun c => ?_)
  · walk_at "go"
    refine r_ixL (SqL.of hs) rfl ?_
    walk_at "go"
    refine r_mod (by omega) ?_
    walk_at "go"
    refine r_ixL (SqL.of hs) rfl ?_
    walk_at "go"
    refine r_fdvW (log64 h1 h2) ?_
    walk_at "go"
    refine r_setL hs rfl ?_
    walk_at "go"
    exact h _ _ _ _ (Int.emod_nonneg _ (by omega)) (Int.emod_lt_of_pos _ (by omega))
  · walk_at "go"
    refine r_ixL (SqL.of hs) rfl ?_
    walk_at "go"
    refine r_setL hs rfl ?_
    walk_at "go"
    refine r_ixL (SqL.of upd_same) rfl ?_
    walk_at "go"
    refine r_mul (.inr (by decide)) ?_
    walk_at "go"
    refine r_ixL (SqL.of upd_same) rfl ?_
    walk_at "go"
    refine r_mod (by decide) ?_
    walk_at "go"
    refine r_setL upd_same rfl ?_
    walk_at "go"
    rw [upd_upd]
    have b0 : ∀ q : Int, 0 ≤ q % 2147483647 ∧ q % 2147483647 < 2147483647 := fun q => ⟨Int.emod_nonneg _ (by decide), Int.emod_lt_of_pos _ (by decide)⟩
    have b1 := b0 (y * 48271 + 29 + (z + 1))
    generalize hy : (y * 48271 + 29 + (z + 1)) % 2147483647 = y' at b1
    refine r_ixL (SqL.of upd_same) rfl ?_
    walk_at "go"
    refine r_ixL (SqL.of upd_same) rfl ?_
    walk_at "go"
    refine r_mul (.inl ?_) ?_
    · omega
    walk_at "go"
    refine r_ixL (SqL.of upd_same) rfl ?_
    walk_at "go"
    refine r_mul (.inl (by decide)) ?_
    walk_at "go"
    refine r_mod (by decide) ?_
    walk_at "go"
    refine r_mul (.inl ?_) ?_
    · have := Int.emod_nonneg (y' * y' + 39373 * y' + 7) (show (2147483629 : Int) ≠ 0 by decide)
      have := Int.emod_lt_of_pos (y' * y' + 39373 * y' + 7) (show (0 : Int) < 2147483629 by decide)
      omega
    walk_at "go"
    refine r_mul (.inl (by decide)) ?_
    walk_at "go"
    refine r_mod (by decide) ?_
    walk_at "go"
    refine r_fdv (by decide) ?_
    walk_at "go"
    refine r_mod (by omega) ?_
    walk_at "go"
    exact h _ _ _ _ (Int.emod_nonneg _ (by omega)) (Int.emod_lt_of_pos _ (by omega))

/-- the list of draws stands at a -/
def St3 (H : Hp) (a : Addr) : Prop := ∃ x y z : Int, H a = some (.lst [.int x, .int y, .int z])
/-- from H to H': all but the list at a stays, that one stands -/
structure Fr (a : Addr) (H H' : Hp) : Prop where
  keep : ∀ b o, b ≠ a → H b = some o → H' b = some o
  st : St3 H' a
theorem Fr.rf {a : Addr} (h : St3 H a) : Fr a H H := ⟨fun _ _ _ h => h, h⟩
theorem Fr.trans {a : Addr} {H1 H2 : Hp} (x : Fr a H H1) (y : Fr a H1 H2) : Fr a H H2 := ⟨fun b o n h => y.keep b o n (x.keep b o n h), y.st⟩
theorem Fr.ex {a : Addr} {H1 H2 : Hp} (x : Fr a H H1) (e : Ex H1 H2) : Fr a H H2 :=
  ⟨fun b o n h => e b o (x.keep b o n h), let ⟨x, y, z, h⟩ := x.st; ⟨x, y, z, e _ _ h⟩⟩
theorem Fr.up {a : Addr} {H1 : Hp} {p : Addr} {o : HO} (x : Fr a H H1) (h : H1 p = none) : Fr a H (upd H1 p o) := x.ex (Ex.rf.up h)
theorem Fr.put {a : Addr} {H1 : Hp} {x y z : Int} (f : Fr a H H1) : Fr a H (upd H1 a (.lst [.int x, .int y, .int z])) :=
  ⟨fun b o n h => by rw [upd_ne n]; exact f.keep b o n h, ⟨x, y, z, upd_same⟩⟩
theorem Fr.ne {a : Addr} {H1 : Hp} {p : Addr} (f : Fr a H H1) (h : H1 p = none) : p ≠ a := fun e => by
  obtain ⟨x, y, z, q⟩ := f.st
  rw [e, q] at h
  cases h
theorem Fr.fresh {a : Addr} {H1 : Hp} {p : Addr} (f : Fr a H H1) (h : H1 p = none) : H p = none := by
  cases q : H p with
  | none => rfl
  | some o =>
    have := f.keep p o (f.ne h) q
    rw [h] at this
    cases this
theorem Fr.mut {a : Addr} {H1 : Hp} {p : Addr} {o : HO} (f : Fr a H H1) (h : H p = none) (n : p ≠ a) : Fr a H (upd H1 p o) := by
  refine ⟨fun b u hn hb => ?_, ?_⟩
  · rw [upd_ne]
    · exact f.keep b u hn hb
    · rintro rfl
      rw [h] at hb
      cases hb
  · obtain ⟨x, y, z, w⟩ := f.st
    exact ⟨x, y, z, by rw [upd_ne (Ne.symm n)]; exact w⟩
theorem Fr.sqT {a b : Addr} {H1 : Hp} {xs : List V} (f : Fr a H H1) (st : St3 H a) (h : SqT K H b xs) : SqT K H1 b xs := by
  obtain ⟨x, y, z, w⟩ := st
  rcases h with (e | ⟨o, e⟩) | e
  · exact .inl (.inl (f.keep b _ (fun q => by rw [q, w] at e; cases e) e))
  · exact .inl (.inr ⟨o, f.keep b _ (fun q => by rw [q, w] at e; cases e) e⟩)
  · exact .inr e
/-- behind what H0 didn't know -/
theorem Fr.out {a : Addr} {H0 H1 : Hp} (f : Fr a H H1) (e : Ex H0 H) (n : H0 a = none) : Ex H0 H1 := fun b o h => f.keep b o (fun z => by rw [z, n] at h; cases h) (e b o h)
theorem draw {a : Addr} {many : Int} {H0 : Hp} (f : Fr a H0 H) (h1 : 1 ≤ many) (h2 : many < 2 ^ 100) (h : ∀ v H', 0 ≤ v → v < many → Fr a H0 H' → Fr a H H' → Q (.int v) H') : sp__law_choice K [.ref a, .int many] H Q E := by
  obtain ⟨x, y, z, hs⟩ := f.st
  exact run__law_choice hs h1 h2 fun v x' y' z' b1 b2 => h v _ b1 b2 f.put (Fr.rf f.st).put
theorem run__law_cell_at {s : Addr} {ns : List Int} {k : Nat} (hS : SqL K H s (ns.map V.int)) (h : ∀ c, (c ∈ ns ∨ c = 0) → Q (.int c) H) : sp__law_cell_at K [.ref s, .int (k : Int)] H Q E := by
  refine ⟨rfl, ?_⟩
  show t__law_cell_at K E _ [some (.ref s), some (.int k)] H
  unfold t__law_cell_at
  walk_at "go"
  refine r_lenL hS ?_
  walk_at "go"
  rw [List.length_map]
  refine r_iteD (fun c => ?_) (fun c => ?_)
  · have hk : k < ns.length := by omega
    walk_at "go"
    refine r_ixL (v := .int (ns[k])) hS ?_ ?_
    · unfold atI ixN
      rw [if_pos (by omega), List.length_map, if_pos (by omega)]
      show (ns.map V.int)[(k : Int).toNat]? = _
      rw [Int.toNat_natCast, List.getElem?_map, List.getElem?_eq_getElem hk]
      rfl
    · walk_at "go"
      exact h _ (.inl (List.getElem_mem hk))
  · walk_at "go"
    exact h 0 (.inr rfl)
theorem run__law_state {s : Addr} {ns : List Int} {k : Nat} (hS : SqL K H s (ns.map V.int)) (h : ∀ a H', H a = none → Ex H H' → St3 H' a → Q (.ref a) H') : sp__law_state K [.ref s, .int (k : Int)] H Q E := by
  refine ⟨rfl, ?_⟩
  show t__law_state K E _ [some (.ref s), some (.int k), none] H
  unfold t__law_state
  walk_at "go"
  refine run__law_cell_at hS fun c hc => ?_
  walk_at "go"
  refine r_pow ⟨by decide, by decide, by decide⟩ ?_
  walk_at "go"
  refine r_mod (by decide) ?_
  walk_at "go"
  refine r_new (by simp) fun a ha => ?_
  walk_at "go"
  exact h a _ ha (Ex.rf.up ha) ⟨_, _, _, upd_same⟩
end

/-! ## loops amid draws -/
section
variable {K : PySem.W.Frag} {D : Ends} {σ : L2.St} {H : Hp} {g : TG} {tb : TS} {a p : Addr} {xs : List V}
theorem f_lstF (hp : H p = some (.lst xs)) (hs : St3 H a) (hne : p ≠ a) (Pv : List V → L2.St → Prop) (h0 : Pv xs σ)
    (step : ∀ x r σ H', Pv (x :: r) σ → Fr a H H' → g x σ H' fun σ2 H2 => tb { D with nx := fun σ3 H3 => Pv r σ3 ∧ Fr a H H3, ct := fun σ3 H3 => Pv r σ3 ∧ Fr a H H3, bk := D.nx } σ2 H2) (done : ∀ σ H', Pv [] σ → Fr a H H' → D.nx σ H') :
    ∃ a', V.ref p = .ref a' ∧ (∃ xs, SqL K H a' xs) ∧ ∃ W : Nat → Nat → L2.St → Hp → Prop, (∃ m, W 0 m σ H) ∧ ∀ i m σ H, W i m σ H →
      ((Itl K a').stop i H ∧ D.nx σ H) ∨ ((Itl K a').go i H ∧ ∃ N : L2.St → Hp → Prop, (∀ σ' H', N σ' H' → ∃ m', m' < m ∧ W (i + 1) m' σ' H') ∧ ∀ x H', (Itl K a').yld i H x H' → g x σ H' fun σ2 H2 => tb { D with nx := N, ct := N, bk := D.nx } σ2 H2) :=
  f_lst (SqL.of hp) (fun r σ H' => Pv r σ ∧ Fr a H H') ⟨h0, Fr.rf hs⟩ (fun r σ H' q => SqL.of (q.2.keep p _ hne hp)) (fun x r σ H' q => step x r σ H' q.1 q.2) (fun σ H' q => done σ H' q.1 q.2)
end

section
variable {K : PySem.W.Frag} {H : Hp} {Q : VK} {E : XK}
theorem runD_is_whole {v : V} {d : PyData} (hd : Dd K H v d) (h : Q (.bl (isD "int" d && !isD "bool" d)) H) : sp_is_whole K [v] H Q E := by
  refine ⟨rfl, ?_⟩
  show t_is_whole K E _ [some v] H
  unfold t_is_whole
  walk_at "go"
  refine r_isD (.inl rfl) hd ?_
  walk_at "go"
  cases e : isD "int" d with
  | false =>
    rw [e] at h
    walk_at "go"
    exact h
  | true =>
    rw [e, Bool.true_and] at h
    walk_at "go"
    refine r_isD (.inr (.inl rfl)) hd ?_
    walk_at "go"
    exact h
theorem wh_int (i : Int) : (isD "int" (.int i) && !isD "bool" (.int i)) = true := by kernel_rfl
theorem wh_no {d : PyData} (h : ∀ i, d ≠ .int i) : (isD "int" d && !isD "bool" d) = false := by
  cases d with
  | int i => exact absurd rfl (h i)
  | _ => kernel_rfl
theorem wi_no {d : PyData} {a b : Int} (h : ∀ i, d ≠ .int i) : wiD d a b = false := by
  cases d with
  | int i => exact absurd rfl (h i)
  | _ => rfl
theorem runD_is_within {v : V} {d : PyData} {a b : Int} (hd : Dd K H v d) (h : Q (.bl (wiD d a b)) H) : sp_is_within K [v, .int a, .int b] H Q E := by
  refine ⟨rfl, ?_⟩
  show t_is_within K E _ [some v, some (.int a), some (.int b)] H
  unfold t_is_within
  walk_at "go"
  refine runD_is_whole hd ?_
  walk_at "go"
  by_cases c : ∃ i, d = .int i
  · obtain ⟨i, rfl⟩ := c
    cases hd.int
    have h' : Q (.bl (decide (a ≤ i ∧ i ≤ b))) H := h
    rw [wh_int]
    walk_at "go"
    refine r_iteD (fun h1 => ?_) (fun h1 => ?_)
    · walk_at "go"
      rw [show decide (i ≤ b) = decide (a ≤ i ∧ i ≤ b) by simp [h1]]
      exact h'
    · rw [show decide (a ≤ i ∧ i ≤ b) = false by simp [h1]] at h'
      exact h'
  · have n : ∀ i, d ≠ .int i := fun i e => c ⟨i, e⟩
    rw [wh_no n]
    rw [wi_no n] at h
    walk_at "go"
    exact h
end

section
variable {K : PySem.W.Frag} {H : Hp} {Q : VK} {E : XK}
def iv : PyData → Int
  | .int i => i
  | _ => 0
theorem wi_int {d : PyData} {a b : Int} (h : wiD d a b = true) : d = .int (iv d) ∧ a ≤ iv d ∧ iv d ≤ b := by
  cases d with
  | int i => exact ⟨rfl, (of_decide_eq_true h).1, (of_decide_eq_true h).2⟩
  | _ => cases h
def planD : PyData → Bool
  | .tuple [d1, d2, d3, d4, d5] => wiD d1 3 8 && (wiD d2 2 8 && (wiD d3 1 (if (iv d1 - 2) * iv d2 - 5 < 16 then (iv d1 - 2) * iv d2 - 5 else 16) && (isD "bool" d4 && isD "bool" d5)))
  | _ => false
theorem plan_len {ds : List PyData} (h : ds.length ≠ 5) : planD (.tuple ds) = false := by
  match ds, h with
  | [], _ => rfl
  | [_], _ => rfl
  | [_, _], _ => rfl
  | [_, _, _], _ => rfl
  | [_, _, _, _], _ => rfl
  | [_, _, _, _, _], h => exact absurd rfl h
  | _ :: _ :: _ :: _ :: _ :: _ :: _, _ => rfl
theorem plan_no {d : PyData} (h : isD "tuple" d = false) : planD d = false := by
  cases d with
  | tuple ds => exact absurd h (by rw [show isD "tuple" (.tuple ds) = true by kernel_rfl]; exact fun z => nomatch z)
  | _ => rfl
theorem tup_of {d : PyData} (h : isD "tuple" d = true) : ∃ ds, d = .tuple ds := by
  cases d with
  | tuple ds => exact ⟨ds, rfl⟩
  | none => exact absurd h (by decide +kernel)
  | bool b => exact absurd (show false = true from (show isD "tuple" (.bool b) = false by kernel_rfl) ▸ h) (fun z => nomatch z)
  | int b => exact absurd (show false = true from (show isD "tuple" (.int b) = false by kernel_rfl) ▸ h) (fun z => nomatch z)
  | str b => exact absurd (show false = true from (show isD "tuple" (.str b) = false by kernel_rfl) ▸ h) (fun z => nomatch z)
  | list b => exact absurd (show false = true from (show isD "tuple" (.list b) = false by kernel_rfl) ▸ h) (fun z => nomatch z)
  | dict b => exact absurd (show false = true from (show isD "tuple" (.dict b) = false by kernel_rfl) ▸ h) (fun z => nomatch z)
theorem five {xs : List V} {ds : List PyData} (al : DdAll K H xs ds) (h : xs.length = 5) : ∃ x1 x2 x3 x4 x5 d1 d2 d3 d4 d5, xs = [x1, x2, x3, x4, x5] ∧ ds = [d1, d2, d3, d4, d5] ∧ Dd K H x1 d1 ∧ Dd K H x2 d2 ∧ Dd K H x3 d3 ∧ Dd K H x4 d4 ∧ Dd K H x5 d5 := by
  cases al with
  | nil => cases h
  | cons h1 al => cases al with
    | nil => cases h
    | cons h2 al => cases al with
      | nil => cases h
      | cons h3 al => cases al with
        | nil => cases h
        | cons h4 al => cases al with
          | nil => cases h
          | cons h5 al => cases al with
            | nil => exact ⟨_, _, _, _, _, _, _, _, _, _, rfl, rfl, h1, h2, h3, h4, h5⟩
            | cons _ _ => simp at h
theorem run_is_plan {v : V} {d : PyData} (hd : Dd K H v d) (h : Q (.bl (planD d)) H) : sp_is_plan K [v] H Q E := by
  refine ⟨rfl, ?_⟩
  show t_is_plan K E _ [some v, none, none, none, none, none] H
  unfold t_is_plan
  walk_at "go"
  refine r_isD (.inr (.inr (.inr rfl))) hd ?_
  walk_at "go"
  cases et : isD "tuple" d with
  | false =>
    rw [plan_no et] at h
    walk_at "go"
    exact h
  | true =>
    obtain ⟨ds, rfl⟩ := tup_of et
    obtain ⟨a, xs, rfl, hs, al⟩ := hd.tuple
    walk_at "go"
    refine r_lenT hs ?_
    walk_at "go"
    refine r_iteN (fun c => ?_) (fun c => ?_)
    · rw [plan_len (by rw [← al.length]; omega)] at h
      walk_at "go"
      exact h
    · obtain ⟨x1, x2, x3, x4, x5, d1, d2, d3, d4, d5, rfl, rfl, h1, h2, h3, h4, h5⟩ := five al (by omega)
      walk_at "go"
      refine r_gTup hs rfl ?_
      walk_at "go"
      refine runD_is_within h1 ?_
      have hp : planD (.tuple [d1, d2, d3, d4, d5]) = (wiD d1 3 8 && (wiD d2 2 8 && (wiD d3 1 (if (iv d1 - 2) * iv d2 - 5 < 16 then (iv d1 - 2) * iv d2 - 5 else 16) && (isD "bool" d4 && isD "bool" d5)))) := rfl
      rw [hp] at h
      cases e1 : wiD d1 3 8 with
      | false =>
        rw [e1] at h
        walk_at "go"
        exact h
      | true =>
        rw [e1, Bool.true_and] at h
        walk_at "go"
        refine runD_is_within h2 ?_
        cases e2 : wiD d2 2 8 with
        | false =>
          rw [e2] at h
          walk_at "go"
          exact h
        | true =>
          rw [e2, Bool.true_and] at h
          obtain ⟨i1, b1, b2⟩ := wi_int e1
          obtain ⟨i2, b3, b4⟩ := wi_int e2
          rw [i1] at h1
          rw [i2] at h2
          cases h1.int
          cases h2.int
          walk_at "go"
          refine r_mul (.inr (by omega)) ?_
          walk_at "go"
          refine runD_is_within h3 ?_
          cases e3 : wiD d3 1 (if (iv d1 - 2) * iv d2 - 5 < 16 then (iv d1 - 2) * iv d2 - 5 else 16) with
          | false =>
            rw [e3] at h
            walk_at "go"
            exact h
          | true =>
            rw [e3, Bool.true_and] at h
            walk_at "go"
            refine r_isD (.inr (.inl rfl)) h4 ?_
            walk_at "go"
            cases e4 : isD "bool" d4 with
            | false =>
              rw [e4] at h
              walk_at "go"
              exact h
            | true =>
              rw [e4, Bool.true_and] at h
              walk_at "go"
              exact r_isD (.inr (.inl rfl)) h5 h
theorem run__law_within {v : V} {d : PyData} {a b : Int} (hd : Dd K H v d) (h : Q (.bl (wiD d a b)) H) : sp__law_within K [v, .int a, .int b] H Q E := by
  refine ⟨rfl, ?_⟩
  show t__law_within K E _ [some v, some (.int a), some (.int b)] H
  unfold t__law_within
  walk_at "go"
  refine r_isD (.inl rfl) hd ?_
  walk_at "go"
  by_cases c : ∃ i, d = .int i
  · obtain ⟨i, rfl⟩ := c
    cases hd.int
    have h' : Q (.bl (decide (a ≤ i ∧ i ≤ b))) H := h
    rw [show isD "int" (.int i) = true by kernel_rfl]
    walk_at "go"
    refine r_isD (.inr (.inl rfl)) hd ?_
    rw [show isD "bool" (.int i) = false by kernel_rfl]
    walk_at "go"
    refine r_iteD (fun h1 => ?_) (fun h1 => ?_)
    · walk_at "go"
      rw [show decide (i ≤ b) = decide (a ≤ i ∧ i ≤ b) by simp [h1]]
      exact h'
    · rw [show decide (a ≤ i ∧ i ≤ b) = false by simp [h1]] at h'
      exact h'
  · have n : ∀ i, d ≠ .int i := fun i e => c ⟨i, e⟩
    rw [wi_no n] at h
    cases e : isD "int" d with
    | false =>
      walk_at "go"
      exact h
    | true =>
      walk_at "go"
      refine r_isD (.inr (.inl rfl)) hd ?_
      have q := wh_no n
      rw [e, Bool.true_and] at q
      cases e2 : isD "bool" d with
      | false => rw [e2] at q; cases q
      | true =>
        walk_at "go"
        exact h
theorem plan_law {d1 d2 d3 d4 d5 : PyData} : planD (.tuple [d1, d2, d3, d4, d5]) = (wiD d1 3 8 && (wiD d2 2 8 && (wiD d3 1 16 && (isD "bool" d4 && (isD "bool" d5 && decide (iv d3 + 5 ≤ iv d1 * iv d2 - 2 * iv d2)))))) := by
  show (wiD d1 3 8 && (wiD d2 2 8 && (wiD d3 1 (if (iv d1 - 2) * iv d2 - 5 < 16 then (iv d1 - 2) * iv d2 - 5 else 16) && (isD "bool" d4 && isD "bool" d5)))) = _
  cases e1 : wiD d1 3 8 with
  | false => rfl
  | true =>
    cases e2 : wiD d2 2 8 with
    | false => rfl
    | true =>
      rw [Bool.true_and, Bool.true_and, Bool.true_and, Bool.true_and]
      have em : (iv d1 - 2) * iv d2 = iv d1 * iv d2 - 2 * iv d2 := Int.sub_mul ..
      have key : wiD d3 1 (if (iv d1 - 2) * iv d2 - 5 < 16 then (iv d1 - 2) * iv d2 - 5 else 16) = (wiD d3 1 16 && decide (iv d3 + 5 ≤ iv d1 * iv d2 - 2 * iv d2)) := by
        cases d3 with
        | int i =>
          show decide (1 ≤ i ∧ i ≤ (if (iv d1 - 2) * iv d2 - 5 < 16 then (iv d1 - 2) * iv d2 - 5 else 16)) = (decide (1 ≤ i ∧ i ≤ 16) && decide (i + 5 ≤ iv d1 * iv d2 - 2 * iv d2))
          rw [← Bool.decide_and, em]
          generalize iv d1 * iv d2 - 2 * iv d2 = m
          refine decide_eq_decide.mpr ?_
          split <;> omega
        | _ => rfl
      rw [key]
      cases wiD d3 1 16 <;> cases isD "bool" d4 <;> cases isD "bool" d5 <;> cases decide (iv d3 + 5 ≤ iv d1 * iv d2 - 2 * iv d2) <;> rfl
theorem run__law_is_plan {v : V} {d : PyData} (hd : Dd K H v d) (h : Q (.bl (planD d)) H) : sp__law_is_plan K [v] H Q E := by
  refine ⟨rfl, ?_⟩
  show t__law_is_plan K E _ [some v] H
  unfold t__law_is_plan
  walk_at "go"
  refine r_isD (.inr (.inr (.inr rfl))) hd ?_
  walk_at "go"
  cases et : isD "tuple" d with
  | false =>
    rw [plan_no et] at h
    walk_at "go"
    exact h
  | true =>
    obtain ⟨ds, rfl⟩ := tup_of et
    obtain ⟨a, xs, rfl, hs, al⟩ := hd.tuple
    walk_at "go"
    refine r_lenT hs ?_
    walk_at "go"
    refine r_iteN (fun c => ?_) (fun c => ?_)
    · rw [plan_len (by rw [← al.length]; omega)] at h
      walk_at "go"
      exact h
    · obtain ⟨x1, x2, x3, x4, x5, d1, d2, d3, d4, d5, rfl, rfl, h1, h2, h3, h4, h5⟩ := five al (by omega)
      rw [plan_law] at h
      walk_at "go"
      refine r_ixT (v := x1) hs rfl ?_
      walk_at "go"
      refine run__law_within h1 ?_
      cases e1 : wiD d1 3 8 with
      | false =>
        rw [e1] at h
        walk_at "go"
        exact h
      | true =>
      rw [e1, Bool.true_and] at h
      walk_at "go"
      refine r_ixT (v := x2) hs rfl ?_
      walk_at "go"
      refine run__law_within h2 ?_
      cases e2 : wiD d2 2 8 with
      | false =>
        rw [e2] at h
        walk_at "go"
        exact h
      | true =>
      rw [e2, Bool.true_and] at h
      walk_at "go"
      refine r_ixT (v := x3) hs rfl ?_
      walk_at "go"
      refine run__law_within h3 ?_
      cases e3 : wiD d3 1 16 with
      | false =>
        rw [e3] at h
        walk_at "go"
        exact h
      | true =>
      rw [e3, Bool.true_and] at h
      obtain ⟨i1, b1, b2⟩ := wi_int e1
      obtain ⟨i2, b3, b4⟩ := wi_int e2
      obtain ⟨i3, b5, b6⟩ := wi_int e3
      rw [i1] at h1
      rw [i2] at h2
      rw [i3] at h3
      cases h1.int
      cases h2.int
      cases h3.int
      walk_at "go"
      refine r_ixT (v := x4) hs rfl ?_
      walk_at "go"
      refine r_isD (.inr (.inl rfl)) h4 ?_
      cases e4 : isD "bool" d4 with
      | false =>
        rw [e4] at h
        walk_at "go"
        exact h
      | true =>
      rw [e4, Bool.true_and] at h
      walk_at "go"
      refine r_ixT (v := x5) hs rfl ?_
      walk_at "go"
      refine r_isD (.inr (.inl rfl)) h5 ?_
      cases e5 : isD "bool" d5 with
      | false =>
        rw [e5] at h
        walk_at "go"
        exact h
      | true =>
      rw [e5, Bool.true_and] at h
      walk_at "go"
      refine r_ixT (v := .int (iv d3)) hs rfl ?_
      walk_at "go"
      refine r_ixT (v := .int (iv d1)) hs rfl ?_
      walk_at "go"
      refine r_ixT (v := .int (iv d2)) hs rfl ?_
      refine r_mul (.inl (by omega)) ?_
      walk_at "go"
      refine r_ixT (v := .int (iv d2)) hs rfl ?_
      refine r_mul (.inl (by decide)) ?_
      walk_at "go"
      exact h
theorem run__law_plan {a : Addr} {s c : Bool} (hs : St3 H a) (h : ∀ H' q b p n, Fr a H H' → 3 ≤ b ∧ b ≤ 8 ∧ 2 ≤ p ∧ p ≤ 8 ∧ 1 ≤ n ∧ n ≤ 16 ∧ n + 5 ≤ b * p - 2 * p → SqT K H' q [.int b, .int p, .int n, .bl s, .bl c] → Q (.ref q) H') : sp__law_plan K [.ref a, .bl s, .bl c] H Q E := by
  refine ⟨rfl, ?_⟩
  show t__law_plan K E _ [some (.ref a), some (.bl s), some (.bl c), none, none] H
  unfold t__law_plan
  walk_at "go"
  refine r_new (by simp) fun p1 q1 => ?_
  walk_at "go"
  refine r_new (by simp) fun p2 q2 => ?_
  walk_at "go"
  refine r_new (by simp) fun p3 q3 => ?_
  walk_at "go"
  refine r_new (by simp) fun p4 q4 => ?_
  walk_at "go"
  refine r_new (by simp) fun p5 q5 => ?_
  walk_at "go"
  refine r_new (by simp) fun p6 q6 => ?_
  walk_at "go"
  refine r_new (by simp) fun p7 q7 => ?_
  walk_at "go"
  refine r_new (by simp) fun p8 q8 => ?_
  walk_at "go"
  have f8 := (((((((Fr.rf hs).up q1).up q2).up q3).up q4).up q5).up q6).up (o := .tup [.int 8, .int 2]) q7
  have n8 := f8.ne q8
  have f9 := f8.up (o := .lst [.ref p1, .ref p2, .ref p3, .ref p4, .ref p5, .ref p6, .ref p7]) q8
  refine draw f9 (by decide) (by decide) fun i H1 i1 i2 f1 g1 => ?_
  have hl := g1.keep p8 _ n8 upd_same
  have up8 := Ex.rf.up (o := .lst [.ref p1, .ref p2, .ref p3, .ref p4, .ref p5, .ref p6, .ref p7]) q8
  have s7 := g1.sqT f9.st (Evl.ex_t up8 (SqT.of (K := K) (upd_same (a := p7) (o := .tup [.int 8, .int 2]))))
  have s6 := g1.sqT f9.st (Evl.ex_t ((Ex.rf.up q7).trans up8) (SqT.of (K := K) (upd_same (a := p6) (o := .tup [.int 5, .int 4]))))
  have s5 := g1.sqT f9.st (Evl.ex_t (((Ex.rf.up q6).up q7).trans up8) (SqT.of (K := K) (upd_same (a := p5) (o := .tup [.int 5, .int 3]))))
  have s4 := g1.sqT f9.st (Evl.ex_t ((((Ex.rf.up q5).up q6).up q7).trans up8) (SqT.of (K := K) (upd_same (a := p4) (o := .tup [.int 4, .int 6]))))
  have s3 := g1.sqT f9.st (Evl.ex_t (((((Ex.rf.up q4).up q5).up q6).up q7).trans up8) (SqT.of (K := K) (upd_same (a := p3) (o := .tup [.int 4, .int 4]))))
  have s2 := g1.sqT f9.st (Evl.ex_t ((((((Ex.rf.up q3).up q4).up q5).up q6).up q7).trans up8) (SqT.of (K := K) (upd_same (a := p2) (o := .tup [.int 3, .int 8]))))
  have s1 := g1.sqT f9.st (Evl.ex_t (((((((Ex.rf.up q2).up q3).up q4).up q5).up q6).up q7).trans up8) (SqT.of (K := K) (upd_same (a := p1) (o := .tup [.int 3, .int 6]))))
  obtain ⟨r, b, p, hr, sr, hb⟩ : ∃ (r : Addr) (b p : Int), atI [V.ref p1, V.ref p2, V.ref p3, V.ref p4, V.ref p5, V.ref p6, V.ref p7] i = some (.ref r) ∧ SqT K H1 r [.int b, .int p] ∧ 3 ≤ b ∧ b ≤ 8 ∧ 2 ≤ p ∧ p ≤ 8 ∧ 1 ≤ (b - 2) * p - 5 ∧ (b - 2) * p - 5 ≤ 16 := by
    rcases (by omega : i = 0 ∨ i = 1 ∨ i = 2 ∨ i = 3 ∨ i = 4 ∨ i = 5 ∨ i = 6) with rfl | rfl | rfl | rfl | rfl | rfl | rfl
    · exact ⟨p1, 3, 6, rfl, s1, by decide⟩
    · exact ⟨p2, 3, 8, rfl, s2, by decide⟩
    · exact ⟨p3, 4, 4, rfl, s3, by decide⟩
    · exact ⟨p4, 4, 6, rfl, s4, by decide⟩
    · exact ⟨p5, 5, 3, rfl, s5, by decide⟩
    · exact ⟨p6, 5, 4, rfl, s6, by decide⟩
    · exact ⟨p7, 8, 2, rfl, s7, by decide⟩
  refine r_ixL (SqL.of hl) hr ?_
  refine r_gTup sr rfl ?_
  walk_at "go"
  refine r_mul (.inr (by omega)) ?_
  walk_at "go"
  refine draw f1 (by omega) (by omega) fun m H2 m1 m2 f2 _ => ?_
  walk_at "go"
  refine r_new (by simp) fun q hq => ?_
  walk_at "go"
  have em : (b - 2) * p = b * p - 2 * p := Int.sub_mul ..
  exact h _ q b p (1 + m) (f2.up hq) ⟨by omega, by omega, by omega, by omega, by omega, by omega, by omega⟩ (SqT.of upd_same)
theorem sx_small {d : PyData} (h : d.depth ≤ 2 ∧ d.showable = true ∧ d.shown.length ≤ 300) : Sx 2 300 d := ⟨h.1, h.2.1, h.2.2⟩
theorem run__law_odd {a : Addr} (hs : St3 H a) (h : ∀ H' v d, Fr a H H' → (∀ X : Hp, (∀ r o, H r = none → r ≠ a → H' r = some o → X r = some o) → Dd K X v d) → Sx 2 300 d → Q v H') : sp__law_odd K [.ref a] H Q E := by
  refine ⟨rfl, ?_⟩
  show t__law_odd K E _ [some (.ref a), none] H
  unfold t__law_odd
  walk_at "go"
  refine r_pow ⟨by decide, by decide, by decide⟩ ?_
  walk_at "go"
  refine r_new (by simp) fun p1 q1 => ?_
  have f1 := (Fr.rf hs).up (o := .tup []) q1
  have k1 := upd_same (H := H) (a := p1) (o := .tup [])
  have m1 := (Fr.rf hs).ne q1
  have z1 := (Fr.rf hs).fresh q1
  generalize upd H p1 (.tup []) = H1 at f1 k1 ⊢
  walk_at "go"
  refine r_new (by simp) fun p2 q2 => ?_
  have x2 := Ex.rf.up (o := .lst []) q2
  have f2 := f1.up (o := .lst []) q2
  have k2 := upd_same (H := H1) (a := p2) (o := .lst [])
  have m2 := (f1).ne q2
  have z2 := (f1).fresh q2
  replace k1 := x2 _ _ k1
  generalize upd H1 p2 (.lst []) = H2 at f2 k1 k2 ⊢
  walk_at "go"
  refine r_dnew fun p3 q3 => ?_
  have x3 := Ex.rf.up (o := .dK []) q3
  have f3 := f2.up (o := .dK []) q3
  have k3 := upd_same (H := H2) (a := p3) (o := .dK [])
  have m3 := (f2).ne q3
  have z3 := (f2).fresh q3
  replace k1 := x3 _ _ k1
  replace k2 := x3 _ _ k2
  generalize upd H2 p3 (.dK []) = H3 at f3 k1 k2 k3 ⊢
  walk_at "go"
  refine r_new (by simp) fun p4 q4 => ?_
  have x4 := Ex.rf.up (o := .tup [.int 0, .int 1]) q4
  have f4 := f3.up (o := .tup [.int 0, .int 1]) q4
  have k4 := upd_same (H := H3) (a := p4) (o := .tup [.int 0, .int 1])
  have m4 := (f3).ne q4
  have z4 := (f3).fresh q4
  replace k1 := x4 _ _ k1
  replace k2 := x4 _ _ k2
  replace k3 := x4 _ _ k3
  generalize upd H3 p4 (.tup [.int 0, .int 1]) = H4 at f4 k1 k2 k3 k4 ⊢
  walk_at "go"
  refine r_new (by simp) fun p5 q5 => ?_
  have x5 := Ex.rf.up (o := .lst [.int 0]) q5
  have f5 := f4.up (o := .lst [.int 0]) q5
  have k5 := upd_same (H := H4) (a := p5) (o := .lst [.int 0])
  have m5 := (f4).ne q5
  have z5 := (f4).fresh q5
  replace k1 := x5 _ _ k1
  replace k2 := x5 _ _ k2
  replace k3 := x5 _ _ k3
  replace k4 := x5 _ _ k4
  generalize upd H4 p5 (.lst [.int 0]) = H5 at f5 k1 k2 k3 k4 k5 ⊢
  walk_at "go"
  refine r_new (by simp) fun p6 q6 => ?_
  have x6 := Ex.rf.up (o := .tup [.str "none"]) q6
  have f6 := f5.up (o := .tup [.str "none"]) q6
  have k6 := upd_same (H := H5) (a := p6) (o := .tup [.str "none"])
  have m6 := (f5).ne q6
  have z6 := (f5).fresh q6
  replace k1 := x6 _ _ k1
  replace k2 := x6 _ _ k2
  replace k3 := x6 _ _ k3
  replace k4 := x6 _ _ k4
  replace k5 := x6 _ _ k5
  generalize upd H5 p6 (.tup [.str "none"]) = H6 at f6 k1 k2 k3 k4 k5 k6 ⊢
  walk_at "go"
  refine r_new (by simp) fun p7 q7 => ?_
  have x7 := Ex.rf.up (o := .lst [.non, .bl true, .bl false, .int 0, .int 1, .int (-1), .int (10 ^ (29 : Int).toNat), .str "", .str "a", .str "page", .ref p1, .ref p2, .ref p3, .ref p4, .ref p5, .ref p6]) q7
  have f7 := f6.up (o := .lst [.non, .bl true, .bl false, .int 0, .int 1, .int (-1), .int (10 ^ (29 : Int).toNat), .str "", .str "a", .str "page", .ref p1, .ref p2, .ref p3, .ref p4, .ref p5, .ref p6]) q7
  have k7 := upd_same (H := H6) (a := p7) (o := .lst [.non, .bl true, .bl false, .int 0, .int 1, .int (-1), .int (10 ^ (29 : Int).toNat), .str "", .str "a", .str "page", .ref p1, .ref p2, .ref p3, .ref p4, .ref p5, .ref p6])
  have m7 := f6.ne q7
  replace k1 := x7 _ _ k1
  replace k2 := x7 _ _ k2
  replace k3 := x7 _ _ k3
  replace k4 := x7 _ _ k4
  replace k5 := x7 _ _ k5
  replace k6 := x7 _ _ k6
  generalize upd H6 p7 _ = H7 at f7 k1 k2 k3 k4 k5 k6 k7 ⊢
  walk_at "go"
  refine draw f7 (by decide) (by decide) fun i H8 i1 i2 f8 g8 => ?_
  replace k1 := g8.keep _ _ m1 k1
  replace k2 := g8.keep _ _ m2 k2
  replace k3 := g8.keep _ _ m3 k3
  replace k4 := g8.keep _ _ m4 k4
  replace k5 := g8.keep _ _ m5 k5
  replace k6 := g8.keep _ _ m6 k6
  replace k7 := g8.keep _ _ m7 k7
  obtain ⟨v, d, hv, hd, sd⟩ : ∃ v d, atI [.non, .bl true, .bl false, .int 0, .int 1, .int (-1), .int (10 ^ (29 : Int).toNat), .str "", .str "a", .str "page", .ref p1, .ref p2, .ref p3, .ref p4, .ref p5, .ref p6] i = some v ∧ (∀ X : Hp, (∀ r o, H r = none → r ≠ a → H8 r = some o → X r = some o) → Dd K X v d) ∧ Sx 2 300 d := by
    rcases (by omega : i = 0 ∨ i = 1 ∨ i = 2 ∨ i = 3 ∨ i = 4 ∨ i = 5 ∨ i = 6 ∨ i = 7 ∨ i = 8 ∨ i = 9 ∨ i = 10 ∨ i = 11 ∨ i = 12 ∨ i = 13 ∨ i = 14 ∨ i = 15) with
      rfl | rfl | rfl | rfl | rfl | rfl | rfl | rfl | rfl | rfl | rfl | rfl | rfl | rfl | rfl | rfl
    · exact ⟨_, _, rfl, fun X hX => .inl .non, sx_small (by decide +kernel)⟩
    · exact ⟨_, _, rfl, fun X hX => .inl (.bl _), sx_small (by decide +kernel)⟩
    · exact ⟨_, _, rfl, fun X hX => .inl (.bl _), sx_small (by decide +kernel)⟩
    · exact ⟨_, _, rfl, fun X hX => .inl (.int _), sx_small (by decide +kernel)⟩
    · exact ⟨_, _, rfl, fun X hX => .inl (.int _), sx_small (by decide +kernel)⟩
    · exact ⟨_, _, rfl, fun X hX => .inl (.int _), sx_small (by decide +kernel)⟩
    · exact ⟨_, _, rfl, fun X hX => .inl (.int _), sx_small (by decide +kernel)⟩
    · exact ⟨_, _, rfl, fun X hX => .inl (.str _), sx_small (by decide +kernel)⟩
    · exact ⟨_, _, rfl, fun X hX => .inl (.str _), sx_small (by decide +kernel)⟩
    · exact ⟨_, _, rfl, fun X hX => .inl (.str _), sx_small (by decide +kernel)⟩
    · exact ⟨_, _, rfl, fun X hX => .inl (.tup (SqT.of (hX _ _ z1 m1 k1)) .nil), sx_small (by decide +kernel)⟩
    · exact ⟨_, _, rfl, fun X hX => .inl (.lst (SqL.of (hX _ _ z2 m2 k2)) .nil), sx_small (by decide +kernel)⟩
    · exact ⟨_, _, rfl, fun X hX => .inr (.dct (ns := []) (hX _ _ z3 m3 k3)), sx_small (by decide +kernel)⟩
    · exact ⟨_, _, rfl, fun X hX => .inl (.tup (SqT.of (hX _ _ z4 m4 k4)) (.cons (.int _) (.cons (.int _) .nil))), sx_small (by decide +kernel)⟩
    · exact ⟨_, _, rfl, fun X hX => .inl (.lst (SqL.of (hX _ _ z5 m5 k5)) (.cons (.int _) .nil)), sx_small (by decide +kernel)⟩
    · exact ⟨_, _, rfl, fun X hX => .inl (.tup (SqT.of (hX _ _ z6 m6 k6)) (.cons (.str _) .nil)), sx_small (by decide +kernel)⟩
  refine r_ixL (SqL.of k7) hv ?_
  exact h _ _ _ f8 hd sd
end
section
variable {K : PySem.W.Frag} {H : Hp} {Q : VK} {E : XK}
/-- of all but two addresses -/
abbrev D2 (a t : Addr) (H : Hp) : Hp := dl t (dl a H)
def Th (K : PySem.W.Frag) (a t : Addr) (H : Hp) (v : V) : Prop := ∃ d, Dd K (D2 a t H) v d ∧ Sx 3 2000 d
theorem Th.mono {a t : Addr} {H' : Hp} {v : V} (e : Ex (D2 a t H) (D2 a t H')) (h : Th K a t H v) : Th K a t H' v := let ⟨d, q, s⟩ := h; ⟨d, dd_mono e q, s⟩
theorem d2_ex {a t : Addr} {H' : Hp} (e : Ex H H') : Ex (D2 a t H) (D2 a t H') := dl_ex (dl_ex e)
theorem d2_fr {a t : Addr} {H' : Hp} (f : Fr a H H') : Ex (D2 a t H) (D2 a t H') := dl_ex (dl_keep f.keep)
theorem d2_le {a t : Addr} : Ex (D2 a t H) H := dl_le.trans dl_le
theorem d2_new {a t : Addr} {o : HO} (h : H t = none) : Ex (dl a H) (D2 a t (upd H t o)) := fun b u hb => by
  have n : b ≠ t := fun q => by
    have := dl_le b u hb
    rw [q, h] at this
    cases this
  show dl t (dl a (upd H t o)) b = some u
  rw [dl_ne n]
  refine dl_ex (fun c w hc => ?_) b u hb
  rw [upd_ne (fun q => by rw [q, h] at hc; cases hc)]
  exact hc
theorem d2_mut {a t : Addr} {o : HO} : Ex (D2 a t H) (D2 a t (upd H t o)) := fun b u hb => by
  by_cases q : b = t
  · have : D2 a t H b = none := if_pos q
    rw [this] at hb
    cases hb
  · show dl t (dl a (upd H t o)) b = some u
    have hb : dl t (dl a H) b = some u := hb
    rw [dl_ne q] at hb ⊢
    by_cases w : b = a
    · have : dl a H b = none := if_pos w
      rw [this] at hb
      cases hb
    · rw [dl_ne w] at hb ⊢
      rw [upd_ne q]
      exact hb
abbrev PL (b p n : Int) (s c : Bool) : List V := [.int b, .int p, .int n, .bl s, .bl c]
theorem cut_whole {xs : List V} {lo hi : Option Int} (h : HT.sIx xs.length 0 lo = 0 ∧ HT.sIx xs.length xs.length hi = xs.length) : cutV xs lo hi = xs := by
  unfold cutV
  rw [h.1, h.2, List.drop_zero, Nat.sub_zero, List.take_length]
theorem sx_int {i : Int} (h : -1000 ≤ i ∧ i ≤ 1000) : Sx 2 300 (.int i) := (sw_int (k := 2) (by omega)).sx.up (Nat.le_refl _) (by decide)
theorem sx_bool (b : Bool) : Sx 2 300 (.bool b) := (sw_bool (k := 2) b).sx.up (Nat.le_refl _) (by decide)
theorem sx5 {d1 d2 d3 d4 d5 : PyData} (h1 : Sx 2 300 d1) (h2 : Sx 2 300 d2) (h3 : Sx 2 300 d3) (h4 : Sx 2 300 d4) (h5 : Sx 2 300 d5) : Sx 3 2000 (.tuple [d1, d2, d3, d4, d5]) :=
  (sx_tup (sxa_cons h1 (sxa_cons h2 (sxa_cons h3 (sxa_cons h4 (sxa_cons h5 sxa_nil)))))).up (Nat.le_refl _) (by decide)
theorem bent {b p n : Int} {s c : Bool} {i : Nat} (hi : i < 5) (hb : -1000 ≤ b ∧ b ≤ 1000) (hp : -1000 ≤ p ∧ p ≤ 1000) (hn : -1000 ≤ n ∧ n ≤ 1000) {q : Addr} {o : V} {d : PyData}
    (sq : SqT K H q ((cutV (PL b p n s c) none (some (i : Int)) ++ [o]) ++ cutV (PL b p n s c) (some ((i : Int) + 1)) none)) (hd : Dd K H o d) (sd : Sx 2 300 d) : ∃ d', Dd K H (.ref q) d' ∧ Sx 3 2000 d' := by
  have B := sx_int hb
  have P := sx_int hp
  have N := sx_int hn
  rcases (by omega : i = 0 ∨ i = 1 ∨ i = 2 ∨ i = 3 ∨ i = 4) with rfl | rfl | rfl | rfl | rfl
  · have sq : SqT K H q [o, .int p, .int n, .bl s, .bl c] := sq
    refine ⟨.tuple [d, .int p, .int n, .bool s, .bool c], ?_, sx5 sd P N (sx_bool _) (sx_bool _)⟩
    rcases hd with hd | hd
    · exact .inl (.tup sq (.cons hd (.cons (.int _) (.cons (.int _) (.cons (.bl _) (.cons (.bl _) .nil))))))
    · exact .inr (.tup sq (.cons hd (.cons (.int _) (.cons (.int _) (.cons (.bl _) (.cons (.bl _) .nil))))))
  · have sq : SqT K H q [.int b, o, .int n, .bl s, .bl c] := sq
    refine ⟨.tuple [.int b, d, .int n, .bool s, .bool c], ?_, sx5 B sd N (sx_bool _) (sx_bool _)⟩
    rcases hd with hd | hd
    · exact .inl (.tup sq (.cons (.int _) (.cons hd (.cons (.int _) (.cons (.bl _) (.cons (.bl _) .nil))))))
    · exact .inr (.tup sq (.cons (.int _) (.cons hd (.cons (.int _) (.cons (.bl _) (.cons (.bl _) .nil))))))
  · have sq : SqT K H q [.int b, .int p, o, .bl s, .bl c] := sq
    refine ⟨.tuple [.int b, .int p, d, .bool s, .bool c], ?_, sx5 B P sd (sx_bool _) (sx_bool _)⟩
    rcases hd with hd | hd
    · exact .inl (.tup sq (.cons (.int _) (.cons (.int _) (.cons hd (.cons (.bl _) (.cons (.bl _) .nil))))))
    · exact .inr (.tup sq (.cons (.int _) (.cons (.int _) (.cons hd (.cons (.bl _) (.cons (.bl _) .nil))))))
  · have sq : SqT K H q [.int b, .int p, .int n, o, .bl c] := sq
    refine ⟨.tuple [.int b, .int p, .int n, d, .bool c], ?_, sx5 B P N sd (sx_bool _)⟩
    rcases hd with hd | hd
    · exact .inl (.tup sq (.cons (.int _) (.cons (.int _) (.cons (.int _) (.cons hd (.cons (.bl _) .nil))))))
    · exact .inr (.tup sq (.cons (.int _) (.cons (.int _) (.cons (.int _) (.cons hd (.cons (.bl _) .nil))))))
  · have sq : SqT K H q [.int b, .int p, .int n, .bl s, o] := sq
    refine ⟨.tuple [.int b, .int p, .int n, .bool s, d], ?_, sx5 B P N (sx_bool _) sd⟩
    rcases hd with hd | hd
    · exact .inl (.tup sq (.cons (.int _) (.cons (.int _) (.cons (.int _) (.cons (.bl _) (.cons hd .nil))))))
    · exact .inr (.tup sq (.cons (.int _) (.cons (.int _) (.cons (.int _) (.cons (.bl _) (.cons hd .nil))))))
theorem item {b p n : Int} {s c : Bool} {i : Nat} (hi : i < 5) (hb : 3 ≤ b ∧ b ≤ 8) (hp : 2 ≤ p ∧ p ≤ 8) (hn : 1 ≤ n ∧ n ≤ 16) :
    ∃ (x : V) (z : Int), atI (PL b p n s c) (i : Int) = some x ∧ (x = .int z ∨ ∃ w, x = .bl w ∧ z = if w = true then 1 else 0) ∧ 0 ≤ z ∧ z ≤ 16 := by
  rcases (by omega : i = 0 ∨ i = 1 ∨ i = 2 ∨ i = 3 ∨ i = 4) with rfl | rfl | rfl | rfl | rfl
  · exact ⟨_, b, rfl, .inl rfl, by omega, by omega⟩
  · exact ⟨_, p, rfl, .inl rfl, by omega, by omega⟩
  · exact ⟨_, n, rfl, .inl rfl, by omega, by omega⟩
  · exact ⟨_, if s = true then 1 else 0, rfl, .inr ⟨s, rfl, rfl⟩, by split <;> decide, by split <;> decide⟩
  · exact ⟨_, if c = true then 1 else 0, rfl, .inr ⟨c, rfl, rfl⟩, by split <;> decide, by split <;> decide⟩
theorem r_addX {x : V} {z m : Int} (hx : x = .int z ∨ ∃ w, x = .bl w ∧ z = if w = true then 1 else 0) (h : Q (.int (z + m)) H) : uAddB K x (.int m) H Q := by
  rcases hx with rfl | ⟨w, rfl, rfl⟩
  · exact r_addB h
  · exact r_addBB h
theorem r_subX {x : V} {z m : Int} (hx : x = .int z ∨ ∃ w, x = .bl w ∧ z = if w = true then 1 else 0) (h : Q (.int (z - m)) H) : uSubB x (.int m) H Q := by
  rcases hx with rfl | ⟨w, rfl, rfl⟩
  · exact r_subB h
  · exact r_subBB h
theorem same_b {b : Bool} (h : Q (.bl true) H) : sp__law_same K [.bl b, .bl b] H Q E := by
  refine ⟨rfl, ?_⟩
  show t__law_same K E _ [some (.bl b), some (.bl b)] H
  unfold t__law_same
  walk_at "go"
  refine r_reprD (.inl (.bl b)) (sx_bool b) (by decide) (by decide) ?_
  walk_at "go"
  refine r_reprD (.inl (.bl b)) (sx_bool b) (by decide) (by decide) ?_
  refine r_eqS ?_
  rw [decide_eq_true rfl]
  exact h
theorem pure_law (pu : Pu K) {s : Addr} {ns : List Int} (hl : ns.length ≤ 63) (hb : ∀ z ∈ ns, Builtin.Int.intBits z ≤ 1048576) (hS : SqL K H s (ns.map V.int)) :
    sp_law K [.ref s] H (fun v _ => v = .bl true) fun _ _ _ => False := by
  refine ⟨rfl, ?_⟩
  show t_law K _ _ [some (.ref s), none, none, none, none, none, none, none, none, none, none, none] H
  unfold t_law
  walk_at "go"
  refine r_for (r_iRng ?_)
  walk_at "go"
  refine r_lenL hS ?_
  walk_at "go"
  rw [List.length_map]
  refine f_rng ?_ (fun i σ H' => ∃ o1 o2 o3 o4 o5 o6 o7 o8 : Option V, σ = [some (.ref s), o1, o2, o3, o4, o5, o6, o7, o8, none, none, none] ∧ Ex H H') ⟨_, _, _, _, _, _, _, _, rfl, Ex.rf⟩ ?_ ?_
  · constructor <;> split <;> split <;> omega
  · rintro i _ H1 hi ⟨o1, o2, o3, o4, o5, o6, o7, o8, rfl, e1⟩
    walk_at "go"
    refine run__law_state (Evl.ex_l e1 hS) fun a H2 ha e2 s2 => ?_
    walk_at "go"
    refine draw (Fr.rf s2) (by decide) (by decide) fun v1 H3 _ _ f3 _ => ?_
    walk_at "go"
    refine draw f3 (by decide) (by decide) fun v2 H4 _ _ f4 _ => ?_
    walk_at "go"
    generalize decide (v1 = 0) = sb
    generalize decide (v2 = 0) = cb
    refine run__law_plan f4.st fun H5 q b p n f5 hbp sq => ?_
    obtain ⟨b1, b2, p1, p2, n1, n2, hm⟩ := hbp
    replace f5 := f4.trans f5
    walk_at "go"
    have pd : ∀ {H : Hp} {q : Addr}, SqT K H q [.int b, .int p, .int n, .bl sb, .bl cb] → Dd K H (.ref q) (.tuple [.int b, .int p, .int n, .bool sb, .bool cb]) := fun h => .inl (.tup h (.cons (.int _) (.cons (.int _) (.cons (.int _) (.cons (.bl _) (.cons (.bl _) .nil))))))
    refine run_is_plan (pd sq) ?_
    have ok : planD (.tuple [.int b, .int p, .int n, .bool sb, .bool cb]) = true := by
      rw [plan_law]
      show (decide (3 ≤ b ∧ b ≤ 8) && (decide (2 ≤ p ∧ p ≤ 8) && (decide (1 ≤ n ∧ n ≤ 16) && (isD "bool" (.bool sb) && (isD "bool" (.bool cb) && decide (n + 5 ≤ b * p - 2 * p)))))) = true
      rw [decide_eq_true ⟨b1, b2⟩, decide_eq_true ⟨p1, p2⟩, decide_eq_true ⟨n1, n2⟩, decide_eq_true hm, show isD "bool" (.bool sb) = true by kernel_rfl, show isD "bool" (.bool cb) = true by kernel_rfl]
      rfl
    rw [ok]
    walk_at "go"
    refine r_iteN (fun z => absurd rfl z) (fun _ => ?_)
    walk_at "go"
    obtain ⟨z1, z2, z3, st5'⟩ := f5.st
    have sqd := dl_sqT st5' sq
    refine r_list sq fun l1 hl1 => ?_
    have m1 := f5.ne hl1
    have f6 := f5.up (o := .lst (PL b p n sb cb)) hl1
    have x6 := Ex.rf.up (o := .lst (PL b p n sb cb)) hl1
    have k1 : dl a (upd H5 l1 (.lst (PL b p n sb cb))) l1 = some (.lst (PL b p n sb cb)) := (dl_ne m1).trans upd_same
    generalize upd H5 l1 (.lst (PL b p n sb cb)) = H6 at f6 x6 k1 ⊢
    have sq6 := Evl.ex_t x6 sq
    walk_at "go"
    refine r_slT (ys := [.int b, .int p, .int n, .bl sb]) sq6 (fun z => nomatch (show (4 : Nat) = 5 from z.2)) rfl fun l2 hl2 => ?_
    have m2 := f6.ne hl2
    have f7 := f6.up (o := .tup [.int b, .int p, .int n, .bl sb]) hl2
    have x7 := Ex.rf.up (o := .tup [.int b, .int p, .int n, .bl sb]) hl2
    have k2 : dl a (upd H6 l2 (.tup [.int b, .int p, .int n, .bl sb])) l2 = some (.tup [.int b, .int p, .int n, .bl sb]) := (dl_ne m2).trans upd_same
    generalize upd H6 l2 (.tup [.int b, .int p, .int n, .bl sb]) = H7 at f7 x7 k2 ⊢
    replace k1 := dl_ex x7 _ _ k1
    have sq7 := Evl.ex_t x7 sq6
    walk_at "go"
    refine r_new (by simp) fun l3 hl3 => ?_
    have x8 := Ex.rf.up (o := .tup [.bl true]) hl3
    have f8 := f7.up (o := .tup [.bl true]) hl3
    refine r_catG (Evl.ex_t x8 sq7) (SqT.of upd_same) (by simp) fun H8 l4 e8 s4 => ?_
    replace f8 := f8.ex e8
    replace x8 := x8.trans e8
    obtain ⟨y1, y2, y3, st8⟩ := f8.st
    have s4d := dl_sqT st8 s4
    replace k1 := dl_ex x8 _ _ k1
    replace k2 := dl_ex x8 _ _ k2
    have sq8 := Evl.ex_t x8 sq7
    walk_at "go"
    refine r_revT ?_
    walk_at "go"
    refine ⟨_, _, rfl, sq8, fun l5 hl5 => ?_⟩
    have m5 := f8.ne hl5
    have f9 := f8.up (o := .tup (PL b p n sb cb).reverse) hl5
    have x9 := Ex.rf.up (o := .tup (PL b p n sb cb).reverse) hl5
    have k5 : dl a (upd H8 l5 (.tup (PL b p n sb cb).reverse)) l5 = some (.tup (PL b p n sb cb).reverse) := (dl_ne m5).trans upd_same
    generalize upd H8 l5 (.tup (PL b p n sb cb).reverse) = H9 at f9 x9 k5 ⊢
    replace k1 := dl_ex x9 _ _ k1
    replace k2 := dl_ex x9 _ _ k2
    replace s4d := Evl.ex_t (dl_ex x9) s4d
    have IB := sx_int (i := b) (by omega)
    have IP := sx_int (i := p) (by omega)
    have IN := sx_int (i := n) (by omega)
    have SB := sx_bool sb
    have SC := sx_bool cb
    have A : ∀ v ∈ [V.ref l1, V.ref l2, V.ref l4, V.ref l5], ∃ d, Dd K (dl a H9) v d ∧ Sx 3 2000 d := by
      intro v hv
      simp only [List.mem_cons, List.not_mem_nil, or_false] at hv
      rcases hv with rfl | rfl | rfl | rfl
      · exact ⟨.list [.int b, .int p, .int n, .bool sb, .bool cb], .inl (.lst (SqL.of k1) (.cons (.int _) (.cons (.int _) (.cons (.int _) (.cons (.bl _) (.cons (.bl _) .nil)))))), (sx_lst (sxa_cons IB (sxa_cons IP (sxa_cons IN (sxa_cons SB (sxa_cons SC sxa_nil)))))).up (Nat.le_refl _) (by decide)⟩
      · exact ⟨.tuple [.int b, .int p, .int n, .bool sb], .inl (.tup (SqT.of k2) (.cons (.int _) (.cons (.int _) (.cons (.int _) (.cons (.bl _) .nil))))), (sx_tup (sxa_cons IB (sxa_cons IP (sxa_cons IN (sxa_cons SB sxa_nil))))).up (Nat.le_refl _) (by decide)⟩
      · exact ⟨.tuple [.int b, .int p, .int n, .bool sb, .bool cb, .bool true], .inl (.tup s4d (.cons (.int _) (.cons (.int _) (.cons (.int _) (.cons (.bl _) (.cons (.bl _) (.cons (.bl _) .nil))))))), (sx_tup (sxa_cons IB (sxa_cons IP (sxa_cons IN (sxa_cons SB (sxa_cons SC (sxa_cons (sx_bool true) sxa_nil))))))).up (Nat.le_refl _) (by decide)⟩
      · exact ⟨.tuple [.bool cb, .bool sb, .int n, .int p, .int b], .inl (.tup (SqT.of k5) (.cons (.bl _) (.cons (.bl _) (.cons (.int _) (.cons (.int _) (.cons (.int _) .nil)))))), sx5 SC SB IN IP IB⟩
    clear k1 k2 k5 s4d
    walk_at "go"
    refine run__law_odd f9.st fun H10 v d f10 dv sv => ?_
    replace dv : Dd K (dl a H10) v d := dv _ fun r o _ hr ho => (dl_ne hr).trans ho
    walk_at "go"
    replace A : ∀ v ∈ [V.ref l1, V.ref l2, V.ref l4, V.ref l5], ∃ d, Dd K (dl a H10) v d ∧ Sx 3 2000 d := fun v hv => let ⟨d, q, s⟩ := A v hv; ⟨d, dd_mono (dl_keep f10.keep) q, s⟩
    have sq10 := f10.sqT f9.st (Evl.ex_t x9 sq8)
    replace f10 := f9.trans f10
    refine r_new (by simp) fun t0 ht0 => ?_
    have k0 := upd_same (H := H10) (a := t0) (o := .lst [V.ref l1, V.ref l2, V.ref l4, V.ref l5, v])
    have x11 := Ex.rf.up (o := .lst [V.ref l1, V.ref l2, V.ref l4, V.ref l5, v]) ht0
    generalize upd H10 t0 (.lst [V.ref l1, V.ref l2, V.ref l4, V.ref l5, v]) = H11 at k0 x11 ⊢
    walk_at "go"
    refine r_new (by simp) fun l6 hl6 => ?_
    have f11 := f10.ex x11
    have m6 := f11.ne hl6
    have x12 := Ex.rf.up (o := .tup [.int 8, .int 8, .int 16, .bl true, .bl false]) hl6
    have k6 : dl a (upd H11 l6 (.tup [.int 8, .int 8, .int 16, .bl true, .bl false])) l6 = some (.tup [.int 8, .int 8, .int 16, .bl true, .bl false]) := (dl_ne m6).trans upd_same
    generalize upd H11 l6 (.tup [.int 8, .int 8, .int 16, .bl true, .bl false]) = H12 at x12 k6 ⊢
    walk_at "go"
    refine r_new (by simp) fun l7 hl7 => ?_
    have f12 := f11.ex x12
    have m7 := f12.ne hl7
    have x13 := Ex.rf.up (o := .tup []) hl7
    have k7 : dl a (upd H12 l7 (.tup [])) l7 = some (.tup []) := (dl_ne m7).trans upd_same
    generalize upd H12 l7 (.tup []) = H13 at x13 k7 ⊢
    replace k6 := dl_ex x13 _ _ k6
    walk_at "go"
    refine r_new (by simp) fun l8 hl8 => ?_
    have x14 := Ex.rf.up (o := .lst [V.ref l6, V.ref l7]) hl8
    have k8 := upd_same (H := H13) (a := l8) (o := .lst [V.ref l6, V.ref l7])
    generalize upd H13 l8 (.lst [V.ref l6, V.ref l7]) = H14 at x14 k8 ⊢
    refine r_cat ((x12.trans (x13.trans x14)) _ _ k0) k8 (by simp) fun t ht => ?_
    have f14 := (f12.ex x13).ex x14
    have nt := f14.ne ht
    have y14 : Ex H10 H14 := x11.trans (x12.trans (x13.trans x14))
    replace A : ∀ v' ∈ [V.ref l1, V.ref l2, V.ref l4, V.ref l5, v] ++ [V.ref l6, V.ref l7], ∃ d, Dd K (dl a H14) v' d ∧ Sx 3 2000 d := by
      intro v' hv
      simp only [List.mem_append, List.mem_cons, List.not_mem_nil, or_false] at hv
      rcases hv with (h | h | h | h | h) | (h | h)
      · obtain ⟨d, q, s⟩ := A v' (by rw [h]; simp); exact ⟨d, dd_mono (dl_ex y14) q, s⟩
      · obtain ⟨d, q, s⟩ := A v' (by rw [h]; simp); exact ⟨d, dd_mono (dl_ex y14) q, s⟩
      · obtain ⟨d, q, s⟩ := A v' (by rw [h]; simp); exact ⟨d, dd_mono (dl_ex y14) q, s⟩
      · obtain ⟨d, q, s⟩ := A v' (by rw [h]; simp); exact ⟨d, dd_mono (dl_ex y14) q, s⟩
      · subst h; exact ⟨d, dd_mono (dl_ex y14) dv, sv.up (by decide) (by decide)⟩
      · subst h; exact ⟨.tuple [.int 8, .int 8, .int 16, .bool true, .bool false], .inl (.tup (SqT.of (dl_ex x14 _ _ k6)) (.cons (.int _) (.cons (.int _) (.cons (.int _) (.cons (.bl _) (.cons (.bl _) .nil)))))), sx5 (sx_int (by decide)) (sx_int (by decide)) (sx_int (by decide)) (sx_bool _) (sx_bool _)⟩
      · subst h; exact ⟨.tuple [], .inl (.tup (SqT.of (dl_ex x14 _ _ k7)) .nil), (sx_tup (k := 2) sxa_nil).up (Nat.le_refl _) (by decide)⟩
    obtain ⟨ys, hys⟩ : ∃ ys, ys = [V.ref l1, V.ref l2, V.ref l4, V.ref l5, v] ++ [V.ref l6, V.ref l7] := ⟨_, rfl⟩
    have yl : ys.length = 7 := by rw [hys]; rfl
    rw [← hys] at A ⊢
    clear hys k0 k6 k7 k8
    have sq14 := Evl.ex_t y14 sq10
    have fr14 : H14 t = none := ht
    have ta : H2 t = none := f14.fresh ht
    have B : ∀ v' ∈ ys, Th K a t (upd H14 t (.lst ys)) v' := fun v' hv => let ⟨d, q, s⟩ := A v' hv; ⟨d, dd_mono (d2_new ht) q, s⟩
    obtain ⟨c1, c2, c3, st14⟩ := f14.st
    have P : SqT K (D2 a t (upd H14 t (.lst ys))) q (PL b p n sb cb) := Evl.ex_t (d2_new ht) (dl_sqT st14 sq14)
    have g15 : Ex (D2 a t H2) (D2 a t (upd H14 t (.lst ys))) := (dl_ex (dl_keep f14.keep)).trans d2_mut
    have st15 : St3 (upd H14 t (.lst ys)) a := ⟨c1, c2, c3, by rw [upd_ne (Ne.symm nt)]; exact st14⟩
    have kt := upd_same (H := H14) (a := t) (o := .lst ys)
    generalize upd H14 t (.lst ys) = H15 at B P g15 st15 kt ⊢
    walk_at "go"
    refine r_for (r_iRng ?_)
    walk_at "go"
    refine f_rng (by decide) (fun j σ H' => ∃ (o5 o6 : Option V) (zs : List V), σ = [some (.ref s), some (.int (i : Int)), some (.ref a), some (.ref q), some (.ref t), o5, o6, o7, o8, none, none, none] ∧ Ex (D2 a t H15) (D2 a t H') ∧ St3 H' a ∧ H' t = some (.lst zs) ∧ zs.length = 7 + 11 * j ∧ ∀ v ∈ zs, Th K a t H' v) ⟨_, _, ys, rfl, Ex.rf, st15, kt, by omega, B⟩ ?_ ?_
    · rintro j _ H16 hj ⟨o5, o6, zs, rfl, g16, st16, kt16, hz, C⟩
      have P16 := Evl.ex_t g16 P
      have sq16 := Evl.ex_t d2_le P16
      have hj5 : j < 5 := by omega
      obtain ⟨x, z, hx, hxz, z1, z2⟩ := item (s := sb) (c := cb) hj5 ⟨b1, b2⟩ ⟨p1, p2⟩ ⟨n1, n2⟩
      walk_at "go"
      refine r_for (r_iList ?_)
      walk_at "go"
      refine r_ixT sq16 hx ?_
      refine r_addX hxz ?_
      walk_at "go"
      refine r_ixT sq16 hx ?_
      refine r_subX hxz ?_
      walk_at "go"
      refine r_new (by simp) fun l9 hl9 => ?_
      have f17 := (Fr.rf st16).up (o := .tup [.int 3]) hl9
      have m9 := (Fr.rf st16).ne hl9
      have m9t : l9 ≠ t := fun w => by rw [w, kt16] at hl9; cases hl9
      have x17 := Ex.rf.up (o := .tup [.int 3]) hl9
      have k9 : D2 a t (upd H16 l9 (.tup [.int 3])) l9 = some (.tup [.int 3]) := (dl_ne m9t).trans ((dl_ne m9).trans upd_same)
      generalize upd H16 l9 (.tup [.int 3]) = H17 at f17 x17 k9 ⊢
      walk_at "go"
      refine run__law_odd f17.st fun H18 v' d' f18 dv' sv' => ?_
      have kt17 := x17 _ _ kt16
      replace dv' : Dd K (D2 a t H18) v' d' := dv' _ fun r o hr0 hr ho => (dl_ne (fun w => by rw [w, kt17] at hr0; cases hr0)).trans ((dl_ne hr).trans ho)
      replace k9 := d2_fr f18 _ _ k9
      have nta : t ≠ a := nt
      have kt18 := f18.keep t _ nta kt17
      have g18 : Ex (D2 a t H16) (D2 a t H18) := (d2_ex x17).trans (d2_fr f18)
      walk_at "go"
      refine r_new (by simp) fun l10 hl10 => ?_
      have m10t : l10 ≠ t := fun w => by rw [w, kt18] at hl10; cases hl10
      have x19 := Ex.rf.up (o := .lst [.int (z + 1), .int (z - 1), .int 0, .int 2, .int 9, .int 17, .non, .bl true, .str "3", .ref l9, v']) hl10
      have m10 := f18.ne hl10
      have kl10 := upd_same (H := H18) (a := l10) (o := .lst [.int (z + 1), .int (z - 1), .int 0, .int 2, .int 9, .int 17, .non, .bl true, .str "3", .ref l9, v'])
      have st19 := (f18.up (o := .lst [.int (z + 1), .int (z - 1), .int 0, .int 2, .int 9, .int 17, .non, .bl true, .str "3", .ref l9, v']) hl10).st
      have O : ∀ u ∈ [V.int (z + 1), .int (z - 1), .int 0, .int 2, .int 9, .int 17, .non, .bl true, .str "3", .ref l9, v'], ∃ d, Dd K (D2 a t H18) u d ∧ Sx 2 300 d := by
        intro u hu
        simp only [List.mem_cons, List.not_mem_nil, or_false] at hu
        rcases hu with rfl | rfl | rfl | rfl | rfl | rfl | rfl | rfl | rfl | rfl | rfl
        · exact ⟨_, .inl (.int _), sx_int (by omega)⟩
        · exact ⟨_, .inl (.int _), sx_int (by omega)⟩
        · exact ⟨_, .inl (.int _), sx_int (by decide)⟩
        · exact ⟨_, .inl (.int _), sx_int (by decide)⟩
        · exact ⟨_, .inl (.int _), sx_int (by decide)⟩
        · exact ⟨_, .inl (.int _), sx_int (by decide)⟩
        · exact ⟨_, .inl .non, sx_small (by decide +kernel)⟩
        · exact ⟨_, .inl (.bl _), sx_bool _⟩
        · exact ⟨_, .inl (.str _), sx_small (by decide +kernel)⟩
        · exact ⟨.tuple [.int 3], .inl (.tup (SqT.of k9) (.cons (.int _) .nil)), sx_small (by decide +kernel)⟩
        · exact ⟨d', dv', sv'⟩
      replace O : ∀ u ∈ [V.int (z + 1), .int (z - 1), .int 0, .int 2, .int 9, .int 17, .non, .bl true, .str "3", .ref l9, v'], ∃ d, Dd K (D2 a t (upd H18 l10 (.lst [.int (z + 1), .int (z - 1), .int 0, .int 2, .int 9, .int 17, .non, .bl true, .str "3", .ref l9, v']))) u d ∧ Sx 2 300 d := fun u hu => let ⟨d, q, s⟩ := O u hu; ⟨d, dd_mono (d2_ex x19) q, s⟩
      obtain ⟨ol, hol⟩ : ∃ ol, ol = [V.int (z + 1), .int (z - 1), .int 0, .int 2, .int 9, .int 17, .non, .bl true, .str "3", .ref l9, v'] := ⟨_, rfl⟩
      have oll : ol.length = 11 := by rw [hol]; rfl
      rw [← hol] at O x19 kl10 st19 ⊢
      replace kt18 := x19 _ _ kt18
      replace g18 : Ex (D2 a t H16) (D2 a t (upd H18 l10 (.lst ol))) := g18.trans (d2_ex x19)
      clear hol
      generalize upd H18 l10 (.lst ol) = H19 at O kl10 st19 kt18 g18 ⊢
      refine f_lst (SqL.of kl10) (fun r σ H' => ∃ (o6 : Option V) (ws : List V), σ = [some (.ref s), some (.int (i : Int)), some (.ref a), some (.ref q), some (.ref t), some (.int (j : Int)), o6, o7, o8, none, none, none] ∧ Ex (D2 a t H19) (D2 a t H') ∧ St3 H' a ∧ H' t = some (.lst ws) ∧ ws.length + r.length = 7 + 11 * (j + 1) ∧ (∀ v ∈ ws, Th K a t H' v) ∧ (∀ u ∈ r, ∃ d, Dd K (D2 a t H') u d ∧ Sx 2 300 d) ∧ H' l10 = some (.lst ol))
        ⟨_, zs, rfl, Ex.rf, st19, kt18, by omega, fun v hv => (C v hv).mono g18, O, kl10⟩ (fun r σ H' ⟨_, _, _, _, _, _, _, _, _, e⟩ => SqL.of e) ?_ ?_
      · rintro u r _ H20 ⟨o6, ws, rfl, g20, st20, kt20, hw, C20, O20, kl20⟩
        obtain ⟨du, hdu, sdu⟩ := O20 u (List.mem_cons_self ..)
        have P20 := Evl.ex_t (g18.trans g20) P16
        have sq20 := Evl.ex_t d2_le P20
        rw [List.length_cons] at hw
        walk_at "go"
        refine ⟨ty_list kt20, ?_⟩
        walk_at "go"
        refine r_slG sq20 cut_whole fun H21 s1 e21 t1 => ?_
        walk_at "go"
        refine r_new (by simp) fun s2 hs2 => ?_
        have x22 := Ex.rf.up (o := .tup [u]) hs2
        refine r_catG (Evl.ex_t x22 t1) (SqT.of upd_same) (by rw [List.length_singleton]; exact Nat.le_trans (Nat.add_le_add_right (cutV_length _ _ _) 1) (show 5 + 1 ≤ 1000 by decide)) fun H22 s3 e22 t3 => ?_
        walk_at "go"
        have y22 : Ex H20 H22 := e21.trans (x22.trans e22)
        refine r_slG (Evl.ex_t y22 sq20) cut_whole fun H23 s4 e23 t4 => ?_
        refine r_catG (Evl.ex_t e23 t3) t4 (by rw [List.length_append, List.length_singleton]; have q1 := cutV_length (PL b p n sb cb) none (some (j : Int)); have q2 := cutV_length (PL b p n sb cb) (some ((j : Int) + 1)) none; have q3 : (PL b p n sb cb).length = 5 := rfl; omega) fun H24 s5 e24 t5 => ?_
        walk_at "go"
        have y24 : Ex H20 H24 := y22.trans (e23.trans e24)
        have kt24 := y24 _ _ kt20
        obtain ⟨d1, d2, d3, w20⟩ := st20
        have w24 := y24 _ _ w20
        have t5d : SqT K (D2 a t H24) s5 _ := dl_sqT (H := dl a H24) (a := t) (l := ws) ((dl_ne nt).trans kt24) (dl_sqT w24 t5)
        obtain ⟨dn, hdn, sdn⟩ := bent hj5 (by omega) (by omega) (by omega) t5d (dd_mono (d2_ex y24) hdu) sdu
        refine r_app kt24 (by omega) ?_
        walk_at "go"
        have g24 : Ex (D2 a t H20) (D2 a t (upd H24 t (.lst (ws ++ [.ref s5])))) := (d2_ex y24).trans d2_mut
        refine ⟨_, ws ++ [.ref s5], rfl, g20.trans g24, ⟨d1, d2, d3, by rw [upd_ne (Ne.symm nt)]; exact w24⟩, upd_same, by rw [List.length_append, List.length_singleton]; omega, ?_, fun u hu => let ⟨d, q, s⟩ := O20 u (List.mem_cons_of_mem _ hu); ⟨d, dd_mono g24 q, s⟩, by rw [upd_ne m10t]; exact y24 _ _ kl20⟩
        intro v hv
        rcases List.mem_append.mp hv with w | w
        · exact (C20 v w).mono g24
        · rw [List.mem_singleton.mp w]
          exact ⟨dn, dd_mono d2_mut hdn, sdn⟩
      · rintro _ H20 ⟨o6, ws, rfl, g20, st20, kt20, hw, C20, O20, kl20⟩
        walk_at "go"
        exact ⟨_, _, ws, rfl, g16.trans (g18.trans g20), st20, kt20, by rw [List.length_nil] at hw; omega, C20⟩
    · rintro _ H16 ⟨o5, o6, zs, rfl, g16, st16, kt16, hz, C⟩
      walk_at "go"
      refine r_for (r_iterL ?_)
      walk_at "go"
      refine f_lst (SqL.of kt16) (fun r σ H' => ∃ o7 o8 : Option V, σ = [some (.ref s), some (.int (i : Int)), some (.ref a), some (.ref q), some (.ref t), o5, o6, o7, o8, none, none, none] ∧ Ex H16 H' ∧ ∀ v ∈ r, v ∈ zs) ⟨_, _, rfl, Ex.rf, fun v h => h⟩ (fun r σ H' ⟨_, _, _, e, _⟩ => SqL.of (e _ _ kt16)) ?_ ?_
      · rintro x r _ H17 ⟨o7, o8, rfl, e17, hr⟩
        obtain ⟨d, hd, sd⟩ := C x (hr x (List.mem_cons_self ..))
        have hd17 := dd_mono (d2_le.trans e17) hd
        obtain ⟨sh, hsh⟩ : ∃ sh, sh = d.shown := ⟨_, rfl⟩
        walk_at "go"
        refine r_reprD hd17 sd (by decide) (by decide) ?_
        rw [← hsh]
        walk_at "go"
        refine run_is_plan hd17 ?_
        walk_at "go"
        refine run__law_is_plan hd17 ?_
        walk_at "go"
        refine same_b ?_
        walk_at "go"
        refine r_reprD hd17 sd (by decide) (by decide) ?_
        rw [← hsh]
        walk_at "go"
        refine r_iteN (fun z => absurd rfl z) (fun _ => ?_)
        walk_at "go"
        exact ⟨_, _, rfl, e17, fun v hv => hr v (List.mem_cons_of_mem _ hv)⟩
      · rintro _ H17 ⟨o7, o8, rfl, e17, _⟩
        walk_at "go"
        refine ⟨_, _, _, _, _, _, _, _, rfl, fun r o hr => e17 _ _ ?_⟩
        have h1 := e1 _ _ hr
        have na : r ≠ a := fun w => by rw [w, ha] at h1; cases h1
        have h2 := e2 _ _ h1
        have nr : r ≠ t := fun w => by rw [w, ta] at h2; cases h2
        have h3 : D2 a t H2 r = some o := (dl_ne nr).trans ((dl_ne na).trans h2)
        exact d2_le _ _ (g16 _ _ (g15 _ _ h3))
  · rintro _ H1 ⟨o1, o2, o3, o4, o5, o6, o7, o8, rfl, e1⟩
    clear e1
    walk_at "go"
    refine r_for (r_iList ?_)
    walk_at "go"
    refine r_new (by simp) fun u1 hu1 => ?_
    refine f_lst (SqL.of upd_same) (fun r σ H' => ∃ (o7 o9 o10 o11 : Option V), σ = [some (.ref s), o1, o2, o3, o4, o5, o6, o7, o8, o9, o10, o11] ∧ Ex (upd H1 u1 (.lst [.int 2, .int 3, .int 4, .int 7, .int 8, .int 9])) H' ∧ ∀ v ∈ r, ∃ x : Int, v = .int x) ⟨_, _, _, _, rfl, Ex.rf, by simp⟩ (fun r σ H' ⟨_, _, _, _, _, e, _⟩ => SqL.of (e _ _ upd_same)) ?_ ?_
    · rintro x r _ H2 ⟨o7, o9, o10, o11, rfl, e2, hr⟩
      obtain ⟨x, rfl⟩ := hr x (List.mem_cons_self ..)
      walk_at "go"
      refine r_for (r_iList ?_)
      walk_at "go"
      refine r_new (by simp) fun u2 hu2 => ?_
      refine f_lst (SqL.of upd_same) (fun r σ H' => ∃ (o7 o10 o11 : Option V), σ = [some (.ref s), o1, o2, o3, o4, o5, o6, o7, o8, some (.int x), o10, o11] ∧ Ex (upd H2 u2 (.lst [.int 1, .int 2, .int 3, .int 5, .int 6, .int 7, .int 8, .int 9])) H' ∧ ∀ v ∈ r, ∃ x : Int, v = .int x) ⟨_, _, _, rfl, Ex.rf, by simp⟩ (fun r σ H' ⟨_, _, _, _, e, _⟩ => SqL.of (e _ _ upd_same)) ?_ ?_
      · rintro y r2 _ H3 ⟨o7, o10, o11, rfl, e3, hr2⟩
        obtain ⟨y, rfl⟩ := hr2 y (List.mem_cons_self ..)
        walk_at "go"
        refine r_for (r_iList ?_)
        walk_at "go"
        refine r_new (by simp) fun u3 hu3 => ?_
        refine f_lst (SqL.of upd_same) (fun r σ H' => ∃ (o7 o11 : Option V), σ = [some (.ref s), o1, o2, o3, o4, o5, o6, o7, o8, some (.int x), some (.int y), o11] ∧ Ex (upd H3 u3 (.lst [.int 0, .int 1, .int 2, .int 3, .int 7, .int 15, .int 16, .int 17])) H' ∧ ∀ v ∈ r, ∃ x : Int, v = .int x) ⟨_, _, rfl, Ex.rf, by simp⟩ (fun r σ H' ⟨_, _, _, e, _⟩ => SqL.of (e _ _ upd_same)) ?_ ?_
        · rintro w r3 _ H4 ⟨o7, o11, rfl, e4, hr3⟩
          obtain ⟨w, rfl⟩ := hr3 w (List.mem_cons_self ..)
          walk_at "go"
          refine r_new (by simp) fun u4 hu4 => ?_
          have dd : Dd K (upd H4 u4 (.tup [.int x, .int y, .int w, .bl true, .bl false])) (.ref u4) (.tuple [.int x, .int y, .int w, .bool true, .bool false]) := .inl (.tup (SqT.of upd_same) (.cons (.int _) (.cons (.int _) (.cons (.int _) (.cons (.bl _) (.cons (.bl _) .nil))))))
          walk_at "go"
          refine run_is_plan dd ?_
          walk_at "go"
          refine run__law_is_plan dd ?_
          walk_at "go"
          refine r_iteN (fun z => absurd rfl z) (fun _ => ?_)
          walk_at "go"
          exact ⟨_, _, rfl, e4.up hu4, fun v hv => hr3 v (List.mem_cons_of_mem _ hv)⟩
        · rintro _ H4 ⟨o7, o11, rfl, e4, _⟩
          exact ⟨_, _, _, rfl, (e3.up hu3).trans e4, fun v hv => hr2 v (List.mem_cons_of_mem _ hv)⟩
      · rintro _ H3 ⟨o7, o10, o11, rfl, e3, _⟩
        exact ⟨_, _, _, _, rfl, (e2.up hu2).trans e3, fun v hv => hr v (List.mem_cons_of_mem _ hv)⟩
    · rintro _ H2 ⟨o7, o9, o10, o11, rfl, e2, _⟩
      walk_at "go"
      rfl
end
end Fk
open PySem PySem.W PySem.Calls PyProof.Rows
set_option maxRecDepth 100000 in
set_option maxHeartbeats 8000000 in
theorem PySem.Challenge.cw_flashkeep_k15_plans_looked_at_holds : PySem.Challenge.rw_flashkeep_k15_plans_looked_at.Holds := by
  w_on; o_law
  refine HandSHeadRun.head_any (r := OpenLaw.row PySem.Challenge.rw_flashkeep_k15_plans_looked_at) (q := view (OpenLaw.row PySem.Challenge.rw_flashkeep_k15_plans_looked_at).prog [18]) (H := Fk.hk) (ob := Fk.ob) (M := 20000) (loose := Fk.loose) (d := HandSHeadRun.topDef (OpenLaw.row PySem.Challenge.rw_flashkeep_k15_plans_looked_at).prog 18) (kwd := []) Fk.ob_eq
    (by kernel_rfl) (fun s => by kernel_rfl) Fk.run (by kernel_rfl) (by kernel_rfl) (by kernel_rfl) (by rfl) (by first | assumption | decide +kernel) (by decide +kernel) ⟨rfl, rfl, rfl, rfl, rfl, by decide +kernel⟩ ?hw ?hc
  case hw => w_witness2
  case hc =>
    refine Fk.walk_endG (l := PySem.Challenge.rw_flashkeep_k15_plans_looked_at) (n := 63) (k := 4) (x := "_law_script") rfl (by decide) (by kernel_rfl) ⟨rfl, by decide, by decide⟩ ?_
    intro w mg fa h Y G hmg0
    obtain ⟨K, KX, c⟩ := Y
    have hmg : mg ("law" : PySem.Str) = some (.ref fa) := by
      have e : (HandSHeadRun.topDef (OpenLaw.row PySem.Challenge.rw_flashkeep_k15_plans_looked_at).prog 18).name = ("law" : PySem.Str) := by kernel_rfl
      rw [← e]
      exact hmg0
    obtain ⟨pu, fd, hb, hF⟩ := Fk.facts (P := (PySem.Challenge.rw_flashkeep_k15_plans_looked_at).prog) (w := w) KX G hmg c
    exact ⟨K, fd, Fk.sp_law K, KX, hb, fun H a ns hl hbits hS => Fk.pure_law pu hl hbits hS, hF⟩
