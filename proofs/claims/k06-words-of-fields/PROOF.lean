import PyProof.Rows.All
import Wide.All
import OpenK.AllK
import Wide.FinOn
import KE.KStateDown
import KE.GoesEnum
import Lean
import HandS.ForMost
import HandS.Exc
import HandS.TryOnly
import HandS.TryMany
import HandS.ExcOwn
import HandS.WordsExc
import HandS.Defaults
import HandS.IsInst
import HandS.Wide
import HandS.Style
import HandS.Zip
import HandS.TupAny
import HandS.Flow
import HandS.Deep
import HandS.More
import HandS.SetKeys
import HandS.CallSlots
import HandS.Head0
import HandS.Head1
import HandS.Head2
import HandS.HeadEnd
import HandS.HeadHook1
import HandS.HeadHook2
import HandS.HeadHook4
import HandS.EndBits
import HandS.Evl
import PyProof.ReprRoads
import PyProof.ReprLen
import HandS.Strs
import PySem.Challenge.RW_flashkeep_k06_words_of_fields
set_option Elab.async false
set_option linter.all false
set_option maxRecDepth 100000
set_option maxHeartbeats 4000000
namespace Fk
open PySem PySem.Spec PyProof.Rows L2

/-- a function of the text that stands behind its name: promise, binding, the values that fill up -/
structure Cal (P : Program) (w : World) (K : PySem.W.Frag) (mg : Str → Option Value) (base : Heap) (k : Nat) (x : Str) (ps : List Str) (dvs : List V) (sp : Sp) : Prop where
  ex : ∃ (f : Addr) (fd : FuncData) (ds : List Value), FnOk P w K mg base (L2.CX P w) k f fd ps sp ∧ mg x = some (.ref f) ∧ PySem.W.keepIn K (.ref f) = true ∧ Binds K fd ps ds ∧ Vals dvs ds

section
variable {X : Cx} {k j : Nat} {x : Str} {ps : List Str} {dvs : List V} {sp : Sp} {E : XK} {p pos : Pos} {e : Expr} {es : List Expr} {t u : TA}
theorem pe_cal (F : Cal X.prog X.w X.K X.mg X.base k x ps dvs sp) (hr : Room j X.A) (hk : k ≤ j) (hg : Gl X x) (hx : Passes (L2.CX X.prog X.w) X E) (ha : PA X (e :: es) t)
    (hdb : (x == ("__debug__" : Str)) = false := by decide) (he : starEach (e :: es) X.env = (false, eval e X.env) :: starEach es X.env := by rfl) (hpl : (backTo pos (starEach es X.env)).any (·.1) = false := by rfl) :
    PE X (.Call (.Name x p) (e :: es) [] pos) (tCall sp dvs E t) := by
  obtain ⟨f, fd, ds, G, gm, kp, b, v⟩ := F.ex
  exact pe_call G (hr.mono hk) hg gm kp b v hx ha hdb he hpl
theorem pe_cal0 (F : Cal X.prog X.w X.K X.mg X.base k x ps dvs sp) (hr : Room j X.A) (hk : k ≤ j) (hg : Gl X x) (hx : Passes (L2.CX X.prog X.w) X E)
    (hdb : (x == ("__debug__" : Str)) = false := by decide) : PE X (.Call (.Name x p) [] [] pos) (tCall sp dvs E tNil) := by
  obtain ⟨f, fd, ds, G, gm, kp, b, v⟩ := F.ex
  exact pe_call0 G (hr.mono hk) hg gm kp b v hx hdb
/-- either reading serves -/
theorem pe_or {ex : Expr} {a b : TE} (h1 : PE X ex a) (h2 : PE X ex b) : PE X ex (fun σ H Q => a σ H Q ∨ b σ H Q) :=
  ⟨fun pins s σ H Q I h => h.elim (fun q => h1.run pins s σ H Q I q) (fun q => h2.run pins s σ H Q I q)⟩
theorem pi_or {tg it : Expr} {a b : TI} (h1 : PI X tg it a) (h2 : PI X tg it b) : PI X tg it (fun σ H R => a σ H R ∨ b σ H R) :=
  ⟨fun pins s σ H R I h => h.elim (fun q => h1.run pins s σ H R I q) (fun q => h2.run pins s σ H R I q)⟩
end

/-! ### operators, whatever the operands are -/
def uAdd (K : PySem.W.Frag) : R2 := fun x y H Q => (∃ i j, x = .int i ∧ y = .int j ∧ Q (.int (i + j)) H) ∨
  ((∃ i j, x = .str i ∧ y = .str j ∧ i.length + j.length ≤ sizeLine ∧ Q (.str (i ++ j)) H) ∨ (rCat x y H Q ∨ rCatA K x y H Q))
def uSub : R2 := rI0 fun i j => .int (i - j)
def uMul (K : PySem.W.Frag) : R2 := fun x y H Q => (rI CMul fun i j => .int (i * j)) x y H Q ∨ (rRep x y H Q)
def uFdv : R2 := fun x y H Q => (rI CDiv fun i j => .int (i / j)) x y H Q ∨ (rI CDivW fun i j => .int (i / j)) x y H Q
def uMod : R2 := rI (fun _ j => 0 < j) fun i j => .int (i % j)
def uPow : R2 := rI CPow fun i j => .int (i ^ j.toNat)
def uShl : R2 := rI CPow fun i j => .int (i * 2 ^ j.toNat)
def uShr : R2 := rI (fun _ j => 0 ≤ j) fun i j => .int (i / 2 ^ j.toNat)
def uAnd : R2 := rI0 fun i j => .int (Builtin.bitAnd i j)
def uOr : R2 := rI0 fun i j => .int (Builtin.bitOr i j)
def uXor : R2 := rI0 fun i j => .int (Builtin.bitXor i j)
def uLt : R2 := rI0 fun i j => .bl (decide (i < j))
def uLe : R2 := rI0 fun i j => .bl (decide (i ≤ j))
def uGt : R2 := rI0 fun i j => .bl (decide (j < i))
def uGe : R2 := rI0 fun i j => .bl (decide (j ≤ i))
def uEq (K : PySem.W.Frag) : R2 := fun x y H Q => rEq x y H Q ∨ rEqD K x y H Q
def uNe (K : PySem.W.Frag) : R2 := fun x y H Q => rNe x y H Q ∨ rNeD K x y H Q
def uIsN : R2 := fun x y H Q => (y = .non ∧ Q (.bl (decide (x = .non))) H) ∨ (∃ a b, x = .bl a ∧ y = .bl b ∧ Q (.bl (decide (a = b))) H)
def uNotN : R2 := fun x y H Q => (y = .non ∧ Q (.bl (!decide (x = .non))) H) ∨ (∃ a b, x = .bl a ∧ y = .bl b ∧ Q (.bl (!decide (a = b))) H)
section
variable {X : Cx}
theorem o_add : OpR X (binaryOp .Add) (uAdd X.K) := op_add.or (op_add_str.or (op_cat.or op_catA))
theorem o_sub : OpR X (binaryOp .Sub) uSub := op_sub
theorem o_mul : OpR X (binaryOp .Mult) (uMul X.K) := op_mul.or op_rep
theorem o_fdv : OpR X (binaryOp .FloorDiv) uFdv := op_fdiv.or op_fdivW
theorem o_mod : OpR X (binaryOp .Mod) uMod := op_mod
theorem o_pow : OpR X (binaryOp .Pow) uPow := op_pow
theorem o_shl : OpR X (binaryOp .LShift) uShl := op_shl
theorem o_shr : OpR X (binaryOp .RShift) uShr := op_shr
theorem o_and : OpR X (binaryOp .BitAnd) uAnd := op_and
theorem o_or : OpR X (binaryOp .BitOr) uOr := op_or
theorem o_xor : OpR X (binaryOp .BitXor) uXor := op_xor
theorem o_lt : OpR X (compareOp .Lt) uLt := op_lt
theorem o_le : OpR X (compareOp .LtE) uLe := op_le
theorem o_gt : OpR X (compareOp .Gt) uGt := op_gt
theorem o_ge : OpR X (compareOp .GtE) uGe := op_ge
theorem o_eq (hu : X.A.units + 64 < cLine) : OpR X (compareOp .Eq) (uEq X.K) := op_eq.or (op_eqD hu)
theorem o_ne (hu : X.A.units + 64 < cLine) : OpR X (compareOp .NotEq) (uNe X.K) := op_ne.or (op_neD hu)
theorem o_is : OpR X (compareOp .Is) uIsN := op_isN.or op_isBl
theorem o_nis : OpR X (compareOp .IsNot) uNotN := op_notN.or op_notBl
end
/-! ### built-ins -/
def uInt : List V → Hp → VK → Prop := fun xs H Q => (∃ i, xs = [.int i] ∧ Q (.int i) H) ∨ ∃ k, xs = [.bl k] ∧ Q (.int (if k then 1 else 0)) H
def uMax2 : List V → Hp → VK → Prop := fun xs H Q => ∃ i j, xs = [.int i, .int j] ∧ Q (.int (if j > i then j else i)) H
def uMin2 : List V → Hp → VK → Prop := fun xs H Q => ∃ i j, xs = [.int i, .int j] ∧ Q (.int (if j < i then j else i)) H
def uIter (K : PySem.W.Frag) (t : TE) : TI := fun σ H R => iList K t σ H R ∨ iTup K t σ H R
/-! ### exceptions of the text's own classes -/
structure ExcF (K : PySem.W.Frag) (mg : Str → Option Value) (x : Str) : Prop where
  gl : mg x = some (.ref (He.ga K x))
  ex : PySem.W.excIn K (He.ga K x) He.veBase "ValueError.__new__" = true
  kp : PySem.W.keepIn K (.ref (He.ga K x)) = true
  sub : PySem.W.subIn K (.ref (He.ga K x)) (.type "BaseException") = some true
  ty : PySem.W.typeIn K (.ref (He.ga K x)) = some (.type "type")
def tRz (E : XK) (C : Addr) : TS := fun _ _ H => E (.ref C) none H
section
variable {X : Cx}
theorem ps_rz {E : XK} {x m : Str} {j : Nat} {p p2 pos pos' : Pos} (T : ExcF X.K X.mg x) (hc : X.calm = true) (tk : Takes X (fun cls d _ H => E cls d H)) (hg : Gl X x) (hdb : (x == ("__debug__" : Str)) = false := by decide) :
    PS X (.Raise (some (.Call (.Name x p) [.Constant (.str m) j p2] [] pos)) none pos') (tRz E (He.ga X.K x)) :=
  ps_raise hc tk (pmk_own PySem.F.excBase_ValueError T.ex T.gl T.kp (raises_own T.sub T.ty) hg hdb)
end
section
variable {P : Program} {w : World} {K : PySem.W.Frag} {mg : Str → Option Value} {base : Heap} {N : List Str} {qual : Str} {scope : Scope} {f : Addr} {cd : Value} {A : Around} {outer : List Env} {s : Shared} {H : Hp} {E : XK}
abbrev cxD (P : Program) (w : World) (K : PySem.W.Frag) (mg : Str → Option Value) (base : Heap) (N : List Str) (qual : Str) (scope : Scope) (f : Addr) (cd : Value) (A : Around) (outer : List Env) (s : Shared) (H : Hp) (E : XK) : Cx :=
  cxOf (L2.CX P w) P w K mg base N qual scope f cd A outer s H E
theorem takes_def : Takes (cxD P w K mg base N qual scope f cd A outer s H E) (fun cls d _ H => E cls d H) := takes_of rfl rfl rfl rfl
theorem own_def : PassesOwn (model P w) (cxD P w K mg base N qual scope f cd A outer s H E).A (cxD P w K mg base N qual scope f cd A outer s H E).env (cxD P w K mg base N qual scope f cd A outer s H E).xe := passes_of rfl
end
theorem pass_def {X : Cx} {E : XK} (tk : Takes X (fun cls d _ H => E cls d H)) : Passes (L2.CX X.prog X.w) X E := passes_call tk (fun _ _ _ _ h => h)

/-! ### the end -/
/-- a law's end over a head by facts, the bits of the script's numbers told -/
theorem walk_end {l : PySem.W.OpenLaw} {n k : Nat} {q : Program} {loose : List Str} {XP : (Str → Option Value) → Heap → Prop} {YP : World → Heap → Prop} {d : DefRec} {x : Str}
    (hn : l.most = some n) (hn2 : n ≤ sizeLine) (hdf : d.params.defaults = []) (hr : Room k callerA)
    (Fx : ∀ (w : World) (mg : Str → Option Value) (fa : Addr) (h : Heap), YP w h → h.Ns mainGlobals mg → mg d.name = some (.ref fa) →
      ∃ (K : PySem.W.Frag) (fd : FuncData) (sp : Sp), K.In h ∧ (∀ (s : Shared) (u : Value), BindsTo s fd ⟨[u], []⟩ [(x, u)]) ∧
        (∀ (H : Hp) (a : Addr) (ns : List Int), ns.length ≤ n → (∀ z ∈ ns, Builtin.Int.intBits z ≤ 1048576) → SqL K H a (ns.map V.int) → sp [.ref a] H (fun v _ => v = .bl true) fun _ _ _ => False) ∧
        ∀ base : Heap, K.In base → base.Ns mainGlobals mg → FnOk l.prog w K mg base (L2.CX l.prog w) k fa fd [x] sp) :
    PySem.W.WalkO q loose XP YP l.row.toRowW d [] (fun f vs => PySem.call f vs) := by
  refine Att.attach_callB hn hdf ?_
  intro w s0 s1 mg mb fa o pm cd doc a vs ns G Y ho hd hcd hmg hobj hints hlen hbits hg
  obtain ⟨K, fd, sp, KX, hb, hsp, hF⟩ := Fx w mg fa _ Y G.T.g hmg
  refine law_call KX G.T.g G.T.b G.T.builtins G.T.nolimit hg hobj hints (Nat.le_trans hlen hn2) hr hF hb (fun H hO hS => hsp H a ns hlen hbits hS) (fun H e s' hc => ?_)
  obtain ⟨_, _, _, _, _, _, _, _, _, _, _, _, z⟩ := hc
  exact z
end Fk
/-! enumerate of a tuple, as a walked thing -/
namespace Fk
open PySem PySem.Spec PyProof.Rows L2
set_option maxHeartbeats 4000000 in
theorem meets_enumB {v : Value} {o : Obj} {Hx : Heap → Prop} (B : Begins v o Hx) :
    Meets (Builtin.«enumerate.__new__» ⟨[.type "enumerate", v], []⟩) (fun _ R s => Hx s.heap ∧
      R (.ok (.ret (.ref (s.heap.push o).objs.size)))
        { s with heap := (s.heap.push o).push { cls := .type "enumerate", data := .fields #[.none, .bool false, .ref s.heap.objs.size, rawInt 0, .none, .none] } }) := by
  refine .of_wp fun prog w A R s h => ?_
  obtain ⟨hp, g, d, tk, os⟩ := s
  obtain ⟨h1, h⟩ := h
  have hsub := sub_enumerate
  have q1 : ∀ {A' : Around} {E : Value → Shared → Prop} {Q : Value → Shared → Prop}, Q (.ref hp.objs.size) ⟨hp.push o, g, d, tk, os⟩ →
      wpAny (model prog w) A' (pyIter v) Q E ⟨hp, g, d, tk, os⟩ := fun z => B.iter prog w _ _ ⟨hp, g, d, tk, os⟩ _ h1 z
  wp_walk using q1
  refine wpAny_stack_any fun st => wpAny_pure ?_
  split
  · rename_i c _ _ _ _ _
    cases (c == Value.type "enumerate") <;> (wp_walk using q1; exact ⟨_, rfl, h⟩)
  · wp_walk using q1
    exact ⟨_, rfl, h⟩
theorem call_enumB {prog : Program} {w : World} {A : Around} {E : Value → Shared → Prop} {s : Shared} {v : Value} {o : Obj} {Hx : Heap → Prop} {Q : Value → Shared → Prop} (B : Begins v o Hx) (h1 : Hx s.heap)
    (h : ∀ h', IsEnum h' (s.heap.objs.size + 1) s.heap.objs.size 0 .none → h'.get? s.heap.objs.size = some o →
      (∀ b ob, s.heap.get? b = some ob → h'.get? b = some ob) → Q (.ref (s.heap.objs.size + 1)) { s with heap := h' }) :
    wpAny (model prog w) A (call (.type "enumerate") [v]) Q E s := by
  refine callType_new F.called_enumerate (by decide) (F.typeCall_enumerate_1 _) (F.newCall_enumerate_1 _) (fun obj => F.args_object_init_2 obj _) F.entry_enumerate_new (meets_enumB B) ⟨h1, ?_⟩
  have hz : (s.heap.push o).objs.size = s.heap.objs.size + 1 := Heap.size_push ..
  show _ ∧ _
  rw [hz]
  have he : IsEnum ((s.heap.push o).push { cls := .type "enumerate", data := .fields #[.none, .bool false, .ref s.heap.objs.size, rawInt 0, .none, .none] }) (s.heap.objs.size + 1) s.heap.objs.size 0 .none := by
    have e2 := Heap.get?_push_size (s.heap.push o) (o := { cls := .type "enumerate", data := .fields #[.none, .bool false, .ref s.heap.objs.size, rawInt 0, .none, .none] }) rfl
    rw [hz] at e2
    exact e2
  exact ⟨⟨_, he, rfl⟩, h _ he (Heap.get?_push_of_some _ (Heap.get?_push_size _ B.free)) fun b ob x => Heap.get?_push_of_some _ (Heap.get?_push_of_some _ x)⟩
/-- the tuple at a, each item in a new pair with its number -/
def IteT (K : PySem.W.Frag) (a : Addr) : It where
  go := fun i H => ∃ (xs : List V) (x : V), SqT K H a xs ∧ xs[i]? = some x
  yld := fun i H v H' => ∃ T x, v = .ref T ∧ H T = none ∧ H' = upd H T (.tup [.int (i : Nat), x]) ∧ ∀ xs, SqT K H a xs → xs[i]? = some x
  stop := fun i H => ∃ xs : List V, SqT K H a xs ∧ xs.length ≤ i
theorem turn_enumT {P : Program} {w : World} {K : PySem.W.Frag} {elts : List Expr} {kk : Nat} {tpos : Pos} (a e it : Addr) (hae : a ≠ e) (hai : a ≠ it) :
    Turn P w K (.Tuple elts kk tpos) (IteT K a) [e, it] e (fun i h => (∃ old, IsEnum h e it ((i : Nat) : Int) old) ∧ h.IsTupleIter it a i ∧ e ≠ it) where
  mem := by simp
  obj := fun i h st b hb => by
    obtain ⟨⟨old, he⟩, ⟨o, ho, hc, hd⟩, _⟩ := st
    rcases (by simpa using hb : b = e ∨ b = it) with rfl | rfl
    · exact ⟨_, he, fun v q => nomatch q⟩
    · exact ⟨o, ho, fun v q => by rw [hd] at q; cases q⟩
  keep := fun i h h' st k => by
    obtain ⟨⟨old, he⟩, hi, hne⟩ := st
    exact ⟨⟨old, k e (by simp) _ he⟩, hi.at fun o q => k it (by simp) o q, hne⟩
  item := by
    intro X hP hw hK hc i pins s σ H E I hf st hg
    subst hP hw hK
    obtain ⟨⟨old, he⟩, hit, hne⟩ := st
    obtain ⟨xs, x, hq, hx⟩ := hg
    obtain ⟨its, rv, p, hz⟩ := I.tuple hq
    obtain ⟨u, hu, ru⟩ := rv.get hx
    have hel : e < s.heap.objs.size := Heap.lt_size he
    have hil : it < s.heap.objs.size := by
      obtain ⟨_, q, _⟩ := hit
      exact Heap.lt_size q
    have hlt : i < its.toArray.size := by
      have := (List.getElem?_eq_some_iff.mp hu).1
      simpa using this
    have D : Draws X.prog X.w X.A.in1 it [it, a] its.toArray.size (fun i v => its.toArray[i]? = some v) (fun i h => h.IsTupleIter it a i ∧ h.IsTuple a its.toArray) :=
      Draws.tuple (A := X.A.in1) (show X.A.in1.handled = none from I.ok.hd hc) it a hai its.toArray
    have hef : e ∉ [it, a] := fun q => by
      rcases (by simpa using q : e = it ∨ e = a) with z | z
      · exact hne z
      · exact hae z.symm
    refine wpAny_pyNext_enum_itemD (i := i) D he ⟨hit, p⟩ hlt hne hef fun y h' tk hy ho hst hT hsz hk => ?_
    have ey : y = u := by
      have hu' : its.toArray[i]? = some u := by simpa using hu
      have hy' : its.toArray[i]? = some y := hy
      rw [hu'] at hy'
      exact (Option.some.inj hy').symm
    subst ey
    refine ⟨_, rfl, wpAny_letOwnedTupleGo_enum (s := { s with heap := h', toks := tk + 1 }) ho fun h'' he' sb => ?_⟩
    have hT2 : h''.get? s.heap.objs.size = some { cls := .type "tuple", data := .seq #[.int i tk, y] } := (sb.2 _ (Nat.ne_of_gt hel)).trans hT
    have new : ObjOk X.prog X.w (upd H s.heap.objs.size (.tup [.int (i : Nat), x])) h'' s.heap.objs.size (.tup [.int (i : Nat), x]) :=
      ⟨by show 2 ≤ sizeLine; decide, [.int i tk, y], .cons ⟨_, rfl⟩ (.cons ru .nil), ⟨_, hT2, rfl, _, rfl⟩⟩
    have I1 : Inv X pins σ (upd H s.heap.objs.size (.tup [.int (i : Nat), x])) { s with heap := h'', toks := tk + 1 } := by
      refine I.turnedNew (ch := [e, it]) (fun b ob hb q => ?_) hf (Nat.le_refl _) new
      have h1 : b ≠ e := fun z => hb (by simp [z])
      have h2 : b ≠ it := fun z => hb (by simp [z])
      exact (sb.2 b h1).trans (hk b ob h1 h2 q)
    refine ⟨.ref s.heap.objs.size, _, I1, rfl, ⟨_, x, rfl, I.hok.fresh (Nat.le_refl _), rfl, fun ys hy => by rw [I.tuple_inj hy hq]; exact hx⟩,
      ⟨⟨y, ?_⟩, hst.1.at fun o q => (sb.2 it (Ne.symm hne)).trans q, hne⟩, fun b hb => ?_⟩
    · have e1 : ((i + 1 : Nat) : Int) = (i : Int) + 1 := by omega
      rw [e1]
      exact he'
    · have hb' : b < s.heap.objs.size := by
        rcases (by simpa using hb : b = e ∨ b = it) with rfl | rfl
        · exact hel
        · exact hil
      rw [upd_ne (Nat.ne_of_lt hb')]
      exact (hf b hb).1
  done := by
    intro X hP hw hK hc i pins s σ H E I hf st hg
    subst hP hw hK
    obtain ⟨⟨old, he⟩, hit, hne⟩ := st
    obtain ⟨xs, hq, hx⟩ := hg
    obtain ⟨its, rv, p, hz⟩ := I.tuple hq
    obtain ⟨f0, f1, f2, f3, f4, f5⟩ := hf it (by simp)
    have hl := rv.length
    have D0 := Draws.tuple (prog := X.prog) (w := X.w) (A := X.A.in1) (show X.A.in1.handled = none from I.ok.hd hc) it a hai its.toArray
    have D : Draws X.prog X.w X.A.in1 it [it, a] 0 (fun _ _ => False) (fun _ h => h.IsTupleIter it a i ∧ h.IsTuple a its.toArray) :=
      { live := fun _ h st => D0.live i h st
        frame := fun _ h h' st hk => D0.frame i h h' st hk
        item := fun j s2 Q E2 hj st hQ => absurd hj (Nat.not_lt_zero _)
        done := fun s2 Q E2 st hE => wpAny_nextOf_tuple_end (show X.A.in1.handled = none from I.ok.hd hc) st.1 st.2 (by simp; omega) hE }
    exact wpAny_pyNext_enum_endD D he ⟨hit, p⟩ fun h' eb => ⟨rfl, I.turned (t' := s.toks) (fun b o hb q => eb b o hb q) f0 f1 f3 f4 f5⟩
  self := fun A i s Q E st h => by
    obtain ⟨⟨_, he⟩, _⟩ := st
    exact wpAny_pyIter_enum he h
/-- enumerate of a list or of a tuple -/
def iEnumA (K : PySem.W.Frag) (ta : TA) : TI := fun σ H R => iEnum K ta σ H R ∨ ta σ H fun vs H1 => ∃ a xs, vs = [.ref a] ∧ SqT K H1 a xs ∧ R (IteT K a) H1
theorem pi_enumT {X : Cx} {e : Expr} {ta : TA} {p pos tpos : Pos} {elts : List Expr} {kk : Nat} (hg : Gl X "enumerate") (hm : X.mg "enumerate" = none) (ha : PA X [e] ta)
    (hs : starEach [e] X.env = [(false, eval e X.env)] := by rfl) :
    PI X (.Tuple elts kk tpos) (.Call (.Name "enumerate" p) [e] [] pos) (fun σ H R => ta σ H fun vs H1 => ∃ a xs, vs = [.ref a] ∧ SqT X.K H1 a xs ∧ R (IteT X.K a) H1) := by
  refine ⟨fun pins s σ H R I h => ?_⟩
  refine Call_ (ld_blt I hg hm boot_enumerate (PyProof.Rows.callWith_type1 (thn (ha.run pos pins s σ H _ I h) fun us s1 hh => ?_) hs rfl))
  obtain ⟨vs, H1, I1, r1, a, xs, ex, hq, q⟩ := hh
  subst ex
  cases r1 with
  | cons r rr =>
    cases rr
    cases r
    obtain ⟨its, rv, p', hz⟩ := I1.tuple hq
    refine call_enumB (begins_tuple a its.toArray) p' fun h' he hit hk => wpAny_pyIter_enum he ?_
    have I2 : Inv X pins σ H1 { s1 with heap := h' } := I1.kept (t' := s1.toks) hk
    have al : a < s1.heap.objs.size := by
      obtain ⟨o, z, _⟩ := p'
      exact Heap.lt_size z
    refine ⟨s1.heap.objs.size + 1, [s1.heap.objs.size + 1, s1.heap.objs.size], _, _, H1, rfl, I2,
      turn_enumT a (s1.heap.objs.size + 1) s1.heap.objs.size (Nat.ne_of_lt (Nat.lt_succ_of_lt al)) (Nat.ne_of_lt al), ⟨⟨.none, he⟩, ⟨_, hit, rfl, rfl⟩, Nat.succ_ne_self _⟩, fun b hb => ?_, q⟩
    have hle : s1.heap.objs.size ≤ b := by
      rcases (by simpa using hb : b = s1.heap.objs.size + 1 ∨ b = s1.heap.objs.size) with z | z
      · rw [z]; exact Nat.le_succ _
      · rw [z]; exact Nat.le_refl _
    exact I1.fpOk hle (I1.hok.fresh hle)
theorem pi_enumA {X : Cx} {e : Expr} {ta : TA} {p pos tpos : Pos} {elts : List Expr} {kk : Nat} (hg : Gl X "enumerate") (hm : X.mg "enumerate" = none) (ha : PA X [e] ta)
    (hs : starEach [e] X.env = [(false, eval e X.env)] := by rfl) : PI X (.Tuple elts kk tpos) (.Call (.Name "enumerate" p) [e] [] pos) (iEnumA X.K ta) :=
  pi_or (pi_enum hg hm ha hs) (pi_enumT hg hm ha hs)
end Fk
/-! ## readings, run step by step -/
namespace Fk
open PySem PySem.Spec PyProof.Rows L2
/-- the i-th slot holds v -/
inductive GS : L2.St → Nat → V → Prop
  | z {v : V} {l : L2.St} : GS (some v :: l) 0 v
  | s {x : Option V} {v : V} {l : L2.St} {i : Nat} : GS l i v → GS (x :: l) (i + 1) v
theorem GS.get : ∀ {σ : L2.St} {i : Nat} {v : V}, GS σ i v → σ[i]? = some (some v)
  | _, _, _, .z => rfl
  | _, _, _, .s h => by simpa using h.get
/-- the i-th slot set -/
inductive NS : L2.St → Nat → V → L2.St → Prop
  | z {x : Option V} {v : V} {l : L2.St} : NS (x :: l) 0 v (some v :: l)
  | s {x : Option V} {v : V} {l l' : L2.St} {i : Nat} : NS l i v l' → NS (x :: l) (i + 1) v (x :: l')
theorem NS.eq : ∀ {σ σ' : L2.St} {i : Nat} {v : V}, NS σ i v σ' → σ.set i (some v) = σ'
  | _, _, _, _, .z => rfl
  | _, _, _, _, .s h => congrArg _ h.eq
section
variable {K : PySem.W.Frag} {D : Ends} {σ σ' σ'' : L2.St} {H H1 H2 : Hp} {Q : VK} {QB : Bool → Hp → Prop} {QA : List V → Hp → Prop} {E : XK} {i j k : Nat} {v u x : V} {vs : List V}
  {t tu tw : TS} {te ta tb tc : TE} {tt ttu : TT} {tA : TA} {g : TG} {r : R2} {a p : Addr} {xs ys : List V}
theorem r_seq (h : t { D with nx := tu D } σ H) : tSeq t tu D σ H := h
theorem r_next (h : D.nx σ H) : tNext D σ H := h
theorem r_brk (h : D.bk σ H) : tBreak D σ H := h
theorem r_cont (h : D.ct σ H) : tCont D σ H := h
theorem r_nx {f : L2.St → Hp → Prop} {rt : VK} {b c : L2.St → Hp → Prop} (h : f σ H) : Ends.nx ⟨f, rt, b, c⟩ σ H := h
theorem r_rt {f : L2.St → Hp → Prop} {rt : VK} {b c : L2.St → Hp → Prop} (h : rt v H) : Ends.rt ⟨f, rt, b, c⟩ v H := h
theorem r_bk {f : L2.St → Hp → Prop} {rt : VK} {b c : L2.St → Hp → Prop} (h : b σ H) : Ends.bk ⟨f, rt, b, c⟩ σ H := h
theorem r_ct {f : L2.St → Hp → Prop} {rt : VK} {b c : L2.St → Hp → Prop} (h : c σ H) : Ends.ct ⟨f, rt, b, c⟩ σ H := h
theorem r_asg (h : te σ H fun x H1 => g x σ H1 D.nx) : tAsg te g D σ H := h
theorem r_drop (h : te σ H fun _ H1 => D.nx σ H1) : tDrop te D σ H := h
theorem r_ret (h : te σ H D.rt) : tRet te D σ H := h
theorem r_retN (h : D.rt .non H) : tRetN D σ H := h
theorem r_gn {QG : L2.St → Hp → Prop} (n : NS σ i v σ') (h : QG σ' H) : gName i v σ H QG := by
  show QG (σ.set i (some v)) H
  rw [n.eq]
  exact h
theorem r_par (n1 : NS σ i v σ') (n2 : NS σ' j u σ'') (h : D.nx σ'' H) : ∃ v' w', [v, u] = [v', w'] ∧ D.nx ((σ.set i (some v')).set j (some w')) H := by
  refine ⟨v, u, rfl, ?_⟩
  rw [n1.eq, n2.eq]
  exact h
theorem r_parS (h : tA σ H fun vs H1 => ∃ v w, vs = [v, w] ∧ D.nx ((σ.set i (some v)).set j (some w)) H1) : tPar i j tA D σ H := h
theorem r_par3S {l : Nat} (h : tA σ H fun vs H1 => ∃ v w z, vs = [v, w, z] ∧ D.nx (((σ.set i (some v)).set j (some w)).set l (some z)) H1) : tPar3 i j l tA D σ H := h
theorem r_par3 {l : Nat} {y : V} {σ3 : L2.St} (n1 : NS σ i v σ') (n2 : NS σ' j u σ'') (n3 : NS σ'' l y σ3) (h : D.nx σ3 H) : ∃ v' w' z', [v, u, y] = [v', w', z'] ∧ D.nx (((σ.set i (some v')).set j (some w')).set l (some z')) H := by
  refine ⟨v, u, y, rfl, ?_⟩
  rw [n1.eq, n2.eq, n3.eq]
  exact h
theorem r_var (n : GS σ i v) (h : Q v H) : tVar i σ H Q := ⟨v, n.get, h⟩
theorem r_c (h : Q v H) : tC v σ H Q := h
theorem r_op (h : ta σ H fun x H1 => tb σ H1 fun y H2 => r x y H2 Q) : tOp r ta tb σ H Q := h
theorem r_nil (h : QA [] H) : tNil σ H QA := h
theorem r_cons (h : te σ H fun x H1 => tA σ H1 fun xs H2 => QA (x :: xs) H2) : tCons te tA σ H QA := h
theorem r_cb {rr : List V → Hp → VK → Prop} (h : tA σ H fun vs H1 => rr vs H1 Q) : tCB rr tA σ H Q := h
theorem r_call {sp : Sp} (h : tA σ H fun vs H1 => sp vs H1 Q E) : tCall sp [] E tA σ H Q := by
  have e : (fun vs H1 => sp (vs ++ []) H1 Q E) = fun vs H1 => sp vs H1 Q E := by
    funext vs H1
    rw [List.append_nil]
  show tA σ H fun vs H1 => sp (vs ++ []) H1 Q E
  rw [e]
  exact h
theorem r_callD {sp : Sp} {dvs : List V} (h : tA σ H fun vs H1 => sp (vs ++ dvs) H1 Q E) : tCall sp dvs E tA σ H Q := h
theorem r_tup (h : tA σ H fun xs H1 => xs.length ≤ sizeLine ∧ ∀ p, H1 p = none → Q (.ref p) (upd H1 p (.tup xs))) : tTup tA σ H Q := h
theorem r_lst (h : tA σ H fun xs H1 => xs.length ≤ sizeLine ∧ ∀ p, H1 p = none → Q (.ref p) (upd H1 p (.lst xs))) : tLst tA σ H Q := h
theorem r_new {P : Addr → Prop} (hz : xs.length ≤ 100000) (h : ∀ p, H p = none → P p) : xs.length ≤ sizeLine ∧ ∀ p, H p = none → P p := ⟨Nat.le_trans hz (by decide), h⟩
theorem r_if (h : tt σ H fun b H1 => if b = true then tu D σ H1 else tw D σ H1) : tIfS tt tu tw D σ H := h
theorem r_ife (h : tt σ H fun c H1 => if c = true then ta σ H1 Q else tb σ H1 Q) : tIf tt ta tb σ H Q := h
theorem r_test (h : te σ H fun x H' => ∃ k, x = .bl k ∧ QB k H') : tTest te σ H QB := h
theorem r_tB (h : te σ H fun x H1 => ∃ c, x = .bl c ∧ QB c H1) : tB te σ H QB := h
theorem r_bl {b : Bool} {P : Bool → Prop} (h : P b) : ∃ k, V.bl b = .bl k ∧ P k := ⟨b, rfl, h⟩
theorem r_not (h : tt σ H fun c H1 => QB (!c) H1) : tNot tt σ H QB := h
theorem r_and (h : tt σ H fun c H1 => if c = true then ttu σ H1 QB else QB false H1) : tAnd tt ttu σ H QB := h
theorem r_or (h : tt σ H fun c H1 => if c = true then QB true H1 else ttu σ H1 QB) : tOr tt ttu σ H QB := h
theorem r_andV (h : ta σ H fun x H1 => ∃ c, x = .bl c ∧ if c = true then tb σ H1 Q else Q (.bl false) H1) : tAndV ta tb σ H Q := h
theorem r_orV (h : ta σ H fun x H1 => ∃ c, x = .bl c ∧ if c = true then Q (.bl true) H1 else tb σ H1 Q) : tOrV ta tb σ H Q := h
theorem r_notV (h : ta σ H fun x H1 => ∃ c, x = .bl c ∧ Q (.bl (!c)) H1) : tNotV ta σ H Q := h
theorem r_chain {r' : R2} (h : ta σ H fun x H1 => tb σ H1 fun y H2 => r x y H2 fun z H3 => ∃ k, z = .bl k ∧ (if k = true then tc σ H3 fun w' H4 => r' y w' H4 Q else Q (.bl false) H3)) : tChain r r' ta tb tc σ H Q := h
theorem r_aug {ti : TIp} (n : GS σ i v) (h : te σ H fun y H1 => ti v y H1 fun z H2 => D.nx (σ.set i (some z)) H2) : tAug i te ti D σ H := ⟨v, n.get, h⟩
theorem r_ipI {f : Int → Int → Int} {m n : Int} {P : V → Hp → Prop} (h : P (.int (f m n)) H) : ipI f (.int m) (.int n) H P := ⟨m, n, rfl, rfl, h⟩
theorem r_set {P : L2.St → Prop} (n : NS σ i v σ') (h : P σ') : P (σ.set i (some v)) := by rw [n.eq]; exact h
theorem r_setNx (n : NS σ i v σ') (h : D.nx σ' H) : D.nx (σ.set i (some v)) H := by rw [n.eq]; exact h
theorem r_ite {b : Bool} {A B : Prop} (h1 : b = true → A) (h2 : b = false → B) : if b = true then A else B := by
  cases b with
  | true => rw [if_pos rfl]; exact h1 rfl
  | false => rw [if_neg Bool.false_ne_true]; exact h2 rfl
theorem r_iteD {P : Prop} [Decidable P] {A B : Prop} (h1 : P → A) (h2 : ¬ P → B) : if decide P = true then A else B := r_ite (fun h => h1 (of_decide_eq_true h)) fun h => h2 (of_decide_eq_false h)
theorem r_iteN {P : Prop} [Decidable P] {A B : Prop} (h1 : ¬ P → A) (h2 : P → B) : if (!decide P) = true then A else B := r_ite (fun h => h1 (by simpa using h)) fun h => h2 (by simpa using h)
theorem r_iteNB {b : Bool} {A B : Prop} (h1 : b = false → A) (h2 : b = true → B) : if (!b) = true then A else B := by
  cases b
  · exact r_ite (fun _ => h1 rfl) fun h => nomatch h
  · exact r_ite (fun h => nomatch h) fun _ => h2 rfl
theorem r_T {A B : Prop} (h : A) : if true = true then A else B := by rw [if_pos rfl]; exact h
theorem r_F {A B : Prop} (h : B) : if false = true then A else B := by rw [if_neg Bool.false_ne_true]; exact h
/-! operators -/
variable {m n : Int}
theorem r_add (h : Q (.int (m + n)) H) : uAdd K (.int m) (.int n) H Q := .inl ⟨m, n, rfl, rfl, h⟩
theorem r_sub (h : Q (.int (m - n)) H) : uSub (.int m) (.int n) H Q := ⟨m, n, rfl, rfl, h⟩
theorem r_mul (c : CMul m n) (h : Q (.int (m * n)) H) : uMul K (.int m) (.int n) H Q := .inl ⟨m, n, rfl, rfl, c, h⟩
theorem r_fdv (c : 0 < n ∧ n < 1073741824) (h : Q (.int (m / n)) H) : uFdv (.int m) (.int n) H Q := .inl ⟨m, n, rfl, rfl, c, h⟩
theorem r_fdvW (c : CDivW m n) (h : Q (.int (m / n)) H) : uFdv (.int m) (.int n) H Q := .inr ⟨m, n, rfl, rfl, c, h⟩
theorem r_mod (c : 0 < n) (h : Q (.int (m % n)) H) : uMod (.int m) (.int n) H Q := ⟨m, n, rfl, rfl, c, h⟩
theorem r_pow (c : CPow m n) (h : Q (.int (m ^ n.toNat)) H) : uPow (.int m) (.int n) H Q := ⟨m, n, rfl, rfl, c, h⟩
theorem r_shl (c : CPow m n) (h : Q (.int (m * 2 ^ n.toNat)) H) : uShl (.int m) (.int n) H Q := ⟨m, n, rfl, rfl, c, h⟩
theorem r_shr (c : 0 ≤ n) (h : Q (.int (m / 2 ^ n.toNat)) H) : uShr (.int m) (.int n) H Q := ⟨m, n, rfl, rfl, c, h⟩
theorem r_band (h : Q (.int (Builtin.bitAnd m n)) H) : uAnd (.int m) (.int n) H Q := ⟨m, n, rfl, rfl, h⟩
theorem r_bxor (h : Q (.int (Builtin.bitXor m n)) H) : uXor (.int m) (.int n) H Q := ⟨m, n, rfl, rfl, h⟩
theorem r_lt (h : Q (.bl (decide (m < n))) H) : uLt (.int m) (.int n) H Q := ⟨m, n, rfl, rfl, h⟩
theorem r_le (h : Q (.bl (decide (m ≤ n))) H) : uLe (.int m) (.int n) H Q := ⟨m, n, rfl, rfl, h⟩
theorem r_gt (h : Q (.bl (decide (n < m))) H) : uGt (.int m) (.int n) H Q := ⟨m, n, rfl, rfl, h⟩
theorem r_ge (h : Q (.bl (decide (n ≤ m))) H) : uGe (.int m) (.int n) H Q := ⟨m, n, rfl, rfl, h⟩
theorem r_eqI (h : Q (.bl (decide (m = n))) H) : uEq K (.int m) (.int n) H Q := by
  refine .inl ⟨rfl, ?_⟩
  have e : decide ((V.int m) = V.int n) = decide (m = n) := by
    by_cases q : m = n
    · subst q; simp
    · rw [decide_eq_false q, decide_eq_false (fun z => q (V.int.inj z))]
  show Q (.bl (decide ((V.int m) = V.int n))) H
  rw [e]
  exact h
theorem r_neI (h : Q (.bl (!decide (m = n))) H) : uNe K (.int m) (.int n) H Q := by
  refine .inl ⟨rfl, ?_⟩
  have e : decide ((V.int m) = V.int n) = decide (m = n) := by
    by_cases q : m = n
    · subst q; simp
    · rw [decide_eq_false q, decide_eq_false (fun z => q (V.int.inj z))]
  show Q (.bl (!decide ((V.int m) = V.int n))) H
  rw [e]
  exact h
theorem r_eqD {d e : PyData} (hd : Dp K H v d) (he : Dp K H u e) (sd : SeqAt.shaped d = true) (se : SeqAt.shaped e = true) (h : Q (.bl (PyData.eqv d e)) H) : uEq K v u H Q := .inr ⟨d, e, hd, he, sd, se, h⟩
theorem r_neD {d e : PyData} (hd : Dp K H v d) (he : Dp K H u e) (sd : SeqAt.shaped d = true) (se : SeqAt.shaped e = true) (h : Q (.bl (!PyData.eqv d e)) H) : uNe K v u H Q := .inr ⟨d, e, hd, he, sd, se, h⟩
theorem r_int (h : Q (.int m) H) : uInt [.int m] H Q := .inl ⟨m, rfl, h⟩
theorem r_intB {b : Bool} (h : Q (.int (if b then 1 else 0)) H) : uInt [.bl b] H Q := .inr ⟨b, rfl, h⟩
theorem r_max2 (h : Q (.int (if n > m then n else m)) H) : uMax2 [.int m, .int n] H Q := ⟨m, n, rfl, h⟩
theorem r_min2 (h : Q (.int (if n < m then n else m)) H) : uMin2 [.int m, .int n] H Q := ⟨m, n, rfl, h⟩
theorem r_lenL (hs : SqL K H a xs) (h : Q (.int xs.length) H) : rLen K [.ref a] H Q := ⟨_, _, rfl, .inl ⟨_, hs, rfl⟩, h⟩
theorem r_lenT (hs : SqT K H a xs) (h : Q (.int xs.length) H) : rLen K [.ref a] H Q := ⟨_, _, rfl, .inr ⟨_, hs, rfl⟩, h⟩
theorem r_ixL (hs : SqL K H a xs) (hi : atI xs m = some v) (h : Q v H) : rIx K (.ref a) (.int m) H Q := .inl ⟨a, xs, m, v, rfl, rfl, hs, hi, h⟩
theorem r_ixT (hs : SqT K H a xs) (hi : atI xs m = some v) (h : Q v H) : rIx K (.ref a) (.int m) H Q := .inr (.inl ⟨a, xs, m, v, rfl, rfl, hs, hi, h⟩)
theorem r_gSub {ts : TSet} {QG : L2.St → Hp → Prop} (h : ta σ H fun o H1 => tb σ H1 fun i H2 => ts o i v H2 fun H3 => QG σ H3) : gSub ta tb ts v σ H QG := h
theorem r_setL {P : Hp → Prop} (hs : H a = some (.lst xs)) (hi : ixN xs.length m = some j) (h : P (upd H a (.lst (xs.set j v)))) : rSetL (.ref a) (.int m) v H P := ⟨a, xs, m, j, rfl, rfl, hs, hi, h⟩
theorem r_gTup {n : Nat} {ts : TGs} {QG : L2.St → Hp → Prop} (hs : SqT K H a xs) (hl : xs.length = n) (h : ts xs σ H QG) : gTup K n ts (.ref a) σ H QG := ⟨a, xs, rfl, hs, hl, h⟩
theorem r_gCons {tg : TG} {ts : TGs} {QG : L2.St → Hp → Prop} (h : tg v σ H fun s1 H1 => ts vs s1 H1 QG) : gCons tg ts (v :: vs) σ H QG := ⟨v, vs, rfl, h⟩
theorem r_gNil {QG : L2.St → Hp → Prop} (h : QG σ H) : gNil [] σ H QG := ⟨rfl, h⟩
theorem r_app {y : V} (hs : H a = some (.lst xs)) (hz : xs.length < 100000) (h : Q .non (upd H a (.lst (xs ++ [y])))) : rAppend (.ref a) [y] H Q := ⟨a, xs, y, rfl, rfl, hs, Nat.lt_of_lt_of_le hz (by decide), h⟩
theorem r_bm {T : String} {rr : V → List V → Hp → VK → Prop} (h : te σ H fun x H1 => tyV K T x H1 ∧ tA σ H1 fun xs H2 => rr x xs H2 Q) : tBM K T rr te tA σ H Q := h
theorem ty_list (hs : H a = some (.lst xs)) : tyV K "list" (.ref a) H := .inl ⟨rfl, _, Or.inl (Or.inl hs)⟩
/-! isinstance -/
theorem r_isi {c : V} {tv cv : Value} {b : Bool} (hc : ClsV c cv) (ht : TyX K H v tv) (hk : PySem.W.kitOne K tv cv = some b) (h : Q (.bl b) H) : rIsi K [v, c] H Q := ⟨v, c, tv, cv, b, rfl, hc, ht, hk, h⟩
end
/-! ### loops by what is left -/
section
variable {K : PySem.W.Frag} {D : Ends} {σ : L2.St} {H : Hp} {g : TG} {tb : TS} {a : Addr} {xs : List V} {wi : TI}
theorem r_for (h : wi σ H fun J H1 => ∃ W : Nat → Nat → L2.St → Hp → Prop, (∃ m, W 0 m σ H1) ∧ ∀ i m σ H, W i m σ H →
      (J.stop i H ∧ D.nx σ H) ∨ (J.go i H ∧ ∃ N : L2.St → Hp → Prop, (∀ σ' H', N σ' H' → ∃ m', m' < m ∧ W (i + 1) m' σ' H') ∧ ∀ x H', J.yld i H x H' → g x σ H' fun σ2 H2 => tb { D with nx := N, ct := N, bk := D.nx } σ2 H2)) :
    tFor wi g tb D σ H := h
theorem f_tup (hx : SqT K H a xs) (Pv : List V → L2.St → Hp → Prop) (h0 : Pv xs σ H) (keep : ∀ r σ H, Pv r σ H → SqT K H a xs)
    (step : ∀ x r σ H, Pv (x :: r) σ H → g x σ H fun σ2 H2 => tb { D with nx := Pv r, ct := Pv r, bk := D.nx } σ2 H2) (done : ∀ σ H, Pv [] σ H → D.nx σ H) :
    ∃ a', V.ref a = .ref a' ∧ (∃ xs, SqT K H a' xs) ∧ ∃ W : Nat → Nat → L2.St → Hp → Prop, (∃ m, W 0 m σ H) ∧ ∀ i m σ H, W i m σ H →
      ((Itt K a').stop i H ∧ D.nx σ H) ∨ ((Itt K a').go i H ∧ ∃ N : L2.St → Hp → Prop, (∀ σ' H', N σ' H' → ∃ m', m' < m ∧ W (i + 1) m' σ' H') ∧ ∀ x H', (Itt K a').yld i H x H' → g x σ H' fun σ2 H2 => tb { D with nx := N, ct := N, bk := D.nx } σ2 H2) := by
  refine ⟨a, rfl, ⟨_, hx⟩, for_tup (xs := xs) (fun i σ H => Pv (xs.drop i) σ H) (by simpa using h0) (fun i σ H _ p => keep _ _ _ p) (fun i x σ H hi p => ?_) (fun σ H p => done σ H (by simpa using p))⟩
  have e : xs.drop i = x :: xs.drop (i + 1) := by
    obtain ⟨hl, e⟩ := List.getElem?_eq_some_iff.mp hi
    rw [← e, List.drop_eq_getElem_cons hl]
  have p' : Pv (xs.drop i) σ H := p
  rw [e] at p'
  exact step x _ σ H p'
theorem f_lst (hx : SqL K H a xs) (Pv : List V → L2.St → Hp → Prop) (h0 : Pv xs σ H) (keep : ∀ r σ H, Pv r σ H → SqL K H a xs)
    (step : ∀ x r σ H, Pv (x :: r) σ H → g x σ H fun σ2 H2 => tb { D with nx := Pv r, ct := Pv r, bk := D.nx } σ2 H2) (done : ∀ σ H, Pv [] σ H → D.nx σ H) :
    ∃ a', V.ref a = .ref a' ∧ (∃ xs, SqL K H a' xs) ∧ ∃ W : Nat → Nat → L2.St → Hp → Prop, (∃ m, W 0 m σ H) ∧ ∀ i m σ H, W i m σ H →
      ((Itl K a').stop i H ∧ D.nx σ H) ∨ ((Itl K a').go i H ∧ ∃ N : L2.St → Hp → Prop, (∀ σ' H', N σ' H' → ∃ m', m' < m ∧ W (i + 1) m' σ' H') ∧ ∀ x H', (Itl K a').yld i H x H' → g x σ H' fun σ2 H2 => tb { D with nx := N, ct := N, bk := D.nx } σ2 H2) := by
  refine ⟨a, rfl, ⟨_, hx⟩, for_list (xs := xs) (fun i σ H => Pv (xs.drop i) σ H) (by simpa using h0) (fun i σ H _ p => keep _ _ _ p) (fun i x σ H hi p => ?_) (fun σ H p => done σ H (by simpa using p))⟩
  have e : xs.drop i = x :: xs.drop (i + 1) := by
    obtain ⟨hl, e⟩ := List.getElem?_eq_some_iff.mp hi
    rw [← e, List.drop_eq_getElem_cons hl]
  have p' : Pv (xs.drop i) σ H := p
  rw [e] at p'
  exact step x _ σ H p'
/-- range(n): what is left is counted by i -/
theorem f_rng {n : Int} (hn : -(2 ^ 62) ≤ n ∧ n < 2 ^ 62) (Pv : Nat → L2.St → Hp → Prop) (h0 : Pv 0 σ H)
    (step : ∀ (i : Nat) σ H, (i : Int) < n → Pv i σ H → g (.int (i : Int)) σ H fun σ2 H2 => tb { D with nx := Pv (i + 1), ct := Pv (i + 1), bk := D.nx } σ2 H2) (done : ∀ σ H, Pv n.toNat σ H → D.nx σ H) :
    ∃ j : Int, [V.int n] = [.int j] ∧ -(2 ^ 62) ≤ j ∧ j < 2 ^ 62 ∧ ∃ W : Nat → Nat → L2.St → Hp → Prop, (∃ m, W 0 m σ H) ∧ ∀ i m σ H, W i m σ H →
      ((Itr 0 j.toNat).stop i H ∧ D.nx σ H) ∨ ((Itr 0 j.toNat).go i H ∧ ∃ N : L2.St → Hp → Prop, (∀ σ' H', N σ' H' → ∃ m', m' < m ∧ W (i + 1) m' σ' H') ∧ ∀ x H', (Itr 0 j.toNat).yld i H x H' → g x σ H' fun σ2 H2 => tb { D with nx := N, ct := N, bk := D.nx } σ2 H2) := by
  refine ⟨n, rfl, hn.1, hn.2, for_range (lo := 0) (n := n.toNat) Pv h0 (fun i σ H hi p => ?_) done⟩
  have := step i σ H (by omega) p
  rw [Int.zero_add]
  exact this
theorem r_iTup {te : TE} {R : It → Hp → Prop} (h : te σ H fun x H1 => ∃ a, x = .ref a ∧ (∃ xs, SqT K H1 a xs) ∧ R (Itt K a) H1) : iTup K te σ H R := h
theorem r_iList {te : TE} {R : It → Hp → Prop} (h : te σ H fun x H1 => ∃ a, x = .ref a ∧ (∃ xs, SqL K H1 a xs) ∧ R (Itl K a) H1) : iList K te σ H R := h
theorem r_iterL {te : TE} {R : It → Hp → Prop} (h : te σ H fun x H1 => ∃ a, x = .ref a ∧ (∃ xs, SqL K H1 a xs) ∧ R (Itl K a) H1) : uIter K te σ H R := .inl h
theorem r_iterT {te : TE} {R : It → Hp → Prop} (h : te σ H fun x H1 => ∃ a, x = .ref a ∧ (∃ xs, SqT K H1 a xs) ∧ R (Itt K a) H1) : uIter K te σ H R := .inr h
theorem r_iRng {tA : TA} {R : It → Hp → Prop} (h : tA σ H fun vs H1 => ∃ j : Int, vs = [.int j] ∧ -(2 ^ 62) ≤ j ∧ j < 2 ^ 62 ∧ R (Itr 0 j.toNat) H1) : iRng1 tA σ H R := h
theorem r_while {c : TT} (W : Nat → L2.St → Hp → Prop) (m0 : Nat) (h0 : W m0 σ H) (step : ∀ m σ H, W m σ H → c σ H fun b H1 => if b = true then ∃ N : L2.St → Hp → Prop, (∀ σ' H', N σ' H' → ∃ m', m' < m ∧ W m' σ' H') ∧ tb { D with nx := N, ct := N, bk := D.nx } σ H1 else D.nx σ H1) :
    tWhile c tb D σ H := ⟨W, ⟨m0, h0⟩, step⟩
theorem r_body {W : Nat → L2.St → Hp → Prop} {m : Nat} (h : tb { D with nx := fun σ' H' => ∃ m', m' < m ∧ W m' σ' H', ct := fun σ' H' => ∃ m', m' < m ∧ W m' σ' H', bk := D.nx } σ H) :
    ∃ N : L2.St → Hp → Prop, (∀ σ' H', N σ' H' → ∃ m', m' < m ∧ W m' σ' H') ∧ tb { D with nx := N, ct := N, bk := D.nx } σ H := ⟨_, fun _ _ h => h, h⟩
end
/-! ### whole numbers from nought on -/
theorem bitAnd_nat (a b : Nat) : Builtin.bitAnd (a : Int) (b : Int) = ((a &&& b : Nat) : Int) := by
  unfold Builtin.bitAnd
  rw [decide_eq_true (Int.natCast_nonneg a), decide_eq_true (Int.natCast_nonneg b)]
  rfl
theorem bitOr_nat (a b : Nat) : Builtin.bitOr (a : Int) (b : Int) = ((a ||| b : Nat) : Int) := by
  unfold Builtin.bitOr Builtin.bitAnd Builtin.bitNot
  have h1 : ¬ (0 : Int) ≤ -(a : Int) - 1 := by omega
  have h2 : ¬ (0 : Int) ≤ -(b : Int) - 1 := by omega
  rw [decide_eq_false h1, decide_eq_false h2]
  have e1 : (-(-(a : Int) - 1) - 1).toNat = a := by omega
  have e2 : (-(-(b : Int) - 1) - 1).toNat = b := by omega
  simp only [e1, e2]
  omega
theorem or_xor_and' (x y : Nat) : x ||| y = (x ^^^ y) + (x &&& y) := by
  induction x using Nat.strongRecOn generalizing y with
  | ind x ih =>
    by_cases hx : x = 0
    · subst hx; simp
    · have i := ih (x / 2) (by omega) (y / 2)
      have h1 := @Nat.or_div_two x y
      have h2 := @Nat.xor_div_two x y
      have h3 := @Nat.and_div_two x y
      have m1 := @Nat.or_mod_two_eq_one x y
      have m2 := @Nat.xor_mod_two_eq_one x y
      have m3 := @Nat.and_mod_two_eq_one x y
      omega
theorem bitXor_nat (a b : Nat) : Builtin.bitXor (a : Int) (b : Int) = ((a ^^^ b : Nat) : Int) := by
  unfold Builtin.bitXor
  rw [bitAnd_nat, bitOr_nat, or_xor_and']
  omega
theorem two_pow_int (k : Nat) : (2 : Int) ^ k = ((2 ^ k : Nat) : Int) := by
  induction k with
  | zero => rfl
  | succ k ih => rw [Int.pow_succ, ih, Nat.pow_succ]; rfl
section
variable {K : PySem.W.Frag} {H : Hp} {Q : VK} {a b : Nat}
theorem n_add (h : Q (.int ((a + b : Nat) : Int)) H) : uAdd K (.int (a : Int)) (.int (b : Int)) H Q := r_add (by rw [← Int.natCast_add]; exact h)
theorem n_add1 (h : Q (.int ((a + 1 : Nat) : Int)) H) : uAdd K (.int (a : Int)) (.int 1) H Q := r_add h
theorem n_sub1 (h1 : 1 ≤ a) (h : Q (.int ((a - 1 : Nat) : Int)) H) : uSub (.int (a : Int)) (.int 1) H Q := r_sub (by
  have e : (a : Int) - 1 = ((a - 1 : Nat) : Int) := by omega
  rw [e]; exact h)
theorem n_sub (h1 : b ≤ a) (h : Q (.int ((a - b : Nat) : Int)) H) : uSub (.int (a : Int)) (.int (b : Int)) H Q := r_sub (by
  have e : (a : Int) - b = ((a - b : Nat) : Int) := by omega
  rw [e]; exact h)
theorem n_shl (hb : b ≤ 1000000) (ha : a < 2 ^ 64) (h : Q (.int ((a * 2 ^ b : Nat) : Int)) H) : uShl (.int (a : Int)) (.int (b : Int)) H Q := by
  refine r_shl ⟨by omega, by omega, by simpa using ha⟩ ?_
  have e : (a : Int) * 2 ^ (b : Int).toNat = ((a * 2 ^ b : Nat) : Int) := by
    rw [Int.toNat_natCast, two_pow_int, Int.natCast_mul]
  rw [e]; exact h
theorem n_shl1 (hb : b ≤ 1000000) (h : Q (.int ((2 ^ b : Nat) : Int)) H) : uShl (.int 1) (.int (b : Int)) H Q := by
  have q : uShl (.int ((1 : Nat) : Int)) (.int (b : Int)) H Q := n_shl hb (by decide) (by rw [Nat.one_mul]; exact h)
  exact q
theorem n_shr (h : Q (.int ((a / 2 ^ b : Nat) : Int)) H) : uShr (.int (a : Int)) (.int (b : Int)) H Q := by
  refine r_shr (by omega) ?_
  have e : (a : Int) / 2 ^ (b : Int).toNat = ((a / 2 ^ b : Nat) : Int) := by
    rw [Int.toNat_natCast, two_pow_int]; rfl
  rw [e]; exact h
theorem n_shr1 (h : Q (.int ((a / 2 : Nat) : Int)) H) : uShr (.int (a : Int)) (.int 1) H Q := by
  have q : uShr (.int (a : Int)) (.int ((1 : Nat) : Int)) H Q := n_shr (by rw [Nat.pow_one]; exact h)
  exact q
theorem n_mod (hb : 0 < b) (h : Q (.int ((a % b : Nat) : Int)) H) : uMod (.int (a : Int)) (.int (b : Int)) H Q := r_mod (by omega) (by rw [← Int.natCast_emod]; exact h)
theorem n_mod2 (h : Q (.int ((a % 2 : Nat) : Int)) H) : uMod (.int (a : Int)) (.int 2) H Q := by
  have q : uMod (.int (a : Int)) (.int ((2 : Nat) : Int)) H Q := n_mod (by decide) h
  exact q
theorem n_and (h : Q (.int ((a &&& b : Nat) : Int)) H) : uAnd (.int (a : Int)) (.int (b : Int)) H Q := r_band (by rw [bitAnd_nat]; exact h)
theorem n_and1 (h : Q (.int ((a % 2 : Nat) : Int)) H) : uAnd (.int (a : Int)) (.int 1) H Q := by
  have q : uAnd (.int (a : Int)) (.int ((1 : Nat) : Int)) H Q := n_and (by rw [Nat.and_one_is_mod]; exact h)
  exact q
theorem n_xor (h : Q (.int ((a ^^^ b : Nat) : Int)) H) : uXor (.int (a : Int)) (.int (b : Int)) H Q := r_bxor (by rw [bitXor_nat]; exact h)
theorem n_aug {P : V → Hp → Prop} (h : P (.int ((a + b : Nat) : Int)) H) : ipI (fun i j => i + j) (.int (a : Int)) (.int (b : Int)) H P := r_ipI (by
  show P (.int ((a : Int) + (b : Int))) H
  rw [← Int.natCast_add]; exact h)
theorem n_aug1 {P : V → Hp → Prop} (h : P (.int ((a + 1 : Nat) : Int)) H) : ipI (fun i j => i + j) (.int (a : Int)) (.int 1) H P := r_ipI h
end
/-! ### heaps that grow -/
abbrev Ex := Evl.Ex
theorem Ex.up {H H1 : Hp} {p : Addr} {o : HO} (e : Ex H H1) (h : H1 p = none) : Ex H (upd H1 p o) := Evl.Ex.trans e (Evl.Ex.new h)
theorem Ex.trans {H H1 H2 : Hp} (a : Ex H H1) (b : Ex H1 H2) : Ex H H2 := Evl.Ex.trans a b
theorem Ex.rf {H : Hp} : Ex H H := Evl.Ex.refl H
theorem Ex.up2 {H H1 : Hp} {p : Addr} {o : HO} (e : Ex H H1) (h : H p = none) : Ex H (upd H1 p o) := Evl.Ex.mut e h
theorem fresh {H H1 : Hp} {p : Addr} (e : Ex H H1) (h : H1 p = none) : H p = none := Evl.fresh_back e h
/-- tuples stay -/
def Tx (H H' : Hp) : Prop := ∀ t xs, H t = some (.tup xs) → H' t = some (.tup xs)
theorem Tx.rf {H : Hp} : Tx H H := fun _ _ h => h
theorem Tx.trans {H H1 H2 : Hp} (a : Tx H H1) (b : Tx H1 H2) : Tx H H2 := fun t xs h => b t xs (a t xs h)
theorem Ex.tx {H H1 : Hp} (e : Ex H H1) : Tx H H1 := fun t xs h => e t _ h
theorem Tx.new {H H1 : Hp} {p : Addr} {o : HO} (e : Tx H H1) (h : H1 p = none) : Tx H (upd H1 p o) := fun t xs q => by
  have z := e t xs q
  rw [upd_ne (fun w => by rw [w, h] at z; cases z)]
  exact z
theorem Tx.lst {H H1 : Hp} {p : Addr} {o : HO} {ys : List V} (e : Tx H H1) (h : H1 p = some (.lst ys)) : Tx H (upd H1 p o) := fun t xs q => by
  have z := e t xs q
  rw [upd_ne (fun w => by rw [w, h] at z; cases z)]
  exact z
/-! ### comprehensions -/
section
variable {K : PySem.W.Frag} {a : Addr} {xs : List V} {g : TG} {tt : TT} {te : TE} {vs : List Nat} {σ : L2.St} {H H1 : Hp} {D : Addr} {Qd : Hp → Prop}
theorem r_lc {wi : TI} {Q : VK} (h : wi σ H fun J H1 => ∀ D, H1 D = none → ∃ W : Nat → Nat → Hp → Prop, (∃ m, W 0 m (upd H1 D (.lst []))) ∧ ∀ i m H, W i m H →
      (J.stop i H ∧ Q (.ref D) H) ∨ (J.go i H ∧ ∃ Nx : Hp → Prop, (∀ H', Nx H' → ∃ m', m' < m ∧ W (i + 1) m' H') ∧ ∀ x H', J.yld i H x H' → g x (wipe σ vs) H' fun σ2 H2 => wipe σ2 vs = wipe σ vs ∧ tt σ2 H2 fun b H3 =>
        if b = true then te σ2 H3 fun y H4 => ∃ acc, H4 D = some (.lst acc) ∧ acc.length < sizeLine ∧ Nx (upd H4 D (.lst (acc ++ [y]))) else Nx H3)) : tLc wi g tt te vs σ H Q := h
theorem lc_enumT (σ0 : L2.St) (hw : wipe σ vs = σ0) (Pv : Nat → Hp → Prop) (h0 : Pv 0 (upd H1 D (.lst []))) (hl : ∀ i H, i ≤ xs.length → Pv i H → SqT K H a xs)
    (hs : ∀ i x T H, xs[i]? = some x → Pv i H → H T = none → g (.ref T) σ0 (upd H T (.tup [.int (i : Nat), x])) fun σ2 H2 => wipe σ2 vs = σ0 ∧ tt σ2 H2 fun b H3 =>
      if b = true then te σ2 H3 fun y H4 => ∃ acc, H4 D = some (.lst acc) ∧ acc.length < sizeLine ∧ Pv (i + 1) (upd H4 D (.lst (acc ++ [y]))) else Pv (i + 1) H3) (hd : ∀ H, Pv xs.length H → Qd H) :
    ∃ W : Nat → Nat → Hp → Prop, (∃ m, W 0 m (upd H1 D (.lst []))) ∧ ∀ i m H, W i m H →
      ((IteT K a).stop i H ∧ Qd H) ∨ ((IteT K a).go i H ∧ ∃ Nx : Hp → Prop, (∀ H', Nx H' → ∃ m', m' < m ∧ W (i + 1) m' H') ∧ ∀ x H', (IteT K a).yld i H x H' → g x (wipe σ vs) H' fun σ2 H2 => wipe σ2 vs = wipe σ vs ∧ tt σ2 H2 fun b H3 =>
        if b = true then te σ2 H3 fun y H4 => ∃ acc, H4 D = some (.lst acc) ∧ acc.length < sizeLine ∧ Nx (upd H4 D (.lst (acc ++ [y]))) else Nx H3) := by
  rw [hw]
  refine ⟨fun i m H => m = xs.length - i ∧ i ≤ xs.length ∧ Pv i H, ⟨xs.length, by simp, Nat.zero_le _, h0⟩, ?_⟩
  rintro i m H ⟨rfl, hi, p⟩
  have hq := hl i H hi p
  by_cases hlt : i < xs.length
  · refine .inr ⟨⟨xs, xs[i], hq, by simp [hlt]⟩, Pv (i + 1), fun H' p' => ⟨xs.length - (i + 1), by omega, rfl, hlt, p'⟩, ?_⟩
    rintro x H' ⟨T, y, rfl, hT, rfl, hy⟩
    exact hs i y T H (hy xs hq) p hT
  · have e : i = xs.length := by omega
    subst e
    exact .inl ⟨⟨xs, hq, Nat.le_refl _⟩, hd H p⟩
end
theorem r_iEnumT {K : PySem.W.Frag} {tA : TA} {σ : L2.St} {H : Hp} {R : It → Hp → Prop} (h : tA σ H fun vs H1 => ∃ a xs, vs = [.ref a] ∧ SqT K H1 a xs ∧ R (IteT K a) H1) : iEnumA K tA σ H R := .inr h
theorem r_sum {K : PySem.W.Frag} {H : Hp} {Q : VK} {a : Addr} {ns : List Int} (hs : SqL K H a (ns.map V.int)) (h : Q (.int ns.sum) H) : rSum K [.ref a] H Q := ⟨a, ns, rfl, hs, h⟩
/-! ### data stay -/
mutual
theorem dp_mono {K : PySem.W.Frag} {H H' : Hp} (e : Ex H H') : ∀ {v : V} {d : PyData}, Dp K H v d → Dp K H' v d
  | _, _, .non => .non
  | _, _, .bl b => .bl b
  | _, _, .int i => .int i
  | _, _, .str x => .str x
  | _, _, .lst h r => .lst (Evl.ex_l e h) (dpAll_mono e r)
  | _, _, .tup h r => .tup (Evl.ex_t e h) (dpAll_mono e r)
theorem dpAll_mono {K : PySem.W.Frag} {H H' : Hp} (e : Ex H H') : ∀ {vs : List V} {ds : List PyData}, DpAll K H vs ds → DpAll K H' vs ds
  | _, _, .nil => .nil
  | _, _, .cons h r => .cons (dp_mono e h) (dpAll_mono e r)
end
end Fk
/-! ## defs that are called where no repr is under way: repr of data -/
namespace Fk
open PySem PySem.Spec PyProof.Rows L2
/-- as FnOk, where no guard stands around -/
structure FnG (P : Program) (w : World) (K : PySem.W.Frag) (mg : Str → Option Value) (base : Heap) (k : Nat) (f : Addr) (fd : FuncData) (ps : List Str) (sp : Sp) : Prop where
  len : ∀ vs H Q E, sp vs H Q E → vs.length = ps.length
  run : ∀ (A : Around) (outer : List Env) (s : Shared) (H : Hp) (args : Args) (us : List Value) (vs : List V) (Q : VK) (E : XK), A.guards = some [] → Room k A → Env0 P w K mg base A outer s H →
    BindsTo s fd args (ps.zip us) → Vals vs us → sp vs H Q E → codeAny (model P w) A (.call (.ref f) args) (CR (L2.CX P w) outer P w H s Q E) s
section
variable {P : Program} {w : World} {K : PySem.W.Frag} {mg : Str → Option Value} {base : Heap} {k : Nat} {f : Addr} {fd : FuncData} {ps N : List Str} {sp : Sp} {x qual : Str} {params : Arguments} {body : List Stmt} {scope : Scope} {dvs : List V} {kws : List (Str × V)}
theorem FnG.of (F : FnOk P w K mg base (L2.CX P w) k f fd ps sp) : FnG P w K mg base k f fd ps sp := ⟨F.len, fun A outer s H args us vs Q E _ => F.run A outer s H args us vs Q E⟩
/-- a def's body, run where no guard stands -/
theorem okG (F : FunD K x qual params body scope dvs kws f fd) (S : FnScope N ps scope) (len : ∀ vs H Q E, sp vs H Q E → vs.length = ps.length)
    (hb : ∀ (cdv : Value) (A : Around) (outer : List Env) (s : Shared) (H : Hp) (vs : List V) (Q : VK) (E : XK), A.guards = some [] → Room k (A.deeper (envOfC qual scope s.heap.objs.size f cdv)) → sp vs H Q E →
      ∃ t, PSs (cxOf (L2.CX P w) P w K mg base N qual scope f cdv A outer s H E) body t ∧ t { nx := fun _ H' => Q .non H', rt := Q } (start N vs) H) : FnG P w K mg base (k + 1) f fd ps sp := by
  obtain ⟨oc, od, dV, kV, doc, pm, an, cdv, ct, osl, rfl, lk, hcd, _, _⟩ := F.ex
  refine ⟨len, ?_⟩
  intro A outer s H args us vs Q E hG hr e0 hbi r hsp
  have inK : K.In s.heap := e0.mod.kin.keeps fun b o e => (e0.bs b o e).1
  have lim : s.heap.NoLimit := e0.mod.nolimit.keeps fun b o e => (e0.bs b o e).1
  refine codeAny_call_function hr.depth (inK _ _ lk) rfl S.co S.gen rfl (PySem.W.codeRec_of inK hcd) (hbi _ _ _ _ ?_)
  refine wpAny_newFunctionEnv_cells S.kind ?_ ?_
  · rintro ⟨n, v⟩ hy
    rcases S.par n (List.of_mem_zip hy).1 with z | z
    · exact .inl z
    · exact .inr ⟨z, PySem.W.cellsFrom_some _ _ _ (.inl z)⟩
  intro env he s1 y
  subst he
  refine ⟨lim.keeps y.toInCall.keep, codeAny_func ?_⟩
  obtain ⟨t, ht, hq⟩ := hb cdv A outer s H vs Q E hG (hr.deeper _) hsp
  have I := inv_start (CX := L2.CX P w) (E := E) S hr.hd e0 (len _ _ _ _ hsp) r y
  refine wpAny_mono (ht.run [] s1 (start N vs) H _ I hq) ?_ (fun e s' z => z)
  intro fl s' z
  cases fl with
  | ret u =>
    obtain ⟨v, σ', H', J, rv, q⟩ := z
    exact ⟨v, H', J.os, J.bare, J.base, J.hok, rv, q⟩
  | next =>
    obtain ⟨σ', H', J, q⟩ := z
    exact ⟨V.non, H', J.os, J.bare, J.base, J.hok, rfl, q⟩
  | brk => obtain ⟨_, _, _, q⟩ := z; exact q.elim
  | cont => obtain ⟨_, _, _, q⟩ := z; exact q.elim
end
structure CalG (P : Program) (w : World) (K : PySem.W.Frag) (mg : Str → Option Value) (base : Heap) (k : Nat) (x : Str) (ps : List Str) (dvs : List V) (sp : Sp) : Prop where
  ex : ∃ (f : Addr) (fd : FuncData) (ds : List Value), FnG P w K mg base k f fd ps sp ∧ mg x = some (.ref f) ∧ PySem.W.keepIn K (.ref f) = true ∧ Binds K fd ps ds ∧ Vals dvs ds
section
variable {X : Cx} {k j : Nat} {x : Str} {ps : List Str} {dvs : List V} {sp : Sp} {E : XK} {p pos : Pos} {e : Expr} {es : List Expr} {t : TA} {f : Addr} {fd : FuncData} {ds : List Value}
theorem run_fnG {pins : List (Addr × Obj)} {σ : L2.St} {H : Hp} {s : Shared} {Q : VK} {us : List Value} {vs : List V} (F : FnG X.prog X.w X.K X.mg X.base k f fd ps sp) (hG : X.A.guards = some []) (hr : Room k X.A) (hb : Binds X.K fd ps ds) (hd : Vals dvs ds)
    (hx : Passes (L2.CX X.prog X.w) X E) (I : Inv X pins σ H s) (r : Vals vs us) (h : sp (vs ++ dvs) H Q E) : wpAny (model X.prog X.w) X.A (call (.ref f) us) (EP X pins σ Q) X.xe s := by
  have r2 := r.append hd
  have hl : (us ++ ds).length = ps.length := r2.length.symm.trans (F.len _ _ _ _ h)
  refine wpAny_call (codeAny_mono (F.run X.A X.stack s H ⟨us, []⟩ (us ++ ds) (vs ++ dvs) Q E hG hr I.env0 (hb s us I.kIn hl) r2 h) ?_)
  intro r s' z
  cases r with
  | error e => exact hx pins σ H s e s' I z
  | ok fl => cases fl with
    | ret u => exact I.after z
    | next => exact z.elim
    | brk => exact z.elim
    | cont => exact z.elim
theorem pe_calG (F : CalG X.prog X.w X.K X.mg X.base k x ps dvs sp) (hG : X.A.guards = some []) (hr : Room j X.A) (hk : k ≤ j) (hg : Gl X x) (hx : Passes (L2.CX X.prog X.w) X E) (ha : PA X (e :: es) t)
    (hdb : (x == ("__debug__" : Str)) = false := by decide) (he : starEach (e :: es) X.env = (false, eval e X.env) :: starEach es X.env := by rfl) (hpl : (backTo pos (starEach es X.env)).any (·.1) = false := by rfl) :
    PE X (.Call (.Name x p) (e :: es) [] pos) (tCall sp dvs E t) := by
  obtain ⟨f, fd, ds, G, gm, kp, b, v⟩ := F.ex
  refine ⟨fun pins s σ H Q I h => wpAny_Call_Name_kw (ld_glob I hg gm ?_ hdb)⟩
  refine PySem.W.callWith_K (h₀ := X.base) I.ok.mod.kin kp (thn (ha.run pos pins s σ H _ I h) ?_) he hpl
  rintro us s1 ⟨vs, H1, I1, r, q⟩
  exact ⟨I1.kIn, run_fnG G hG (hr.mono hk) b v hx I1 r q⟩
end
/-! ### repr -/
def uRepr (K : PySem.W.Frag) : List V → Hp → VK → Prop := fun xs H Q => ∃ v d, xs = [v] ∧ Dp K H v d ∧ d.showable = true ∧ d.depth ≤ 60 ∧ d.hasDict = false ∧ d.shown.length ≤ sizeLine ∧ Q (.str d.shown) H
theorem call_repr {X : Cx} (hG : X.A.guards = some []) (hu : X.A.units + 64 < cLine) : CallR X (.builtin "repr") (uRepr X.K) := by
  intro pins s σ H xs us Q I r h
  obtain ⟨v, d, rfl, hd, hs, hdp, hnd, hz, q⟩ := h
  cases r with
  | cons ru rn =>
    rename_i u us'
    cases rn
    obtain ⟨as, rd⟩ := Dp.reads I d v u hd ru
    have fin : ∀ h' uu tk, (∀ b o, s.heap.get? b = some o → h'.get? b = some o) → EP X pins σ Q (.str d.shown uu) { s with heap := h', toks := tk } := fun h' uu tk hk => ⟨.str d.shown, H, I.kept (t' := tk) hk, ⟨uu, rfl⟩, q⟩
    cases u with
    | ref a => exact repr_of_reads' rd hs (fun z => by rw [hnd] at z; cases z) hG (by omega) (fun _ _ e => e) fin hz
    | none =>
      cases rd
      exact P.repr_of_none (fin s.heap _ _ fun _ _ e => e)
    | bool b =>
      cases rd
      exact P.repr_of_bool (fin s.heap _ _ fun _ _ e => e)
    | int i t =>
      cases rd
      exact P.repr_of_int (by simpa [PyData.showable] using hs) (fin s.heap _ _ fun _ _ e => e)
    | str z t =>
      cases rd
      exact P.repr_of_str (fin s.heap _ _ fun _ _ e => e) hz
    | _ => cases rd
/-! ### the law's call -/
theorem law_G {P : Program} {w : World} {K : PySem.W.Frag} {mg mb : Str → Option Value} {k : Nat} {fa a : Addr} {fd : FuncData} {x : Str} {sp : Sp} {s1 : Shared} {vs : List Value} {ns : List Int}
    (KX : K.In s1.heap) (hns : s1.heap.Ns mainGlobals mg) (hb : s1.heap.Ns builtinsNs mb) (hbb : ∀ x : Str, x ≠ "__name__" → mb x = bootBuiltins x) (hlim : s1.heap.NoLimit) (hg : s1.gens = #[])
    (ha : s1.heap.get? a = some { cls := .type "list", data := .seq vs.toArray }) (hi : IntsAre vs ns) (hl : ns.length ≤ sizeLine) (hr : Room k callerA)
    (Fn : ∀ base : Heap, K.In base → base.Ns mainGlobals mg → FnG P w K mg base k fa fd [x] sp) (hbind : ∀ (s : Shared) (u : Value), BindsTo s fd ⟨[u], []⟩ [(x, u)])
    (hsp : ∀ H : Hp, SqL K H a (ns.map V.int) → sp [.ref a] H (fun v _ => v = .bl true) fun _ _ _ => False) :
    codeAny (model P w) callerA (.call (.ref fa) ⟨[.ref a], []⟩) (fun r s' => r = .ok (.ret (.bool true)) ∧ OldK s1.heap s'.heap ∧ s'.os = s1.os ∧ AllBare s'.gens) s1 := by
  have rv := vals_ints hi
  have lenV := hi.length
  let ob : Obj := { cls := .type "list", data := .seq vs.toArray }
  let Hs : Hp := fun b => if b = a ∧ K.lookup a = none then some (.frz ob (.lst (ns.map V.int))) else none
  have at_ : ∀ b u, Hs b = some u → b = a ∧ K.lookup a = none ∧ u = .frz ob (.lst (ns.map V.int)) := fun b u q => by
    by_cases c : b = a ∧ K.lookup a = none
    · have q2 : some (HO.frz ob (.lst (ns.map V.int))) = some u := (if_pos c).symm.trans q
      exact ⟨c.1, c.2, (Option.some.inj q2).symm⟩
    · have q2 : (none : Option HO) = some u := (if_neg c).symm.trans q
      cases q2
  have hS : SqL K Hs a (ns.map V.int) := by
    cases hk : K.lookup a with
    | none => exact .inl (.inr ⟨ob, if_pos ⟨rfl, hk⟩⟩)
    | some o =>
      have e := KX a o hk
      rw [ha] at e
      cases e
      exact .inr ⟨_, vs.toArray, _, hk, rfl, rfl, rfl, by rw [List.size_toArray, lenV]; exact hl, by simpa using rv⟩
  have hok : HOk P w Hs s1.heap := fun b u q => by
    obtain ⟨rfl, _, rfl⟩ := at_ b u q
    exact ⟨ha, by rw [List.length_map]; exact hl, vs, _, rv, ha⟩
  have hid : ∀ {b : Addr} {o : Obj}, s1.heap.get? b = some o → (b = a → K.lookup a ≠ none) → (hidT s1.heap Hs).get? b = some o := fun {b o} e n => by
    refine hidT_get e ?_
    cases q : Hs b with
    | none => rfl
    | some u =>
      obtain ⟨e1, e2, _⟩ := at_ b u q
      exact absurd e2 (n e1)
  have nsK : ∀ {b : Addr} {m : Str → Option Value}, s1.heap.Ns b m → (hidT s1.heap Hs).Ns b m := fun {b m} ⟨o, es, ep, e, d, rr⟩ => by
    refine ⟨o, es, ep, hid e ?_, d, rr⟩
    rintro rfl
    rw [ha] at e
    cases e
    cases d
  have hKb : K.In (hidT s1.heap Hs) := fun b o e => hid (KX b o e) (fun z => by rw [← z, e]; exact fun q => nomatch q)
  have hM : Mod K mg (hidT s1.heap Hs) := by
    refine ⟨hKb, nsK hns, ⟨mb, nsK hb, hbb⟩, ?_⟩
    obtain ⟨mc, h1, h2⟩ := hlim
    exact ⟨mc, nsK h1, h2⟩
  have e0 : Env0 P w K mg (hidT s1.heap Hs) callerA [] s1 Hs := ⟨rfl, hM, fun b o e => of_hidT e, Nat.le_of_eq (hidT_size _ _), trivial, fun b z => absurd (show b ∈ ([] : List Addr) from z) (by simp), hok, .of_eq hg⟩
  refine codeAny_mono ((Fn _ hKb (nsK hns)).run callerA [] s1 Hs ⟨[.ref a], []⟩ [.ref a] [.ref a] _ _ rfl hr e0 (hbind s1 (.ref a)) (.cons rfl .nil) (hsp Hs hS)) ?_
  intro r s' h
  cases r with
  | error e =>
    obtain ⟨_, _, _, _, _, _, _, _, _, _, _, _, z⟩ := h
    exact z.elim
  | ok fl =>
    cases fl with
    | next => exact h.elim
    | brk => exact h.elim
    | cont => exact h.elim
    | ret u =>
      obtain ⟨v, H', os, bare, un, hok', r', q⟩ := h
      have q' : v = .bl true := q
      subst q'
      obtain rfl : u = Value.bool true := r'
      refine ⟨rfl, OldK.of_keep fun b o e => ?_, os, bare⟩
      cases q : Hs b with
      | none => exact un.keep b o e q (fun z => absurd (show b ∈ ([] : List Addr) from z) (by simp)) (by simp)
      | some u =>
        obtain ⟨e1, e2, e3⟩ := at_ b u q
        subst e3
        have z2 := un.frzs b ob _ q
        obtain ⟨g1, _⟩ := hok b _ q
        obtain ⟨g2, _⟩ := hok' b _ z2
        rw [e] at g1
        cases g1
        exact g2
theorem walk_endG {l : PySem.W.OpenLaw} {n k : Nat} {q : Program} {loose : List Str} {XP : (Str → Option Value) → Heap → Prop} {YP : World → Heap → Prop} {d : DefRec} {x : Str}
    (hn : l.most = some n) (hn2 : n ≤ sizeLine) (hdf : d.params.defaults = []) (hr : Room k callerA)
    (Fx : ∀ (w : World) (mg : Str → Option Value) (fa : Addr) (h : Heap), YP w h → h.Ns mainGlobals mg → mg d.name = some (.ref fa) →
      ∃ (K : PySem.W.Frag) (fd : FuncData) (sp : Sp), K.In h ∧ (∀ (s : Shared) (u : Value), BindsTo s fd ⟨[u], []⟩ [(x, u)]) ∧
        (∀ (H : Hp) (a : Addr) (ns : List Int), ns.length ≤ n → (∀ z ∈ ns, Builtin.Int.intBits z ≤ 1048576) → SqL K H a (ns.map V.int) → sp [.ref a] H (fun v _ => v = .bl true) fun _ _ _ => False) ∧
        ∀ base : Heap, K.In base → base.Ns mainGlobals mg → FnG l.prog w K mg base k fa fd [x] sp) :
    PySem.W.WalkO q loose XP YP l.row.toRowW d [] (fun f vs => PySem.call f vs) := by
  refine Att.attach_callB hn hdf ?_
  intro w s0 s1 mg mb fa o pm cd doc a vs ns G Y ho hd hcd hmg hobj hints hlen hbits hg
  obtain ⟨K, fd, sp, KX, hb, hsp, hF⟩ := Fx w mg fa _ Y G.T.g hmg
  exact law_G KX G.T.g G.T.b G.T.builtins G.T.nolimit hg hobj hints (Nat.le_trans hlen hn2) hr hF hb (fun H hS => hsp H a ns hlen hbits hS)
end Fk
/-! ## data whose text is short -/
namespace Fk
open PySem PySem.Spec PyProof.Rows L2
/-- data of depth at most k whose text has at most n signs -/
structure Sw (k n : Nat) (d : PyData) : Prop where
  lay : d.canLay0 = true
  dep : d.depth ≤ k
  shw : d.showable = true
  len : d.shown.length ≤ n
structure SwAll (k n : Nat) (ds : List PyData) : Prop where
  lay : PyData.canLayAll0 ds = true
  dep : PyData.depthAll ds ≤ k
  shw : PyData.showableAll ds = true
  len : ((PyData.shownAll ds).map (·.length)).sum + 2 * (PyData.shownAll ds).length ≤ n
theorem sw_none {k : Nat} : Sw k 4 .none := ⟨rfl, Nat.zero_le _, rfl, by decide +kernel⟩
theorem sw_bool {k : Nat} (b : Bool) : Sw k 5 (.bool b) := ⟨rfl, Nat.zero_le _, rfl, by cases b <;> decide +kernel⟩
theorem sw_int {k : Nat} {i : Int} (h : i.natAbs < 2 ^ 128) : Sw k 129 (.int i) := by
  have lg : i.natAbs.log2 < 128 := by
    by_cases z : i.natAbs = 0
    · rw [z]; decide
    · exact (Nat.log2_lt z).mpr h
  refine ⟨rfl, Nat.zero_le _, ?_, ?_⟩
  · have : i.natAbs.log2 < 1920 := by omega
    simpa [PyData.showable] using this
  · have e : (PyData.int i).shown = Str.ofString (toString i) := by simp only [PyData.shown]
    rw [e, PySem.ofString_length]
    exact int_text_length_le (by decide) lg
theorem sw_str {k : Nat} {x : Str} (ok : PyData.strOk x = true) : Sw k (10 * x.length + 2) (.str x) := by
  refine ⟨by simpa [PyData.canLay0] using ok, Nat.zero_le _, by simp [PyData.showable], ?_⟩
  have e : (PyData.str x).shown = reprText x := by simp only [PyData.shown]
  rw [e]
  refine StrLaws.reprText_len x fun c hc => ?_
  have q : x.cps.all (· < 0x110000) = true := ok
  have := Array.all_eq_true'.mp q c (by simpa using hc)
  have e2 : (0x110000 : Nat) ≤ 16 ^ 8 := by decide
  simp at this
  omega
theorem swa_nil {k : Nat} : SwAll k 0 [] := ⟨rfl, Nat.zero_le _, rfl, by simp [PyData.shownAll]⟩
theorem swa_cons {k n m : Nat} {d : PyData} {ds : List PyData} (h : Sw k n d) (r : SwAll k m ds) : SwAll k (n + 2 + m) (d :: ds) := by
  refine ⟨by simp [PyData.canLayAll0, h.lay, r.lay], ?_, by simp [PyData.showableAll, h.shw, r.shw], ?_⟩
  · have := h.dep
    have := r.dep
    simp only [PyData.depthAll]
    omega
  · have := h.len
    have := r.len
    simp only [PyData.shownAll, List.map_cons, List.sum_cons, List.length_cons]
    omega
theorem sw_tup {k n : Nat} {ds : List PyData} (h : SwAll k n ds) : Sw (k + 1) (n + 3) (.tuple ds) := by
  refine ⟨by simpa [PyData.canLay0] using h.lay, by have := h.dep; simp only [PyData.depth]; omega, by simpa [PyData.showable] using h.shw, ?_⟩
  have := tupleText_len_le (PyData.shownAll ds)
  have := h.len
  simp only [PyData.shown]
  omega
theorem sw_lst {k n : Nat} {ds : List PyData} (h : SwAll k n ds) : Sw (k + 1) (n + 3) (.list ds) := by
  refine ⟨by simpa [PyData.canLay0] using h.lay, by have := h.dep; simp only [PyData.depth]; omega, by simpa [PyData.showable] using h.shw, ?_⟩
  have := listText_len_le (PyData.shownAll ds)
  have := h.len
  simp only [PyData.shown]
  omega
theorem Sw.shaped {k n : Nat} {d : PyData} (h : Sw k n d) (hk : k ≤ 60) : SeqAt.shaped d = true := by
  unfold SeqAt.shaped
  rw [h.lay, Bool.true_and]
  exact decide_eq_true (Nat.le_trans h.dep (by omega))
section
variable {K : PySem.W.Frag} {H : Hp} {Q : VK} {v u : V} {d e : PyData}
theorem r_repr {k n : Nat} (hd : Dp K H v d) (hs : Sw k n d) (hk : k ≤ 60) (hn : n ≤ 16000000) (h : Q (.str d.shown) H) : uRepr K [v] H Q :=
  ⟨v, d, rfl, hd, hs.shw, Nat.le_trans hs.dep hk, PyData.hasDict_of_canLay d hs.lay, Nat.le_trans hs.len (Nat.le_trans hn (by decide)), h⟩
theorem dp_tup {p : Addr} {vs : List V} {ds : List PyData} (hp : H p = some (.tup vs)) (h : DpAll K H vs ds) : Dp K H (.ref p) (.tuple ds) := .tup (SqT.of hp) h
theorem r_eqS {x y : Str} (h : Q (.bl (decide (x = y))) H) : uEq K (.str x) (.str y) H Q := by
  refine .inl ⟨rfl, ?_⟩
  have e : decide ((V.str x) = V.str y) = decide (x = y) := by
    by_cases q : x = y
    · subst q; simp
    · rw [decide_eq_false q, decide_eq_false (fun z => q (V.str.inj z))]
  show Q (.bl (decide ((V.str x) = V.str y))) H
  rw [e]
  exact h
theorem r_neS {x y : Str} (h : Q (.bl (!decide (x = y))) H) : uNe K (.str x) (.str y) H Q := by
  refine .inl ⟨rfl, ?_⟩
  have e : decide ((V.str x) = V.str y) = decide (x = y) := by
    by_cases q : x = y
    · subst q; simp
    · rw [decide_eq_false q, decide_eq_false (fun z => q (V.str.inj z))]
  show Q (.bl (!decide ((V.str x) = V.str y))) H
  rw [e]
  exact h
end
end Fk
/-! ## more loops -/
namespace Fk
open PySem PySem.Spec PyProof.Rows L2
section
variable {K : PySem.W.Frag} {D : Ends} {σ : L2.St} {H : Hp} {g : TG} {tb : TS} {a : Addr} {xs : List V}
theorem r_iEnumL {tA : TA} {R : It → Hp → Prop} (h : tA σ H fun vs H1 => ∃ a xs, vs = [.ref a] ∧ SqL K H1 a xs ∧ R (Ite K a) H1) : iEnumA K tA σ H R := .inl h
theorem drop_cons {xs : List V} {i : Nat} {x : V} (hi : xs[i]? = some x) : xs.drop i = x :: xs.drop (i + 1) := by
  obtain ⟨hl, e⟩ := List.getElem?_eq_some_iff.mp hi
  rw [← e, List.drop_eq_getElem_cons hl]
theorem f_enumL (hx : SqL K H a xs) (Pv : Nat → List V → L2.St → Hp → Prop) (h0 : Pv 0 xs σ H) (keep : ∀ i r σ H, Pv i r σ H → SqL K H a xs)
    (step : ∀ (i : Nat) x r T σ H, Pv i (x :: r) σ H → H T = none → g (.ref T) σ (upd H T (.tup [.int (i : Int), x])) fun σ2 H2 => tb { D with nx := Pv (i + 1) r, ct := Pv (i + 1) r, bk := D.nx } σ2 H2)
    (done : ∀ i σ H, Pv i [] σ H → D.nx σ H) :
    ∃ a' xs', [V.ref a] = [.ref a'] ∧ SqL K H a' xs' ∧ ∃ W : Nat → Nat → L2.St → Hp → Prop, (∃ m, W 0 m σ H) ∧ ∀ i m σ H, W i m σ H →
      ((Ite K a').stop i H ∧ D.nx σ H) ∨ ((Ite K a').go i H ∧ ∃ N : L2.St → Hp → Prop, (∀ σ' H', N σ' H' → ∃ m', m' < m ∧ W (i + 1) m' σ' H') ∧ ∀ x H', (Ite K a').yld i H x H' → g x σ H' fun σ2 H2 => tb { D with nx := N, ct := N, bk := D.nx } σ2 H2) := by
  refine ⟨a, xs, rfl, hx, fun i m σ H => m = xs.length - i ∧ i ≤ xs.length ∧ Pv i (xs.drop i) σ H, ⟨xs.length, by simp, Nat.zero_le _, by simpa using h0⟩, ?_⟩
  rintro i m σ H ⟨rfl, hi, p⟩
  have hq := keep _ _ _ _ p
  by_cases hlt : i < xs.length
  · have e : xs[i]? = some xs[i] := List.getElem?_eq_getElem hlt
    refine .inr ⟨⟨xs, xs[i], hq, e⟩, Pv (i + 1) (xs.drop (i + 1)), fun σ' H' p' => ⟨xs.length - (i + 1), by omega, rfl, hlt, p'⟩, ?_⟩
    rintro x H' ⟨T, y, rfl, hT, rfl, hy⟩
    have ey := hy xs hq
    rw [drop_cons ey] at p
    exact step i y _ T σ H p hT
  · have e : i = xs.length := by omega
    subst e
    rw [List.drop_length] at p
    exact .inl ⟨⟨xs, hq, Nat.le_refl _⟩, done _ σ H p⟩
end
theorem f_mul2 {K : PySem.W.Frag} {H : Hp} {Q : VK} {l : Addr} {xs : List V} {k : Nat} (hl : H l = some (.lst xs)) (hk : k ≤ 1000) (hz : xs.length ≤ 1000) (h : ∀ p, H p = none → Q (.ref p) (upd H p (.lst (List.replicate k xs).flatten))) :
    uMul K (.ref l) (.int (k : Int)) H Q := by
  refine .inr ⟨l, k, xs, rfl, rfl, hl, by omega, by omega, ?_, ?_⟩
  · have : xs.length * k ≤ 1000 * 1000 := Nat.mul_le_mul hz hk
    rw [Int.toNat_natCast]
    exact Nat.le_trans this (by decide)
  · rw [Int.toNat_natCast]
    exact h
/-- comprehensions over range(n) -/
theorem lc_rng {g : TG} {tt : TT} {te : TE} {vs : List Nat} {σ : L2.St} {H1 : Hp} {D : Addr} {Qd : Hp → Prop} {n : Nat} (σ0 : L2.St) (hw : wipe σ vs = σ0) (Pv : Nat → Hp → Prop) (h0 : Pv 0 (upd H1 D (.lst [])))
    (hs : ∀ i H, i < n → Pv i H → g (.int (i : Int)) σ0 H fun σ2 H2 => wipe σ2 vs = σ0 ∧ tt σ2 H2 fun b H3 =>
      if b = true then te σ2 H3 fun y H4 => ∃ acc, H4 D = some (.lst acc) ∧ acc.length < sizeLine ∧ Pv (i + 1) (upd H4 D (.lst (acc ++ [y]))) else Pv (i + 1) H3) (hd : ∀ H, Pv n H → Qd H) :
    ∃ W : Nat → Nat → Hp → Prop, (∃ m, W 0 m (upd H1 D (.lst []))) ∧ ∀ i m H, W i m H →
      ((Itr 0 n).stop i H ∧ Qd H) ∨ ((Itr 0 n).go i H ∧ ∃ Nx : Hp → Prop, (∀ H', Nx H' → ∃ m', m' < m ∧ W (i + 1) m' H') ∧ ∀ x H', (Itr 0 n).yld i H x H' → g x (wipe σ vs) H' fun σ2 H2 => wipe σ2 vs = wipe σ vs ∧ tt σ2 H2 fun b H3 =>
        if b = true then te σ2 H3 fun y H4 => ∃ acc, H4 D = some (.lst acc) ∧ acc.length < sizeLine ∧ Nx (upd H4 D (.lst (acc ++ [y]))) else Nx H3) := by
  subst hw
  refine lc_range (lo := 0) (n := n) (σ := σ) (vs := vs) Pv h0 (fun i H hi p => ?_) hd
  rw [Int.zero_add]
  exact hs i H hi p
end Fk
/-! ## more rules: a tuple turned about; slices; in -/
namespace Fk
open PySem PySem.Spec PyProof.Rows L2
theorem rev_pick (xs : Array Value) : ((List.range xs.size).filterMap fun (m : Nat) => xs[(((xs.size : Int) - 1) + (m : Int) * (-1)).toNat]?).toArray = xs.toList.reverse.toArray := by
  have e : (List.range xs.size).filterMap (fun (m : Nat) => xs[(((xs.size : Int) - 1) + (m : Int) * (-1)).toNat]?) = ((List.range xs.size).map fun k => xs.size - 1 - k).filterMap (xs[·]?) := by
    rw [List.filterMap_map]
    have e1 : (fun (m : Nat) => xs[(((xs.size : Int) - 1) + (m : Int) * (-1)).toNat]?) = ((fun x => xs[x]?) ∘ fun k => xs.size - 1 - k) := by
      funext m
      have e2 : (((xs.size : Int) - 1) + (m : Int) * (-1)).toNat = xs.size - 1 - m := by omega
      show xs[_]? = xs[xs.size - 1 - m]?
      rw [e2]
    rw [e1]
  rw [e, PySem.W.krv_range, List.filterMap_reverse, PySem.W.krv_all]
section
variable {prog : Program} {w : World} {A : Around} {E : Value → Shared → Prop} {s : Shared}
theorem sliceApplied_rev {sl : Addr} {t : Tok} {n : Nat} {Q : Int × Int × Nat → Shared → Prop} (hs : s.heap.IsSliceOf sl .none .none (.int (-1) t))
    (h : Q ((n : Int) - 1, -1, n) s) : wpAny (model prog w) A (Builtin.Slice.sliceApplied (.ref sl) (pure (n : Int))) Q E s := by
  obtain ⟨os, hos, hcs, hds⟩ := id hs
  unfold Builtin.Slice.sliceApplied Builtin.Slice.sliceFields
  refine wpAny_bind (wpAny_bind (wpAny_field hos hds (x := .none) rfl (wpAny_bind (wpAny_field hos hds (x := .none) rfl (wpAny_bind (wpAny_field hos hds (x := .int (-1) t) rfl (wpAny_pure ?_)))))))
  refine wpAny_bind (HT.slicePart_ (IsPart.int _ _) ?_)
  show wpAny _ _ (if ((-1 : Int) == 0) = true then _ else _) _ _ s
  rw [if_neg (by decide)]
  refine wpAny_bind (HT.slicePart_ .none (wpAny_bind (HT.slicePart_ .none (wpAny_bind (wpAny_pure ?_)))))
  have e1 : Builtin.Slice.sliceAdjust none none (-1) (n : Int) = ((n : Int) - 1, -1) := rfl
  show wpAny _ _ (match Builtin.Slice.sliceAdjust none none (-1) (n : Int) with | (lo, hi) => pure (lo, (-1 : Int), Builtin.Slice.slicePlaces lo hi (-1))) _ _ s
  rw [e1]
  have e2 : Builtin.Slice.slicePlaces ((n : Int) - 1) (-1) (-1) = n := by
    unfold Builtin.Slice.slicePlaces
    rw [if_neg (by decide)]
    by_cases c : (n : Int) - 1 > -1
    · rw [if_pos c, show (- -1 : Int) = 1 by decide, Int.ediv_one]
      omega
    · rw [if_neg c]
      omega
  show wpAny _ _ (pure ((n : Int) - 1, (-1 : Int), Builtin.Slice.slicePlaces ((n : Int) - 1) (-1) (-1))) _ _ s
  rw [e2]
  exact wpAny_pure h
theorem getItem_tuple_rev {t sl : Addr} {tk : Tok} {items : Array Value} {Q : Value → Shared → Prop} (ht : IsTup s.heap t items) (hs : s.heap.IsSliceOf sl .none .none (.int (-1) tk))
    (h : Q (.ref s.heap.objs.size) { s with heap := s.heap.push { cls := .type "tuple", data := .seq items.toList.reverse.toArray } })
    (hsz : items.size ≤ sizeLine) : wpAny (model prog w) A (getItem (.ref t) (.ref sl)) Q E s := by
  have htake : sizeOk (.seq items.toList.reverse.toArray) := by
    show items.toList.reverse.toArray.size ≤ sizeLine
    rw [List.size_toArray, List.length_reverse, Array.length_toList]
    exact hsz
  obtain ⟨os, hos, hcs, hds⟩ := id hs
  have hTs : s.TypeIs (.ref sl) "slice" := ⟨os, hos, hcs⟩
  unfold getItem
  try with_reducible refine wpAny_holding ?_
  first | refine wpAny_bind (wpAny_pure ?_) | skip
  refine wpAny_bind (wpAny_sequenceKey ht.typeIs (by decide) ?_)
  refine wpAny_bind (wpAny_callSpecial?_slot (name := Str.ofString "__getitem__") ht.typeIs PyProof.Rows.slot_tuple_getitem
    (wpAny_call_entry PyProof.Rows.slot_tuple_getitem ht.typeIs entry_tuple_getitem ?_ (args_tuple_getitem _ _)))
  show wpAny _ _ (Builtin.Tuple.tupleItemsOf (.ref t) >>= _) _ _ s
  refine wpAny_bind (tupleItemsOf_ ht ?_)
  refine wpAny_bind (wpAny_typeOf hTs ?_)
  rw [if_pos (by decide)]
  refine wpAny_bind (sliceApplied_rev hs ?_)
  show wpAny _ _ (if ((((items.size : Int) - 1) == 0) && (-1 : Int) == 1 && items.size == items.size) = true then _ else _) _ _ s
  rw [if_neg (by rw [show ((-1 : Int) == 1) = false from rfl, Bool.and_false, Bool.false_and]; exact Bool.false_ne_true), rev_pick]
  first
    | exact wpAny_bind (m := Builtin.Tuple.tupleExact _) (wpAny_newObj_type (wpAny_pure ⟨_, rfl, wpAny_pure h⟩) htake)
    | exact wpAny_bind (m := Builtin.Tuple.tupleExact _) (wpAny_newObj_type (wpAny_bind (wpAny_pure (wpAny_pure ⟨_, rfl, wpAny_pure h⟩))) htake)
    | exact wpAny_bind (wpAny_bind (m := Builtin.Tuple.tupleExact _) (wpAny_newObj_type (wpAny_pure (wpAny_pure ⟨_, rfl, wpAny_pure h⟩)) htake))
    | exact wpAny_bind (wpAny_bind (m := Builtin.Tuple.tupleExact _) (wpAny_newObj_type (wpAny_pure ⟨_, rfl, wpAny_pure h⟩) htake))
end
section
variable {X : Cx}
def tRevT (K : PySem.W.Frag) (te : TE) : TE := fun σ H Q => te σ H fun x H1 => ∃ a xs, x = .ref a ∧ SqT K H1 a xs ∧ ∀ p, H1 p = none → Q (.ref p) (upd H1 p (.tup xs.reverse))
theorem pe_revT {e : Expr} {te : TE} {k : Nat} {p1 p2 p3 pos : Pos} (he : PE X e te) : PE X (.Subscript e (.Slice none none (some (.UnaryOp .USub (.Constant (.int 1) k p1) p2)) p3) pos) (tRevT X.K te) := by
  refine ⟨fun pins s σ H Q I h => ?_⟩
  refine Subscript_ (thn (he.run pins s σ H _ I h) fun v s1 ⟨x, H1, I1, r1, q1⟩ => ?_)
  obtain ⟨a, xs, ex, hx, q⟩ := q1
  subst ex
  cases r1
  have hst : PO X (some (.UnaryOp .USub (.Constant (.int 1) k p1) p2)) (tPart (tUn (rU fun i => .int (-i)) (tC (.int 1)))) := po_some (pe_un un_neg pe_int)
  refine wpAny_Slice (thn (po_none.run pins s1 σ H1 (fun o H2 => o = none ∧ H2 = H1) I1 ⟨rfl, rfl⟩) fun vl s2 ⟨l, H2, I2, pl, el, e2⟩ => ?_)
  subst el e2
  refine thn (po_none.run pins s2 σ H2 (fun o H3 => o = none ∧ H3 = H2) I2 ⟨rfl, rfl⟩) fun vu s3 ⟨u, H3, I3, pu, eu, e3⟩ => ?_
  subst eu e3
  refine thn (hst.run pins s3 σ H3 (fun o H4 => o = some (-1) ∧ H4 = H3) I3 ⟨1, rfl, -1, rfl, rfl, rfl⟩) fun vs s4 ⟨o, H4, I4, ps, eo, e4⟩ => ?_
  subst eo e4
  cases pl
  cases pu
  cases ps with
  | int _ tk =>
  have I5 : Inv X pins σ H4 { s4 with heap := s4.heap.push { cls := .type "slice", data := .fields #[.none, .none, .int (-1) tk] } } := I4.kept (t' := s4.toks) fun b ob q => Heap.get?_push_of_some _ q
  obtain ⟨its, r, ht, hz⟩ := I5.tuple hx
  have hlen := r.length
  show wpAny (model X.prog X.w) X.A (subscriptTail e (.Slice none none (some (.UnaryOp .USub (.Constant (.int 1) k p1) p2)) p3) (.ref a) (.ref s4.heap.objs.size)) (EP X pins σ Q) X.xe { s4 with heap := s4.heap.push { cls := .type "slice", data := .fields #[.none, .none, .int (-1) tk] } }
  refine tail_any (ops := [.ref a, .ref s4.heap.objs.size]) ht.typeIs PyProof.Rows.slot_tuple_getitem.lookup ?_ (by with_unfolding_all rfl)
  refine getItem_tuple_rev ht (Heap.IsSliceOf.new ..) ?_ (by rw [List.size_toArray]; omega)
  refine ⟨.ref _, _, I5.laid (t' := s4.toks) (o := .tup xs.reverse) (fun b ob q => Heap.get?_push_of_some _ q) (Nat.le_refl _) ?_, rfl, q _ (I5.hok.fresh (Nat.le_refl _))⟩
  exact ⟨by rw [List.length_reverse]; exact hz, its.reverse, r.reverse, ⟨_, Heap.get?_push_size _ rfl, rfl, _, rfl⟩⟩
def uRev (K : PySem.W.Frag) (te : TE) : TE := fun σ H Q => tRevL K te σ H Q ∨ tRevT K te σ H Q
theorem pe_rev {e : Expr} {te : TE} {k : Nat} {p1 p2 p3 pos : Pos} (he : PE X e te) : PE X (.Subscript e (.Slice none none (some (.UnaryOp .USub (.Constant (.int 1) k p1) p2)) p3) pos) (uRev X.K te) := pe_or (pe_revL he) (pe_revT he)
def uSl (K : PySem.W.Frag) : V → Option Int → Option Int → Hp → VK → Prop := fun x lo hi H Q => rSlL K x lo hi H Q ∨ (rSlA K x lo hi H Q ∨ rSlS x lo hi H Q)
theorem sl_any : SlR X (uSl X.K) := sl_list.or (sl_tupA.or sl_str)
def uList (K : PySem.W.Frag) : List V → Hp → VK → Prop := fun xs H Q => ∃ p ys, xs = [.ref p] ∧ (SqL K H p ys ∨ SqT K H p ys) ∧ ∀ l, H l = none → Q (.ref l) (upd H l (.lst ys))
def uTuple (K : PySem.W.Frag) : List V → Hp → VK → Prop := fun xs H Q => ∃ p ys, xs = [.ref p] ∧ ((SqL K H p ys ∧ ∀ l, H l = none → Q (.ref l) (upd H l (.tup ys))) ∨ (SqT K H p ys ∧ Q (.ref p) H))
def uTIndex (K : PySem.W.Frag) : V → List V → Hp → VK → Prop := fun x xs H Q => ∃ p, ∃ ys : List Str, ∃ z j, x = .ref p ∧ xs = [.str z] ∧ SqT K H p (ys.map V.str) ∧ ys[j]? = some z ∧ (∀ m, m < j → ys[m]? ≠ some z) ∧ Q (.int (j : Nat)) H
theorem o_in (hu : X.A.units + 64 < cLine) : OpR X (compareOp .In) (rIn X.K false) := op_in_seq
theorem o_nin (hu : X.A.units + 64 < cLine) : OpR X (compareOp .NotIn) (rIn X.K true) := op_notIn_seq
end
theorem units65 {k : Nat} {A : Around} (r : Room k A) : A.units + 65 < cLine := by
  have := r.un
  omega
/-! ### tuples of the top: plain objects -/
def plainT (K : PySem.W.Frag) (x : Str) : Bool := match K.lookup (He.ga K x) with
  | some ⟨.type c, none, _, _⟩ => decide (c = "tuple")
  | _ => false
theorem plainT_ok {K : PySem.W.Frag} {x : Str} (h : plainT K x = true) (H : Hp) : tyV K "tuple" (.ref (He.ga K x)) H := by
  unfold plainT at h
  cases q : K.lookup (He.ga K x) with
  | none =>
    rw [q] at h
    cases h
  | some o =>
    obtain ⟨oc, od, dt, osl⟩ := o
    rw [q] at h
    cases oc with
    | type c =>
      cases od with
      | none =>
        have e : c = "tuple" := of_decide_eq_true h
        subst e
        exact .inr (.inl ⟨rfl, _, q, rfl, rfl⟩)
      | some _ => cases h
    | _ => cases h
end Fk
/-! ## runs of more rules -/
namespace Fk
open PySem PySem.Spec PyProof.Rows L2
/-! ### runs -/
section
variable {K : PySem.W.Frag} {H : Hp} {Q : VK} {σ : L2.St} {a b p : Addr} {xs ys : List V} {v u x : V}
theorem ty_tup (h : SqT K H a xs) : TyX K H (.ref a) (.type "tuple") := by
  rcases h with (e | ⟨o, e⟩) | ⟨o, its, n, e, c, _⟩
  · exact .base (.tup e)
  · exact .fTuple e
  · exact .kTuple e c
theorem ty_lst (h : SqL K H a xs) : TyX K H (.ref a) (.type "list") := by
  rcases h with (e | ⟨o, e⟩) | ⟨o, its, n, e, c, _⟩
  · exact .base (.lst e)
  · exact .base (.frz e)
  · exact .kList e c
theorem r_sl {r : V → Option Int → Option Int → Hp → VK → Prop} {te : TE} {tl th : TO} (h : te σ H fun x H1 => tl σ H1 fun l H2 => th σ H2 fun u H3 => r x l u H3 Q) : tSl r te tl th σ H Q := h
theorem r_part {te : TE} {P : Option Int → Hp → Prop} (h : te σ H fun x H1 => ∃ i, x = .int i ∧ P (some i) H1) : tPart te σ H P := h
theorem r_pint {i : Int} {P : Int → Prop} (h : P i) : ∃ j, V.int i = .int j ∧ P j := ⟨i, rfl, h⟩
theorem r_nopart {P : Option Int → Hp → Prop} (h : P none H) : tNoPart σ H P := h
theorem r_slT {lo hi : Option Int} (hx : SqT K H a xs) (hw : ¬ (HT.sIx xs.length 0 lo = 0 ∧ HT.sIx xs.length xs.length hi = xs.length)) (hc : cutV xs lo hi = ys) (h : ∀ p, H p = none → Q (.ref p) (upd H p (.tup ys))) : uSl K (.ref a) lo hi H Q :=
  .inr (.inl ⟨a, xs, rfl, hx, fun z => absurd z hw, fun _ p hp => by rw [hc]; exact h p hp⟩)
theorem r_revT {te : TE} (h : te σ H fun x H1 => ∃ a xs, x = .ref a ∧ SqT K H1 a xs ∧ ∀ p, H1 p = none → Q (.ref p) (upd H1 p (.tup xs.reverse))) : uRev K te σ H Q := .inr h
theorem r_nin {p : Addr} (hs : SqT K H p xs) (fx : flatV x = true) (fs : xs.all flatV = true) (h : Q (.bl (!inV x xs)) H) : rIn K true x (.ref p) H Q := ⟨p, xs, rfl, .inr hs, fx, fs, h⟩
theorem r_in {p : Addr} (hs : SqT K H p xs) (fx : flatV x = true) (fs : xs.all flatV = true) (h : Q (.bl (inV x xs)) H) : rIn K false x (.ref p) H Q := ⟨p, xs, rfl, .inr hs, fx, fs, h⟩
theorem r_catT (ha : SqT K H a [v]) (hb : SqT K H b ys) (hz : ys.length ≤ 1000) (h : ∀ H' p, Ex H H' → SqT K H' p (v :: ys) → Q (.ref p) H') : uAdd K (.ref a) (.ref b) H Q := by
  refine .inr (.inr (.inr ⟨a, b, [v], ys, rfl, rfl, ha, hb, ?_, (fun z => nomatch z), fun _ z => ?_, fun _ _ p hp => ?_⟩))
  · rw [List.length_singleton]
    exact Nat.le_trans (by omega : 1 + ys.length ≤ 1001) (by decide)
  · subst z
    exact h H a Ex.rf ha
  · exact h _ p (Ex.rf.up hp) (SqT.of upd_same)
theorem r_eqB {c d : Bool} (h : Q (.bl (decide (c = d))) H) : uEq K (.bl c) (.bl d) H Q := by
  refine .inl ⟨rfl, ?_⟩
  have e : decide ((V.bl c) = V.bl d) = decide (c = d) := by cases c <;> cases d <;> rfl
  show Q (.bl (decide ((V.bl c) = V.bl d))) H
  rw [e]
  exact h
theorem r_neB {c d : Bool} (h : Q (.bl (!decide (c = d))) H) : uNe K (.bl c) (.bl d) H Q := by
  refine .inl ⟨rfl, ?_⟩
  have e : decide ((V.bl c) = V.bl d) = decide (c = d) := by cases c <;> cases d <;> rfl
  show Q (.bl (!decide ((V.bl c) = V.bl d))) H
  rw [e]
  exact h
theorem r_neSame {d : PyData} {v u : V} (hd : Dp K H v d) (he : Dp K H u d) (sd : SeqAt.shaped d = true) (h : Q (.bl false) H) : uNe K v u H Q := by
  refine r_neD hd he sd sd ?_
  rw [SeqAt.eqv_refl _ (SeqAt.canLay_of_shaped sd)]
  exact h
theorem r_all {bs : List Bool} (hs : SqL K H a (bs.map V.bl)) (h : Q (.bl (bs.all id)) H) : rAll K [.ref a] H Q := ⟨a, bs, rfl, hs, h⟩
theorem r_yes {QB : Bool → Hp → Prop} (h : QB true H) : tYes σ H QB := h
theorem r_NT {A B : Prop} (h : B) : if (!true) = true then A else B := h
theorem r_NF {A B : Prop} (h : A) : if (!false) = true then A else B := h
theorem r_isN (h : Q (.bl (decide (v = .non))) H) : uIsN v .non H Q := .inl ⟨rfl, h⟩
theorem r_nisN (h : Q (.bl (!decide (v = .non))) H) : uNotN v .non H Q := .inl ⟨rfl, h⟩
theorem r_nisB {c d : Bool} (h : Q (.bl (!decide (c = d))) H) : uNotN (.bl c) (.bl d) H Q := .inr ⟨c, d, rfl, rfl, h⟩
end
/-! ### zip of two tuples -/
section
variable {K : PySem.W.Frag} {D : Ends} {σ : L2.St} {H H1 : Hp} {g : TG} {tb : TS} {te : TE} {a b Dd : Addr} {zs : List (V × V)} {vs : List Nat} {Qd : Hp → Prop}
theorem r_iZip {tA : TA} {R : It → Hp → Prop} (h : tA σ H fun vs H1 => ∃ a b xs ys, vs = [.ref a, .ref b] ∧ ((SqL K H1 a xs ∧ SqL K H1 b ys ∧ R (Itz K a b) H1) ∨ (SqT K H1 a xs ∧ SqT K H1 b ys ∧ R (RZ.ItzT K a b) H1))) : RZ.iZipA K tA σ H R := h
theorem at_fst {i : Nat} {x : V} (h : (zs.map Prod.fst)[i]? = some x) : ∃ y, zs[i]? = some (x, y) := by
  rw [List.getElem?_map] at h
  cases e : zs[i]? with
  | none => rw [e] at h; cases h
  | some z => rw [e] at h; cases h; exact ⟨z.2, rfl⟩
theorem f_zipT (hx : SqT K H a (zs.map Prod.fst)) (hy : SqT K H b (zs.map Prod.snd)) (Pv : List (V × V) → L2.St → Hp → Prop) (h0 : Pv zs σ H) (keep : ∀ r σ H', Pv r σ H' → Ex H H')
    (step : ∀ x y r T σ H, Pv ((x, y) :: r) σ H → H T = none → g (.ref T) σ (upd H T (.tup [x, y])) fun σ2 H2 => tb { D with nx := Pv r, ct := Pv r, bk := D.nx } σ2 H2)
    (done : ∀ σ H, Pv [] σ H → D.nx σ H) :
    ∃ a' b' xs ys, [V.ref a, V.ref b] = [.ref a', .ref b'] ∧ ((SqL K H a' xs ∧ SqL K H b' ys ∧ ∃ W : Nat → Nat → L2.St → Hp → Prop, (∃ m, W 0 m σ H) ∧ ∀ i m σ H, W i m σ H →
      ((Itz K a' b').stop i H ∧ D.nx σ H) ∨ ((Itz K a' b').go i H ∧ ∃ N : L2.St → Hp → Prop, (∀ σ' H', N σ' H' → ∃ m', m' < m ∧ W (i + 1) m' σ' H') ∧ ∀ x H', (Itz K a' b').yld i H x H' → g x σ H' fun σ2 H2 => tb { D with nx := N, ct := N, bk := D.nx } σ2 H2)) ∨
      (SqT K H a' xs ∧ SqT K H b' ys ∧ ∃ W : Nat → Nat → L2.St → Hp → Prop, (∃ m, W 0 m σ H) ∧ ∀ i m σ H, W i m σ H →
      ((RZ.ItzT K a' b').stop i H ∧ D.nx σ H) ∨ ((RZ.ItzT K a' b').go i H ∧ ∃ N : L2.St → Hp → Prop, (∀ σ' H', N σ' H' → ∃ m', m' < m ∧ W (i + 1) m' σ' H') ∧ ∀ x H', (RZ.ItzT K a' b').yld i H x H' → g x σ H' fun σ2 H2 => tb { D with nx := N, ct := N, bk := D.nx } σ2 H2))) := by
  refine ⟨a, b, _, _, rfl, .inr ⟨hx, hy, fun i m σ H' => m = zs.length - i ∧ i ≤ zs.length ∧ Pv (zs.drop i) σ H', ⟨zs.length, by simp, Nat.zero_le _, by simpa using h0⟩, ?_⟩⟩
  rintro i m σ H' ⟨rfl, hi, p⟩
  have ex := keep _ _ _ p
  have qx := Evl.ex_t ex hx
  have qy := Evl.ex_t ex hy
  by_cases hlt : i < zs.length
  · have e : zs[i]? = some zs[i] := List.getElem?_eq_getElem hlt
    have ed : zs.drop i = zs[i] :: zs.drop (i + 1) := List.drop_eq_getElem_cons hlt
    have e1 : (zs.map Prod.fst)[i]? = some zs[i].1 := by rw [List.getElem?_map, e]; rfl
    have e2 : (zs.map Prod.snd)[i]? = some zs[i].2 := by rw [List.getElem?_map, e]; rfl
    refine .inr ⟨⟨_, _, _, _, qx, qy, e1, e2⟩, Pv (zs.drop (i + 1)), fun σ' H' p' => ⟨zs.length - (i + 1), by omega, rfl, hlt, p'⟩, ?_⟩
    rintro x H2 ⟨T, y, z, rfl, hT, rfl, h1, h2⟩
    have f1 := h1 _ qx
    have f2 := h2 _ qy
    rw [e1] at f1
    rw [e2] at f2
    cases f1
    cases f2
    rw [ed] at p
    exact step _ _ _ T σ H' p hT
  · have e : i = zs.length := by omega
    subst e
    rw [List.drop_length] at p
    exact .inl ⟨⟨_, _, qx, qy, .inl (by rw [List.length_map]; exact Nat.le_refl _)⟩, done _ _ p⟩
/-- [te for .. in zip(a, b)] where each turn tells f of the pair -/
theorem lc_zipT (σ0 : L2.St) (hw : wipe σ vs = σ0) (f : V × V → V) (hD : H1 Dd = none) (hz : zs.length ≤ 1000) (hx : SqT K H1 a (zs.map Prod.fst)) (hy : SqT K H1 b (zs.map Prod.snd))
    (hs : ∀ z, z ∈ zs → ∀ T H (Qy : VK), Ex H1 H → H T = none → (∀ H4, Ex H H4 → Qy (f z) H4) → g (.ref T) σ0 (upd H T (.tup [z.1, z.2])) fun σ2 H2 => wipe σ2 vs = σ0 ∧ te σ2 H2 Qy)
    (hd : ∀ H, Ex H1 H → H Dd = some (.lst (zs.map f)) → Qd H) :
    ∃ W : Nat → Nat → Hp → Prop, (∃ m, W 0 m (upd H1 Dd (.lst []))) ∧ ∀ i m H, W i m H →
      ((RZ.ItzT K a b).stop i H ∧ Qd H) ∨ ((RZ.ItzT K a b).go i H ∧ ∃ Nx : Hp → Prop, (∀ H', Nx H' → ∃ m', m' < m ∧ W (i + 1) m' H') ∧ ∀ x H', (RZ.ItzT K a b).yld i H x H' → g x (wipe σ vs) H' fun σ2 H2 => wipe σ2 vs = wipe σ vs ∧ tYes σ2 H2 fun b H3 =>
        if b = true then te σ2 H3 fun y H4 => ∃ acc, H4 Dd = some (.lst acc) ∧ acc.length < sizeLine ∧ Nx (upd H4 Dd (.lst (acc ++ [y]))) else Nx H3) := by
  subst hw
  refine ⟨fun i m H => m = zs.length - i ∧ i ≤ zs.length ∧ Ex H1 H ∧ H Dd = some (.lst ((zs.map f).take i)), ⟨zs.length, by simp, Nat.zero_le _, Ex.rf.up hD, by rw [upd_same, List.take_zero]⟩, ?_⟩
  rintro i m H ⟨rfl, hi, ex, hl⟩
  have qx := Evl.ex_t ex hx
  have qy := Evl.ex_t ex hy
  by_cases hlt : i < zs.length
  · have e : zs[i]? = some zs[i] := List.getElem?_eq_getElem hlt
    have e1 : (zs.map Prod.fst)[i]? = some zs[i].1 := by rw [List.getElem?_map, e]; rfl
    have e2 : (zs.map Prod.snd)[i]? = some zs[i].2 := by rw [List.getElem?_map, e]; rfl
    have em : (zs.map f)[i]? = some (f zs[i]) := by rw [List.getElem?_map, e]; rfl
    refine .inr ⟨⟨_, _, _, _, qx, qy, e1, e2⟩, fun H' => Ex H1 H' ∧ H' Dd = some (.lst ((zs.map f).take (i + 1))), fun H' p' => ⟨zs.length - (i + 1), by omega, rfl, hlt, p'⟩, ?_⟩
    rintro x H2 ⟨T, y, z, rfl, hT, rfl, h1, h2⟩
    have f1 := h1 _ qx
    have f2 := h2 _ qy
    rw [e1] at f1
    rw [e2] at f2
    cases f1
    cases f2
    have q := hs zs[i] (List.getElem_mem hlt) T H (fun y H4 => ∃ acc, H4 Dd = some (.lst acc) ∧ acc.length < sizeLine ∧ (Ex H1 (upd H4 Dd (.lst (acc ++ [y]))) ∧ (upd H4 Dd (.lst (acc ++ [y]))) Dd = some (.lst ((zs.map f).take (i + 1))))) ex hT ?_
    · exact q
    · intro H4 e4
      refine ⟨(zs.map f).take i, e4 _ _ hl, ?_, (ex.trans e4).up2 hD, ?_⟩
      · rw [List.length_take, List.length_map]
        exact Nat.lt_of_lt_of_le (by omega : min i zs.length < 1001) (by decide)
      · rw [upd_same, List.take_add_one, em]
        rfl
  · have e : i = zs.length := by omega
    subst e
    refine .inl ⟨⟨_, _, qx, qy, .inl (by rw [List.length_map]; exact Nat.le_refl _)⟩, hd _ ex ?_⟩
    rw [hl, List.take_of_length_le (by rw [List.length_map]; exact Nat.le_refl _)]
theorem lcz (hx : SqT K H a (zs.map Prod.fst)) (hy : SqT K H b (zs.map Prod.snd)) {P : Hp → It → Addr → Prop} (h : ∀ D, H D = none → P H (RZ.ItzT K a b) D) :
    ∃ a' b' xs ys, [V.ref a, V.ref b] = [.ref a', .ref b'] ∧ ((SqL K H a' xs ∧ SqL K H b' ys ∧ ∀ D, H D = none → P H (Itz K a' b') D) ∨ (SqT K H a' xs ∧ SqT K H b' ys ∧ ∀ D, H D = none → P H (RZ.ItzT K a' b') D)) :=
  ⟨a, b, _, _, rfl, .inr ⟨hx, hy, h⟩⟩
end
section
variable {K : PySem.W.Frag} {H H1 : Hp} {Q : VK} {σ : L2.St} {a b p : Addr} {xs ys : List V} {v u x : V} {g : TG} {te : TE} {Dd : Addr} {vs : List Nat} {Qd : Hp → Prop}
theorem r_eqSame {d : PyData} (hd : Dp K H v d) (he : Dp K H u d) (sd : SeqAt.shaped d = true) (h : Q (.bl true) H) : uEq K v u H Q := by
  refine r_eqD hd he sd sd ?_
  rw [SeqAt.eqv_refl _ (SeqAt.canLay_of_shaped sd)]
  exact h
theorem r_cat (ha : H a = some (.lst xs)) (hb : H b = some (.lst ys)) (hz : xs.length + ys.length ≤ 10000) (h : ∀ p, H p = none → Q (.ref p) (upd H p (.lst (xs ++ ys)))) : uAdd K (.ref a) (.ref b) H Q :=
  .inr (.inr (.inl ⟨a, b, xs, ys, rfl, rfl, ha, hb, Nat.le_trans hz (by decide), h⟩))
theorem r_gLst {n : Nat} {ts : TGs} {QG : L2.St → Hp → Prop} (hs : SqL K H a xs) (hl : xs.length = n) (h : ts xs σ H QG) : gLst K n ts (.ref a) σ H QG := ⟨a, xs, rfl, hs, hl, h⟩
theorem r_indexS {ks : List Str} {k : Str} {j : Nat} (hs : SqL K H a (ks.map V.str)) (sl : SeqAt.shaped (.list (ks.map PyData.str)) = true) (sd : SeqAt.shaped (.str k) = true) (hj : ks[j]? = some k) (hno : ∀ (m : Nat) (z : Str), m < j → ks[m]? = some z → (z == k) = false) (h : Q (.int (j : Nat)) H) : rIndexD K (.ref a) [.str k] H Q := by
  have al : ∀ l : List Str, DpAll K H (l.map V.str) (l.map PyData.str) := fun l => by
    induction l with
    | nil => exact .nil
    | cons x l ih => exact .cons (.str x) ih
  refine ⟨a, .str k, .str k, ks.map PyData.str, j, .str k, rfl, rfl, .lst hs (al ks), .str k, sl, sd, by rw [List.getElem?_map, hj]; rfl, ?_, ?_, h⟩
  · simp only [PyData.eqv, beq_self_eq_true]
  · intro m z' hm hz
    rw [List.getElem?_map] at hz
    cases e : ks[m]? with
    | none => rw [e] at hz; cases hz
    | some z =>
      rw [e] at hz
      cases hz
      simp only [PyData.eqv]
      exact hno m z hm e
/-- [te for x in a list] where each turn tells f of the item -/
theorem lc_lstT (σ0 : L2.St) (hw : wipe σ vs = σ0) (f : V → V) (hD : H1 Dd = none) (hz : xs.length ≤ 1000) (hx : SqL K H1 a xs)
    (hs : ∀ z, z ∈ xs → ∀ H (Qy : VK), Ex H1 H → (∀ H4, Ex H H4 → Qy (f z) H4) → g z σ0 H fun σ2 H2 => wipe σ2 vs = σ0 ∧ te σ2 H2 Qy)
    (hd : ∀ H, Ex H1 H → H Dd = some (.lst (xs.map f)) → Qd H) :
    ∃ W : Nat → Nat → Hp → Prop, (∃ m, W 0 m (upd H1 Dd (.lst []))) ∧ ∀ i m H, W i m H →
      ((Itl K a).stop i H ∧ Qd H) ∨ ((Itl K a).go i H ∧ ∃ Nx : Hp → Prop, (∀ H', Nx H' → ∃ m', m' < m ∧ W (i + 1) m' H') ∧ ∀ x H', (Itl K a).yld i H x H' → g x (wipe σ vs) H' fun σ2 H2 => wipe σ2 vs = wipe σ vs ∧ tYes σ2 H2 fun b H3 =>
        if b = true then te σ2 H3 fun y H4 => ∃ acc, H4 Dd = some (.lst acc) ∧ acc.length < sizeLine ∧ Nx (upd H4 Dd (.lst (acc ++ [y]))) else Nx H3) := by
  subst hw
  refine ⟨fun i m H => m = xs.length - i ∧ i ≤ xs.length ∧ Ex H1 H ∧ H Dd = some (.lst ((xs.map f).take i)), ⟨xs.length, by simp, Nat.zero_le _, Ex.rf.up hD, by rw [upd_same, List.take_zero]⟩, ?_⟩
  rintro i m H ⟨rfl, hi, ex, hl⟩
  have qx := Evl.ex_l ex hx
  by_cases hlt : i < xs.length
  · have e : xs[i]? = some xs[i] := List.getElem?_eq_getElem hlt
    have em : (xs.map f)[i]? = some (f xs[i]) := by rw [List.getElem?_map, e]; rfl
    refine .inr ⟨⟨_, _, qx, e⟩, fun H' => Ex H1 H' ∧ H' Dd = some (.lst ((xs.map f).take (i + 1))), fun H' p' => ⟨xs.length - (i + 1), by omega, rfl, hlt, p'⟩, ?_⟩
    rintro x H2 ⟨rfl, h1⟩
    have f1 := h1 _ qx
    rw [e] at f1
    cases f1
    have q := hs xs[i] (List.getElem_mem hlt) H2 (fun y H4 => ∃ acc, H4 Dd = some (.lst acc) ∧ acc.length < sizeLine ∧ (Ex H1 (upd H4 Dd (.lst (acc ++ [y]))) ∧ (upd H4 Dd (.lst (acc ++ [y]))) Dd = some (.lst ((xs.map f).take (i + 1))))) ex ?_
    · exact q
    · intro H4 e4
      refine ⟨(xs.map f).take i, e4 _ _ hl, ?_, (ex.trans e4).up2 hD, ?_⟩
      · rw [List.length_take, List.length_map]
        exact Nat.lt_of_lt_of_le (by omega : min i xs.length < 1001) (by decide)
      · rw [upd_same, List.take_add_one, em]
        rfl
  · have e : i = xs.length := by omega
    subst e
    refine .inl ⟨⟨_, qx, Nat.le_refl _⟩, hd _ ex ?_⟩
    rw [hl, List.take_of_length_le (by rw [List.length_map]; exact Nat.le_refl _)]
end
end Fk
namespace Fk
/-! ## bits: sums without carrying, linear maps -/
theorem or_xor_and (x y : Nat) : x ||| y = (x ^^^ y) + (x &&& y) := by
  induction x using Nat.strongRecOn generalizing y with
  | ind x ih =>
    by_cases hx : x = 0
    · subst hx; simp
    · have i := ih (x / 2) (by omega) (y / 2)
      have h1 := @Nat.or_div_two x y
      have h2 := @Nat.xor_div_two x y
      have h3 := @Nat.and_div_two x y
      have m1 := @Nat.or_mod_two_eq_one x y
      have m2 := @Nat.xor_mod_two_eq_one x y
      have m3 := @Nat.and_mod_two_eq_one x y
      omega
theorem add_xor {a b : Nat} (h : a &&& b = 0) : a + b = a ^^^ b := by
  have h1 : ∀ x y : Nat, x + y = (x ^^^ y) + 2 * (x &&& y) := by
    intro x
    induction x using Nat.strongRecOn with
    | ind x ih =>
      intro y
      by_cases hx : x = 0
      · subst hx; simp
      · have i := ih (x / 2) (by omega) (y / 2)
        have h2 := @Nat.xor_div_two x y
        have h3 := @Nat.and_div_two x y
        have m2 := @Nat.xor_mod_two_eq_one x y
        have m3 := @Nat.and_mod_two_eq_one x y
        omega
  have := h1 a b
  omega
theorem and_shl {a : Nat} {k : Nat} (c : Nat) (h : a < 2 ^ k) : a &&& (c <<< k) = 0 := by
  apply Nat.eq_of_testBit_eq
  intro i
  rw [Nat.testBit_and, Nat.zero_testBit, Nat.testBit_shiftLeft]
  by_cases hi : k ≤ i
  · have : a.testBit i = false := Nat.testBit_lt_two_pow (Nat.lt_of_lt_of_le h (Nat.pow_le_pow_right (by omega) hi))
    simp [this]
  · simp [hi]
theorem add_shl {a : Nat} {k : Nat} (c : Nat) (h : a < 2 ^ k) : a + c <<< k = a ^^^ (c <<< k) := add_xor (and_shl c h)
theorem xor_cancel (a b : Nat) : a ^^^ b ^^^ b = a := by rw [Nat.xor_assoc, Nat.xor_self, Nat.xor_zero]
theorem xor_ne {a b : Nat} (h : a ≠ b) : a ^^^ b ≠ 0 := fun e => h (by
  have := xor_cancel a b
  rw [e, Nat.zero_xor] at this
  exact this.symm)

/-- a map that goes with sums without carrying -/
def Lin (f : Nat → Nat) : Prop := ∀ a b, f (a ^^^ b) = f a ^^^ f b
theorem Lin.zero {f : Nat → Nat} (h : Lin f) : f 0 = 0 := by
  have := h 0 0
  rw [Nat.xor_self, Nat.xor_self] at this
  exact this
theorem Lin.id : Lin fun a => a := fun _ _ => rfl
theorem Lin.const0 : Lin fun _ => 0 := fun _ _ => (Nat.xor_self 0).symm
theorem Lin.comp {f g : Nat → Nat} (hf : Lin f) (hg : Lin g) : Lin fun a => f (g a) := fun a b => by
  show f (g (a ^^^ b)) = _
  rw [hg, hf]
theorem xor4 (a b c d : Nat) : (a ^^^ b) ^^^ (c ^^^ d) = (a ^^^ c) ^^^ (b ^^^ d) := by
  rw [Nat.xor_assoc, Nat.xor_assoc, ← Nat.xor_assoc b c d, Nat.xor_comm b c, Nat.xor_assoc c b d]
theorem Lin.xor {f g : Nat → Nat} (hf : Lin f) (hg : Lin g) : Lin fun a => f a ^^^ g a := fun a b => by
  show f (a ^^^ b) ^^^ g (a ^^^ b) = _
  rw [hf, hg, xor4]
theorem Lin.shr (k : Nat) {f : Nat → Nat} (hf : Lin f) : Lin fun a => f a >>> k := fun a b => by
  show f (a ^^^ b) >>> k = _
  rw [hf, Nat.shiftRight_xor_distrib]
theorem Lin.shl (k : Nat) {f : Nat → Nat} (hf : Lin f) : Lin fun a => f a <<< k := fun a b => by
  show f (a ^^^ b) <<< k = _
  rw [hf, Nat.shiftLeft_xor_distrib]
theorem Lin.and (m : Nat) {f : Nat → Nat} (hf : Lin f) : Lin fun a => f a &&& m := fun a b => by
  show f (a ^^^ b) &&& m = _
  rw [hf, Nat.and_xor_distrib_right]
theorem Lin.mod (k : Nat) {f : Nat → Nat} (hf : Lin f) : Lin fun a => f a % 2 ^ k := fun a b => by
  show f (a ^^^ b) % 2 ^ k = _
  rw [hf, Nat.xor_mod_two_pow]
theorem split_top {n w : Nat} (h : n < 2 ^ (w + 1)) : ∃ m, m < 2 ^ w ∧ (n = m ∨ n = m ^^^ 2 ^ w) := by
  by_cases hn : n < 2 ^ w
  · exact ⟨n, hn, .inl rfl⟩
  · have e : 2 ^ (w + 1) = 2 * 2 ^ w := by rw [Nat.pow_succ]; omega
    refine ⟨n - 2 ^ w, by omega, .inr ?_⟩
    have hm : n - 2 ^ w < 2 ^ w := by omega
    have q := add_shl (k := w) 1 hm
    rw [Nat.one_shiftLeft] at q
    omega
theorem lin_ext {f g : Nat → Nat} (hf : Lin f) (hg : Lin g) : ∀ w, (∀ k, k < w → f (2 ^ k) = g (2 ^ k)) → ∀ n, n < 2 ^ w → f n = g n
  | 0, _, n, h => by
    have : n = 0 := by simpa using h
    rw [this, hf.zero, hg.zero]
  | w + 1, hb, n, h => by
    obtain ⟨m, hm, e⟩ := split_top h
    have i := lin_ext hf hg w (fun k hk => hb k (by omega)) m hm
    rcases e with e | e
    · rw [e, i]
    · rw [e, hf, hg, i, hb w (by omega)]
theorem lin_lt {f : Nat → Nat} {t : Nat} (hf : Lin f) : ∀ w, (∀ k, k < w → f (2 ^ k) < 2 ^ t) → ∀ n, n < 2 ^ w → f n < 2 ^ t
  | 0, _, n, h => by
    have : n = 0 := by simpa using h
    rw [this, hf.zero]
    exact Nat.two_pow_pos t
  | w + 1, hb, n, h => by
    obtain ⟨m, hm, e⟩ := split_top h
    have i := lin_lt hf w (fun k hk => hb k (by omega)) m hm
    rcases e with e | e
    · rw [e]; exact i
    · rw [e, hf]
      exact Nat.xor_lt_two_pow i (hb w (by omega))

/-! ## the program's words -/
/-- is_odd's word behind its folds -/
def foldX (w : Nat) : Nat :=
  let a := w ^^^ w >>> 32
  let b := a ^^^ a >>> 16
  let c := b ^^^ b >>> 8
  let d := c ^^^ c >>> 4
  let e := d ^^^ d >>> 2
  e ^^^ e >>> 1
def parN (w : Nat) : Nat := foldX w % 2
theorem lin_step (s : Nat) : Lin fun w => w ^^^ w >>> s := Lin.id.xor (Lin.id.shr s)
theorem lin_par : Lin parN := by
  have h : Lin foldX := (lin_step 1).comp ((lin_step 2).comp ((lin_step 4).comp ((lin_step 8).comp ((lin_step 16).comp (lin_step 32)))))
  exact fun a b => (h.mod 1) a b
theorem par_lt (w : Nat) : parN w < 2 := Nat.mod_lt _ (by omega)
def masks : List Nat := [12297829382473034410, 14757395258967641292, 17361641481138401520, 18374966859414961920, 18446462603027742720, 18446744069414584320]
/-- wrong_of -/
def wrongN (w : Nat) : Nat := parN (w &&& 12297829382473034410) + (parN (w &&& 14757395258967641292) * 2 + (parN (w &&& 17361641481138401520) * 4 +
  (parN (w &&& 18374966859414961920) * 8 + (parN (w &&& 18446462603027742720) * 16 + (parN (w &&& 18446744069414584320) * 32 + 0)))))
def wrongX (w : Nat) : Nat := parN (w &&& 12297829382473034410) <<< 0 ^^^ (parN (w &&& 14757395258967641292) <<< 1 ^^^ (parN (w &&& 17361641481138401520) <<< 2 ^^^
  (parN (w &&& 18374966859414961920) <<< 3 ^^^ (parN (w &&& 18446462603027742720) <<< 4 ^^^ parN (w &&& 18446744069414584320) <<< 5))))
theorem six (a b c d e f : Nat) (ha : a < 2) (hb : b < 2) (hc : c < 2) (hd : d < 2) (he : e < 2) (hf : f < 2) :
    a + (b * 2 + (c * 4 + (d * 8 + (e * 16 + (f * 32 + 0))))) = a <<< 0 ^^^ (b <<< 1 ^^^ (c <<< 2 ^^^ (d <<< 3 ^^^ (e <<< 4 ^^^ f <<< 5)))) := by
  have z : ∀ x, x < 2 → x = 0 ∨ x = 1 := fun x h => by omega
  rcases z a ha with rfl | rfl <;> rcases z b hb with rfl | rfl <;> rcases z c hc with rfl | rfl <;> rcases z d hd with rfl | rfl <;> rcases z e he with rfl | rfl <;> rcases z f hf with rfl | rfl <;> rfl
theorem wrong_eq (w : Nat) : wrongN w = wrongX w := six _ _ _ _ _ _ (par_lt _) (par_lt _) (par_lt _) (par_lt _) (par_lt _) (par_lt _)
theorem lin_parM (m k : Nat) : Lin fun w => parN (w &&& m) <<< k := (lin_par.comp (Lin.id.and m)).shl k
theorem lin_wrong : Lin wrongN := by
  have h : Lin wrongX := (lin_parM _ _).xor ((lin_parM _ _).xor ((lin_parM _ _).xor ((lin_parM _ _).xor ((lin_parM _ _).xor (lin_parM _ _)))))
  exact fun a b => by rw [wrong_eq, wrong_eq, wrong_eq]; exact h a b
theorem wrong_lt (w : Nat) : wrongN w < 64 := by
  have h1 := par_lt (w &&& 12297829382473034410)
  have h2 := par_lt (w &&& 14757395258967641292)
  have h3 := par_lt (w &&& 17361641481138401520)
  have h4 := par_lt (w &&& 18374966859414961920)
  have h5 := par_lt (w &&& 18446462603027742720)
  have h6 := par_lt (w &&& 18446744069414584320)
  unfold wrongN
  omega
theorem basis : ∀ i, i < 64 → wrongN (2 ^ i) = i ∧ parN (2 ^ i) = 1 := by decide +kernel

/-- checks_for -/
def chkGo (w : Nat) : Nat → Nat → Nat
  | 0, f => f
  | n + 1, f => if 2 ^ f < w + f + 1 then chkGo w n (f + 1) else f
def chk (w : Nat) : Nat := chkGo w 10 0
/-- runs_of: (first, many) -/
def runsGo : Nat → Nat → Nat → List (Nat × Nat)
  | 0, _, _ => []
  | n + 1, left, check => if 0 < left then (check + 1, min (check - 1) left) :: runsGo n (left - min (check - 1) left) (2 * check) else []
def runs (w : Nat) : List (Nat × Nat) := runsGo 8 w 2
/-- the number's bits laid between the checks, as the program adds, and without carrying -/
def layS : List (Nat × Nat) → Nat → Nat → Nat
  | [], a, _ => a
  | (f, m) :: r, a, n => layS r (a + (n % 2 ^ m) * 2 ^ f) (n / 2 ^ m)
def layX : List (Nat × Nat) → Nat → Nat → Nat
  | [], a, _ => a
  | (f, m) :: r, a, n => layX r (a ^^^ (n % 2 ^ m) <<< f) (n >>> m)
def okR : Nat → List (Nat × Nat) → Bool
  | _, [] => true
  | b, (f, m) :: r => decide (b ≤ f) && okR (f + m) r
theorem mod_shl_lt {n m f b : Nat} (h : b = f + m) : (n % 2 ^ m) <<< f < 2 ^ b := by
  subst h
  rw [Nat.shiftLeft_eq, Nat.pow_add, Nat.mul_comm (2 ^ f)]
  exact Nat.mul_lt_mul_of_pos_right (Nat.mod_lt _ (Nat.two_pow_pos m)) (Nat.two_pow_pos f)
theorem lay_eq : ∀ (r : List (Nat × Nat)) (b a n : Nat), okR b r = true → a < 2 ^ b → layS r a n = layX r a n
  | [], _, _, _, _, _ => rfl
  | (f, m) :: r, b, a, n, ok, ha => by
    simp only [okR, Bool.and_eq_true, decide_eq_true_eq] at ok
    have haf : a < 2 ^ f := Nat.lt_of_lt_of_le ha (Nat.pow_le_pow_right (by omega) ok.1)
    have e : a + (n % 2 ^ m) * 2 ^ f = a ^^^ (n % 2 ^ m) <<< f := by rw [← Nat.shiftLeft_eq, add_shl _ haf]
    show layS r (a + (n % 2 ^ m) * 2 ^ f) (n / 2 ^ m) = layX r (a ^^^ (n % 2 ^ m) <<< f) (n >>> m)
    rw [e, Nat.shiftRight_eq_div_pow]
    refine lay_eq r (f + m) _ _ ok.2 (Nat.xor_lt_two_pow ?_ (mod_shl_lt rfl))
    exact Nat.lt_of_lt_of_le haf (Nat.pow_le_pow_right (by omega) (by omega))
theorem lay_two : ∀ (r : List (Nat × Nat)) (a b n m : Nat), layX r (a ^^^ b) (n ^^^ m) = layX r a n ^^^ layX r b m
  | [], _, _, _, _ => rfl
  | (f, k) :: r, a, b, n, m => by
    show layX r ((a ^^^ b) ^^^ ((n ^^^ m) % 2 ^ k) <<< f) ((n ^^^ m) >>> k) = _
    rw [Nat.xor_mod_two_pow, Nat.shiftLeft_xor_distrib, Nat.shiftRight_xor_distrib, xor4, lay_two r]
    rfl
theorem lin_lay (r : List (Nat × Nat)) : Lin (layX r 0) := fun a b => by
  have := lay_two r 0 0 a b
  rw [Nat.xor_self] at this
  exact this
/-- the checks put in -/
def putS : Nat → Nat → Nat → Nat → Nat
  | 0, _, a, _ => a
  | n + 1, c, a, x => putS n (c + 1) (a + (x / 2 ^ c % 2) * 2 ^ (2 ^ c)) x
def putX : Nat → Nat → Nat → Nat
  | 0, _, _ => 0
  | n + 1, c, x => ((x >>> c) % 2 ^ 1) <<< (2 ^ c) ^^^ putX n (c + 1) x
theorem lin_put : ∀ n c, Lin (putX n c)
  | 0, _ => Lin.const0
  | n + 1, c => (((Lin.id.shr c).mod 1).shl (2 ^ c)).xor (lin_put n (c + 1))
theorem bit_shl {x k i : Nat} (h : i ≠ k) : ((x % 2 ^ 1) <<< k).testBit i = false := by
  rw [Nat.testBit_shiftLeft]
  by_cases hi : k ≤ i
  · have e : i - k ≠ 0 := by omega
    have : (x % 2 ^ 1).testBit (i - k) = false := by
      refine Nat.testBit_lt_two_pow (Nat.lt_of_lt_of_le (Nat.mod_lt _ (by decide)) ?_)
      exact Nat.pow_le_pow_right (by omega) (by omega)
    simp [this]
  · simp [hi]
theorem put_eq : ∀ (n c a x : Nat), (∀ i, c ≤ i → i < c + n → a.testBit (2 ^ i) = false) → putS n c a x = a ^^^ putX n c x
  | 0, _, a, _, _ => (Nat.xor_zero a).symm
  | n + 1, c, a, x, h => by
    have e : a + (x / 2 ^ c % 2) * 2 ^ (2 ^ c) = a ^^^ ((x >>> c) % 2 ^ 1) <<< (2 ^ c) := by
      rw [← Nat.shiftLeft_eq, Nat.shiftRight_eq_div_pow, Nat.pow_one]
      refine add_xor (Nat.eq_of_testBit_eq fun i => ?_)
      rw [Nat.testBit_and, Nat.zero_testBit]
      by_cases hi : i = 2 ^ c
      · rw [hi, h c (by omega) (by omega), Bool.false_and]
      · have := bit_shl (x := x / 2 ^ c) (k := 2 ^ c) (i := i) hi
        rw [Nat.pow_one] at this
        rw [this, Bool.and_false]
    show putS n (c + 1) (a + (x / 2 ^ c % 2) * 2 ^ (2 ^ c)) x = a ^^^ (((x >>> c) % 2 ^ 1) <<< (2 ^ c) ^^^ putX n (c + 1) x)
    rw [e, put_eq n (c + 1) _ x, Nat.xor_assoc]
    intro i h1 h2
    rw [Nat.testBit_xor, h i (by omega) (by omega), bit_shl]
    · rfl
    · intro q
      have := Nat.pow_lt_pow_right (a := 2) (by omega) (show c < i by omega)
      omega
/-- seal_by -/
def sealS (n w : Nat) : Nat :=
  let a := layS (runs w) 0 n
  let b := putS (chk w) 0 a (wrongN a)
  b + parN b
def sealX (w n : Nat) : Nat :=
  let a := layX (runs w) 0 n
  let b := a ^^^ putX (chk w) 0 (wrongN a)
  b ^^^ parN b
theorem lin_seal (w : Nat) : Lin (sealX w) := by
  have h : Lin fun n => layX (runs w) 0 n ^^^ putX (chk w) 0 (wrongN (layX (runs w) 0 n)) := (lin_lay _).xor (((lin_put _ _).comp lin_wrong).comp (lin_lay _))
  exact h.xor (lin_par.comp h)
/-- number_in -/
def numS : List (Nat × Nat) → Nat → Nat → Nat → Nat
  | [], a, _, _ => a
  | (f, m) :: r, a, p, w => numS r (a + (w / 2 ^ f % 2 ^ m) * 2 ^ p) (p + m) w
def numX : List (Nat × Nat) → Nat → Nat → Nat
  | [], _, _ => 0
  | (f, m) :: r, p, w => ((w >>> f) % 2 ^ m) <<< p ^^^ numX r (p + m) w
theorem lin_num : ∀ r p, Lin (numX r p)
  | [], _ => Lin.const0
  | (f, m) :: r, p => (((Lin.id.shr f).mod m).shl p).xor (lin_num r (p + m))
theorem num_eq : ∀ (r : List (Nat × Nat)) (a p w : Nat), a < 2 ^ p → numS r a p w = a ^^^ numX r p w
  | [], a, _, _, _ => (Nat.xor_zero a).symm
  | (f, m) :: r, a, p, w, h => by
    have e : a + (w / 2 ^ f % 2 ^ m) * 2 ^ p = a ^^^ ((w >>> f) % 2 ^ m) <<< p := by rw [← Nat.shiftLeft_eq, Nat.shiftRight_eq_div_pow, add_shl _ h]
    show numS r (a + (w / 2 ^ f % 2 ^ m) * 2 ^ p) (p + m) w = a ^^^ (((w >>> f) % 2 ^ m) <<< p ^^^ numX r (p + m) w)
    rw [e, num_eq r _ (p + m) w, Nat.xor_assoc]
    exact Nat.xor_lt_two_pow (Nat.lt_of_lt_of_le h (Nat.pow_le_pow_right (by omega) (by omega))) (mod_shl_lt (by omega))
def numN (word w : Nat) : Nat := numS (runs w) 0 0 word
def numL (w word : Nat) : Nat := numX (runs w) 0 word
theorem numN_eq (word w : Nat) : numN word w = numL w word := by
  unfold numN numL
  rw [num_eq _ _ _ _ (by decide), Nat.zero_xor]
/-! ### what holds of every width, looked at number by number at the powers of two -/
def checkMask (w : Nat) : Nat := (List.range (chk w)).foldl (fun m c => m + 2 ^ (2 ^ c)) 0
def preX (w n : Nat) : Nat := layX (runs w) 0 n ^^^ putX (chk w) 0 (wrongN (layX (runs w) 0 n))
theorem lin_pre (w : Nat) : Lin (preX w) := (lin_lay _).xor (((lin_put _ _).comp lin_wrong).comp (lin_lay _))
def lookB (w : Nat) : Bool := okR 0 (runs w) && (decide (chk w ≤ 6) && (decide (w + chk w < 64) && (((List.range (chk w)).all fun i => (checkMask w).testBit (2 ^ i)) && ((List.range w).all fun k =>
    decide (layX (runs w) 0 (2 ^ k) &&& checkMask w = 0) && (decide (preX w (2 ^ k) &&& 1 = 0) && (decide (sealX w (2 ^ k) < 2 ^ (w + chk w + 1)) && (decide (wrongN (sealX w (2 ^ k)) = 0) &&
      (decide (parN (sealX w (2 ^ k)) = 0) && decide (numL w (sealX w (2 ^ k)) = 2 ^ k)))))))))
theorem lookB_all : ((List.range 58).all fun w => w == 0 || lookB w) = true := by decide +kernel
theorem look (w : Nat) (hw : w < 58) (h1 : 1 ≤ w) : okR 0 (runs w) = true ∧ chk w ≤ 6 ∧ w + chk w < 64 ∧ (∀ i, i < chk w → (checkMask w).testBit (2 ^ i) = true) ∧ ∀ k, k < w →
    layX (runs w) 0 (2 ^ k) &&& checkMask w = 0 ∧ preX w (2 ^ k) &&& 1 = 0 ∧ sealX w (2 ^ k) < 2 ^ (w + chk w + 1) ∧ wrongN (sealX w (2 ^ k)) = 0 ∧ parN (sealX w (2 ^ k)) = 0 ∧ numL w (sealX w (2 ^ k)) = 2 ^ k := by
  have h := List.all_eq_true.mp lookB_all w (List.mem_range.mpr hw)
  have h0 : (w == 0) = false := by simp; omega
  rw [h0, Bool.false_or] at h
  simp only [lookB, Bool.and_eq_true, decide_eq_true_eq, List.all_eq_true, List.mem_range] at h
  exact h
section
variable {w n : Nat} (h1 : 1 ≤ w) (h2 : w ≤ 57) (hn : n < 2 ^ w)
include h1 h2 hn
theorem lay_mask : layX (runs w) 0 n &&& checkMask w = 0 :=
  lin_ext ((lin_lay _).and (checkMask w)) Lin.const0 w (fun k hk => ((look w (by omega) h1).2.2.2.2 k hk).1) n hn
theorem seal_eq : sealS n w = sealX w n := by
  obtain ⟨ok, _, _, hm, hk⟩ := look w (by omega) h1
  unfold sealS sealX
  have e1 : layS (runs w) 0 n = layX (runs w) 0 n := lay_eq _ 0 0 n ok (by decide)
  have e2 : putS (chk w) 0 (layX (runs w) 0 n) (wrongN (layX (runs w) 0 n)) = preX w n := by
    refine put_eq _ _ _ _ fun i _ hi => ?_
    have q := congrArg (fun z : Nat => z.testBit (2 ^ i)) (lay_mask h1 h2 hn)
    simp only [Nat.testBit_and, Nat.zero_testBit, hm i (by omega), Bool.and_true] at q
    exact q
  have e3 : preX w n &&& 1 = 0 := lin_ext ((lin_pre w).and 1) Lin.const0 w (fun k h => (hk k h).2.1) n hn
  have e4 : preX w n &&& parN (preX w n) = 0 := by
    have z := par_lt (preX w n)
    rcases (by omega : parN (preX w n) = 0 ∨ parN (preX w n) = 1) with z | z
    · rw [z, Nat.and_zero]
    · rw [z, e3]
  simp only [e1, e2]
  exact add_xor e4
theorem seal_lt : sealX w n < 2 ^ (w + chk w + 1) := lin_lt (lin_seal w) w (fun k hk => ((look w (by omega) h1).2.2.2.2 k hk).2.2.1) n hn
theorem seal_wrong : wrongN (sealX w n) = 0 := lin_ext (lin_wrong.comp (lin_seal w)) Lin.const0 w (fun k hk => ((look w (by omega) h1).2.2.2.2 k hk).2.2.2.1) n hn
theorem seal_par : parN (sealX w n) = 0 := lin_ext (lin_par.comp (lin_seal w)) Lin.const0 w (fun k hk => ((look w (by omega) h1).2.2.2.2 k hk).2.2.2.2.1) n hn
theorem seal_num : numL w (sealX w n) = n := lin_ext ((lin_num _ _).comp (lin_seal w)) Lin.id w (fun k hk => ((look w (by omega) h1).2.2.2.2 k hk).2.2.2.2.2) n hn
end
/-- opened_by -/
inductive Op | good (n : Nat) | mended (n b : Nat) | spoilt
  deriving DecidableEq
def openN (word w : Nat) : Op :=
  if wrongN word = 0 ∧ parN word = 0 then .good (numN word w) else if parN word = 0 ∨ w + chk w < wrongN word then .spoilt else .mended (numN (word ^^^ 2 ^ wrongN word) w) (wrongN word)
section
variable {w n : Nat} (h1 : 1 ≤ w) (h2 : w ≤ 57) (hn : n < 2 ^ w)
include h1 h2 hn
theorem open_good : openN (sealX w n) w = .good n := by
  unfold openN
  rw [if_pos ⟨seal_wrong h1 h2 hn, seal_par h1 h2 hn⟩, numN_eq, seal_num h1 h2 hn]
theorem open_mended {b : Nat} (hb : b ≤ w + chk w) : openN (sealX w n ^^^ 2 ^ b) w = .mended n b := by
  have h64 := (look w (by omega) h1).2.2.1
  obtain ⟨bw, bp⟩ := basis b (by omega)
  have e1 : wrongN (sealX w n ^^^ 2 ^ b) = b := by rw [lin_wrong, seal_wrong h1 h2 hn, bw, Nat.zero_xor]
  have e2 : parN (sealX w n ^^^ 2 ^ b) = 1 := by rw [lin_par, seal_par h1 h2 hn, bp]; rfl
  unfold openN
  rw [e1, e2, if_neg (by omega), if_neg (by omega), xor_cancel, numN_eq, seal_num h1 h2 hn]
theorem open_spoilt {b c : Nat} (hb : b ≤ w + chk w) (hc : c ≤ w + chk w) (hbc : b ≠ c) : openN (sealX w n ^^^ 2 ^ b ^^^ 2 ^ c) w = .spoilt := by
  have h64 := (look w (by omega) h1).2.2.1
  obtain ⟨bw, bp⟩ := basis b (by omega)
  obtain ⟨cw, cp⟩ := basis c (by omega)
  have e1 : wrongN (sealX w n ^^^ 2 ^ b ^^^ 2 ^ c) = b ^^^ c := by rw [lin_wrong, lin_wrong, seal_wrong h1 h2 hn, bw, cw, Nat.zero_xor]
  have e2 : parN (sealX w n ^^^ 2 ^ b ^^^ 2 ^ c) = 0 := by rw [lin_par, lin_par, seal_par h1 h2 hn, bp, cp]; rfl
  unfold openN
  rw [e1, e2, if_neg (fun z => xor_ne hbc z.1), if_pos (.inl rfl)]
end
/-! ### how many bits are 1 -/
def cnt (n : Nat) : Nat := if h : n = 0 then 0 else n % 2 + cnt (n / 2)
decreasing_by omega
theorem cnt_zero : cnt 0 = 0 := by unfold cnt; rfl
theorem cnt_step (n : Nat) : cnt n = n % 2 + cnt (n / 2) := by
  by_cases h : n = 0
  · subst h
    rw [Nat.zero_div, Nat.zero_mod, cnt_zero]
  · conv => lhs; unfold cnt
    rw [dif_neg h]
theorem cnt_eq0 : ∀ n, cnt n = 0 → n = 0 := by
  intro n
  induction n using Nat.strongRecOn with
  | ind n ih =>
    intro h
    by_cases hn : n = 0
    · exact hn
    · have e := cnt_step n
      have := ih (n / 2) (by omega) (by omega)
      omega
theorem pow_half (i : Nat) : 2 * 2 ^ i = 2 ^ (i + 1) := by rw [Nat.pow_succ]; omega
theorem dbl_xor (a b : Nat) : 2 * (a ^^^ b) = (2 * a) ^^^ (2 * b) := by
  have h := @Nat.shiftLeft_xor_distrib 1 a b
  rw [Nat.shiftLeft_eq, Nat.shiftLeft_eq, Nat.shiftLeft_eq, Nat.pow_one] at h
  rw [Nat.mul_comm 2 a, Nat.mul_comm 2 b, ← h, Nat.mul_comm]
theorem cnt_eq1 : ∀ n, cnt n = 1 → ∃ i, n = 2 ^ i := by
  intro n
  induction n using Nat.strongRecOn with
  | ind n ih =>
    intro h
    have e := cnt_step n
    by_cases hn : n = 0
    · subst hn; rw [cnt_zero] at h; omega
    · by_cases hp : n % 2 = 1
      · have := cnt_eq0 (n / 2) (by omega)
        exact ⟨0, by omega⟩
      · obtain ⟨i, hi⟩ := ih (n / 2) (by omega) (by omega)
        exact ⟨i + 1, by rw [← pow_half]; omega⟩
theorem cnt_eq2 : ∀ n, cnt n = 2 → ∃ i j, i ≠ j ∧ n = 2 ^ i ^^^ 2 ^ j := by
  intro n
  induction n using Nat.strongRecOn with
  | ind n ih =>
    intro h
    have e := cnt_step n
    by_cases hn : n = 0
    · subst hn; rw [cnt_zero] at h; omega
    · by_cases hp : n % 2 = 1
      · obtain ⟨i, hi⟩ := cnt_eq1 (n / 2) (by omega)
        refine ⟨0, i + 1, by omega, ?_⟩
        rw [← pow_half]
        have q := add_shl (a := 1) (k := 1) (2 ^ i) (by decide)
        rw [Nat.shiftLeft_eq, Nat.pow_one, Nat.mul_comm] at q
        rw [Nat.pow_zero]
        omega
      · obtain ⟨i, j, hij, hi⟩ := ih (n / 2) (by omega) (by omega)
        refine ⟨i + 1, j + 1, by omega, ?_⟩
        rw [← pow_half, ← pow_half, ← dbl_xor, ← hi]
        omega
theorem cnt_par2 : ∀ a b, (cnt (a ^^^ b)) % 2 = (cnt a + cnt b) % 2 := by
  intro a
  induction a using Nat.strongRecOn with
  | ind a ih =>
    intro b
    by_cases ha : a = 0
    · subst ha; rw [Nat.zero_xor, cnt_zero]; omega
    · have i := ih (a / 2) (by omega) (b / 2)
      have e1 := cnt_step (a ^^^ b)
      have e2 := cnt_step a
      have e3 := cnt_step b
      rw [Nat.xor_div_two] at e1
      have m2 := @Nat.xor_mod_two_eq_one a b
      omega
theorem cnt_pow (k : Nat) : cnt (2 ^ k) = 1 := by
  induction k with
  | zero => rw [cnt_step]; simp [cnt_zero]
  | succ k ih =>
    rw [cnt_step, ← pow_half]
    have e : 2 * 2 ^ k / 2 = 2 ^ k := by omega
    rw [e, ih]
    omega
theorem par_cnt {n : Nat} (h : n < 2 ^ 64) : parN n = cnt n % 2 := by
  have hl : Lin fun a => cnt a % 2 := fun a b => by
    show cnt (a ^^^ b) % 2 = (cnt a % 2) ^^^ (cnt b % 2)
    rw [cnt_par2]
    rcases (by omega : cnt a % 2 = 0 ∨ cnt a % 2 = 1) with x | x <;> rcases (by omega : cnt b % 2 = 0 ∨ cnt b % 2 = 1) with y | y
    all_goals rw [x, y, Nat.add_mod, x, y]; rfl
  exact lin_ext lin_par hl 64 (fun k hk => by rw [(basis k hk).2, cnt_pow]) n h
theorem two_pow_le_xor {i j : Nat} (h : i ≠ j) : 2 ^ i ≤ 2 ^ i ^^^ 2 ^ j := by
  refine Nat.le_of_not_lt fun q => ?_
  have z := Nat.testBit_lt_two_pow q
  rw [Nat.testBit_xor, Nat.testBit_two_pow_self, Nat.testBit_two_pow_of_ne (Ne.symm h)] at z
  cases z
/-- a word that is not 0 and has nothing wrong has four bits at least -/
theorem cnt_four {a : Nat} (h : a < 2 ^ 64) (h0 : a ≠ 0) (hw : wrongN a = 0) (hp : parN a = 0) : 4 ≤ cnt a := by
  have e := par_cnt h
  have n0 : cnt a ≠ 0 := fun q => h0 (cnt_eq0 a q)
  have n2 : cnt a ≠ 2 := fun q => by
    obtain ⟨i, j, hij, ha⟩ := cnt_eq2 a q
    have hi : i < 64 := by
      have := two_pow_le_xor hij
      rw [← ha] at this
      exact (Nat.pow_lt_pow_iff_right (by omega)).mp (Nat.lt_of_le_of_lt this h)
    have hj : j < 64 := by
      have := two_pow_le_xor (Ne.symm hij)
      rw [Nat.xor_comm, ← ha] at this
      exact (Nat.pow_lt_pow_iff_right (by omega)).mp (Nat.lt_of_le_of_lt this h)
    rw [ha, lin_wrong, (basis i hi).1, (basis j hj).1] at hw
    exact xor_ne hij hw
  omega
theorem seal_four {w n m : Nat} (h1 : 1 ≤ w) (h2 : w ≤ 57) (hn : n < 2 ^ w) (hm : m < 2 ^ w) (hne : n ≠ m) : 4 ≤ cnt (sealX w n ^^^ sealX w m) := by
  rw [← lin_seal]
  have hx := Nat.xor_lt_two_pow hn hm
  have h64 := (look w (by omega) h1).2.2.1
  refine cnt_four (Nat.lt_of_lt_of_le (seal_lt h1 h2 hx) (Nat.pow_le_pow_right (by omega) (by omega))) ?_ (seal_wrong h1 h2 hx) (seal_par h1 h2 hx)
  intro z
  have q := seal_num h1 h2 hx
  rw [z] at q
  have q0 : numL w 0 = 0 := (lin_num _ _).zero
  rw [q0] at q
  exact xor_ne hne q.symm
/-- the last bit of a width's words -/
theorem seal_last : ∀ w, w < 58 → 1 ≤ w → 2 ^ (w + chk w) ≤ sealS (2 ^ w - 1) w ∧ sealS (2 ^ w - 1) w < 2 ^ (w + chk w + 1) := by decide +kernel
end Fk
namespace Fk
/-! ## the law's own words of seals -/
/-- the numbers of the bits that are 1, put together -/
def wr (n k : Nat) : Nat := if h : n = 0 then 0 else (if n % 2 = 1 then k else 0) ^^^ wr (n / 2) (k + 1)
termination_by n
decreasing_by omega
theorem wr_zero (k : Nat) : wr 0 k = 0 := by unfold wr; rfl
theorem wr_step (n k : Nat) : wr n k = (if n % 2 = 1 then k else 0) ^^^ wr (n / 2) (k + 1) := by
  by_cases h : n = 0
  · subst h
    rw [Nat.zero_div, wr_zero, wr_zero, Nat.xor_zero, if_neg (by decide)]
  · conv => lhs; unfold wr
    rw [dif_neg h]
theorem wr_lin : ∀ a b k, wr (a ^^^ b) k = wr a k ^^^ wr b k := by
  intro a
  induction a using Nat.strongRecOn with
  | ind a ih =>
    intro b k
    by_cases ha : a = 0
    · subst ha; rw [Nat.zero_xor, wr_zero, Nat.zero_xor]
    · have i := ih (a / 2) (by omega) (b / 2) (k + 1)
      rw [wr_step (a ^^^ b), wr_step a, wr_step b, Nat.xor_div_two, i, xor4]
      have m2 := @Nat.xor_mod_two_eq_one a b
      congr 1
      by_cases p : a % 2 = 1 <;> by_cases q : b % 2 = 1
      · rw [if_pos p, if_pos q, if_neg (by omega), Nat.xor_self]
      · rw [if_pos p, if_neg q, if_pos (by omega), Nat.xor_zero]
      · rw [if_neg p, if_pos q, if_pos (by omega), Nat.zero_xor]
      · rw [if_neg p, if_neg q, if_neg (by omega), Nat.xor_self]
theorem wr_pow : ∀ i k, wr (2 ^ i) k = k + i := by
  intro i
  induction i with
  | zero => intro k; rw [wr_step, Nat.pow_zero, if_pos rfl, show 1 / 2 = 0 from rfl, wr_zero, Nat.xor_zero]; rfl
  | succ i ih =>
    intro k
    rw [wr_step, ← pow_half, if_neg (by omega), show 2 * 2 ^ i / 2 = 2 ^ i by omega, ih, Nat.zero_xor]
    omega
theorem wr_wrong {n : Nat} (h : n < 2 ^ 64) : wr n 0 = wrongN n :=
  lin_ext (f := fun a => wr a 0) (fun a b => wr_lin a b 0) lin_wrong 64 (fun k hk => by rw [wr_pow, (basis k hk).1]; omega) n h
/-- the bits that hold a number -/
def spGo : Nat → Nat → Nat → Nat → List Nat
  | 0, _, _, _ => []
  | f + 1, bit, check, need => if need = 0 then [] else if bit = check then spGo f (bit + 1) (2 * check) need else bit :: spGo f (bit + 1) check (need - 1)
def spots (w : Nat) : List Nat := spGo 70 1 1 w
/-- the number laid bit by bit -/
def lpS : List Nat → Nat → Nat → Nat → Nat
  | [], _, a, _ => a
  | b :: r, i, a, n => lpS r (i + 1) (a + (n / 2 ^ i % 2) * 2 ^ b) n
def lpX : List Nat → Nat → Nat → Nat
  | [], _, _ => 0
  | b :: r, i, n => ((n >>> i) % 2 ^ 1) <<< b ^^^ lpX r (i + 1) n
theorem lin_lp : ∀ r i, Lin (lpX r i)
  | [], _ => Lin.const0
  | b :: r, i => (((Lin.id.shr i).mod 1).shl b).xor (lin_lp r (i + 1))
def rising : Nat → List Nat → Bool
  | _, [] => true
  | k, b :: r => decide (k ≤ b) && rising (b + 1) r
theorem lp_eq : ∀ (r : List Nat) (k i a n : Nat), rising k r = true → a < 2 ^ k → lpS r i a n = a ^^^ lpX r i n
  | [], _, _, a, _, _, _ => (Nat.xor_zero a).symm
  | b :: r, k, i, a, n, ok, h => by
    simp only [rising, Bool.and_eq_true, decide_eq_true_eq] at ok
    have hb : a < 2 ^ b := Nat.lt_of_lt_of_le h (Nat.pow_le_pow_right (by omega) ok.1)
    have e : a + (n / 2 ^ i % 2) * 2 ^ b = a ^^^ ((n >>> i) % 2 ^ 1) <<< b := by
      rw [← Nat.shiftLeft_eq, Nat.shiftRight_eq_div_pow, Nat.pow_one, add_shl _ hb]
    show lpS r (i + 1) (a + (n / 2 ^ i % 2) * 2 ^ b) n = a ^^^ (((n >>> i) % 2 ^ 1) <<< b ^^^ lpX r (i + 1) n)
    rw [e, lp_eq r (b + 1) (i + 1) _ n ok.2, Nat.xor_assoc]
    refine Nat.xor_lt_two_pow (Nat.lt_of_lt_of_le hb (Nat.pow_le_pow_right (by omega) (by omega))) ?_
    exact mod_shl_lt (n := n >>> i) (m := 1) (f := b) rfl
def look2B (w : Nat) : Bool := rising 0 (spots w) && (decide ((spots w).length = w) && (((spots w).all fun b => decide (b ≤ 64)) && ((List.range w).all fun k =>
    decide (lpX (spots w) 0 (2 ^ k) = layX (runs w) 0 (2 ^ k)) && (decide (wrongN (layX (runs w) 0 (2 ^ k)) < 2 ^ chk w) && (decide (layX (runs w) 0 (2 ^ k) < 2 ^ 64) && decide (preX w (2 ^ k) < 2 ^ 64))))))
theorem look2_all : ((List.range 58).all fun w => w == 0 || look2B w) = true := by decide +kernel
theorem look2 (w : Nat) (hw : w < 58) (h1 : 1 ≤ w) : rising 0 (spots w) = true ∧ (spots w).length = w ∧ (∀ b ∈ spots w, b ≤ 64) ∧ ∀ k, k < w →
    lpX (spots w) 0 (2 ^ k) = layX (runs w) 0 (2 ^ k) ∧ wrongN (layX (runs w) 0 (2 ^ k)) < 2 ^ chk w ∧ layX (runs w) 0 (2 ^ k) < 2 ^ 64 ∧ preX w (2 ^ k) < 2 ^ 64 := by
  have h := List.all_eq_true.mp look2_all w (List.mem_range.mpr hw)
  have h0 : (w == 0) = false := by simp; omega
  rw [h0, Bool.false_or] at h
  simp only [look2B, Bool.and_eq_true, decide_eq_true_eq, List.all_eq_true, List.mem_range] at h
  exact h
/-- the law's way to put the checks in -/
def putL : Nat → Nat → Nat → Nat → Nat
  | 0, _, a, _ => a
  | f + 1, c, a, x => if 2 ^ c ≤ x then putL f (c + 1) (a + (if 0 < x &&& 2 ^ c then 1 else 0) * 2 ^ (2 ^ c)) x else a
theorem put_none : ∀ (n c a x : Nat), x < 2 ^ c → putS n c a x = a
  | 0, _, _, _, _ => rfl
  | n + 1, c, a, x, h => by
    show putS n (c + 1) (a + (x / 2 ^ c % 2) * 2 ^ (2 ^ c)) x = a
    rw [Nat.div_eq_of_lt h, Nat.zero_mod, Nat.zero_mul, Nat.add_zero]
    exact put_none n (c + 1) a x (Nat.lt_of_lt_of_le h (Nat.pow_le_pow_right (by omega) (by omega)))
theorem and_pow (x c : Nat) : (if 0 < x &&& 2 ^ c then 1 else 0) = x / 2 ^ c % 2 := by
  have h : x &&& 2 ^ c = (x / 2 ^ c % 2) * 2 ^ c := by
    apply Nat.eq_of_testBit_eq
    intro i
    rw [Nat.testBit_and, Nat.testBit_two_pow]
    have e : (x / 2 ^ c % 2) * 2 ^ c = ((x >>> c) % 2 ^ 1) <<< c := by rw [Nat.shiftLeft_eq, Nat.shiftRight_eq_div_pow, Nat.pow_one]
    rw [e]
    by_cases hi : i = c
    · subst hi
      rw [Nat.testBit_shiftLeft, Nat.sub_self, Nat.testBit_mod_two_pow, Nat.testBit_shiftRight]
      simp
    · rw [bit_shl hi, decide_eq_false (Ne.symm hi), Bool.and_false]
  have p := Nat.two_pow_pos c
  have q : x / 2 ^ c % 2 = 0 ∨ x / 2 ^ c % 2 = 1 := by omega
  rcases q with q | q
  · rw [h, q, Nat.zero_mul]; rfl
  · rw [h, q, Nat.one_mul, if_pos p]
theorem put_law : ∀ (n c a x f : Nat), x < 2 ^ (c + n) → n ≤ f → putL f c a x = putS n c a x
  | n, c, a, x, 0, h, hf => by
    have : n = 0 := by omega
    subst this; rfl
  | n, c, a, x, f + 1, h, hf => by
    show (if 2 ^ c ≤ x then putL f (c + 1) (a + (if 0 < x &&& 2 ^ c then 1 else 0) * 2 ^ (2 ^ c)) x else a) = _
    by_cases q : 2 ^ c ≤ x
    · rw [if_pos q]
      cases n with
      | zero =>
        rw [Nat.add_zero] at h
        omega
      | succ n =>
        rw [and_pow, put_law n (c + 1) _ x f (by rw [show c + 1 + n = c + (n + 1) by omega]; exact h) (by omega)]
        rfl
    · rw [if_neg q, put_none _ _ _ _ (by omega)]
section
variable {w n : Nat} (h1 : 1 ≤ w) (h2 : w ≤ 57) (hn : n < 2 ^ w)
include h1 h2 hn
theorem lp_lay : lpS (spots w) 0 0 n = layS (runs w) 0 n := by
  obtain ⟨r, _, _, hk⟩ := look2 w (by omega) h1
  rw [lp_eq _ 0 _ _ _ r (by decide), Nat.zero_xor, lay_eq _ 0 0 n (look w (by omega) h1).1 (by decide)]
  exact lin_ext (lin_lp _ _) (lin_lay _) w (fun k h => (hk k h).1) n hn
theorem lay_lt : layS (runs w) 0 n < 2 ^ 64 := by
  rw [lay_eq _ 0 0 n (look w (by omega) h1).1 (by decide)]
  exact lin_lt (lin_lay _) w (fun k h => ((look2 w (by omega) h1).2.2.2 k h).2.2.1) n hn
theorem layw_lt : wrongN (layS (runs w) 0 n) < 2 ^ chk w := by
  rw [lay_eq _ 0 0 n (look w (by omega) h1).1 (by decide)]
  exact lin_lt (lin_wrong.comp (lin_lay _)) w (fun k h => ((look2 w (by omega) h1).2.2.2 k h).2.1) n hn
theorem put_pre : putS (chk w) 0 (layS (runs w) 0 n) (wrongN (layS (runs w) 0 n)) = preX w n := by
  obtain ⟨ok, _, _, hm, hk⟩ := look w (by omega) h1
  rw [lay_eq _ 0 0 n ok (by decide)]
  refine put_eq _ _ _ _ fun i _ hi => ?_
  have q := congrArg (fun z : Nat => z.testBit (2 ^ i)) (lay_mask h1 h2 hn)
  simp only [Nat.testBit_and, Nat.zero_testBit, hm i (by omega), Bool.and_true] at q
  exact q
theorem pre_lt : preX w n < 2 ^ 64 := lin_lt (lin_pre w) w (fun k h => ((look2 w (by omega) h1).2.2.2 k h).2.2.2) n hn
end
end Fk
/-! ## a number read bit by bit; all words of small widths -/
namespace Fk
def npS : List Nat → Nat → Nat → Nat → Nat
  | [], _, a, _ => a
  | b :: r, i, a, n => npS r (i + 1) (a + (n / 2 ^ b % 2) * 2 ^ i) n
def npX : List Nat → Nat → Nat → Nat
  | [], _, _ => 0
  | b :: r, i, n => ((n >>> b) % 2 ^ 1) <<< i ^^^ npX r (i + 1) n
theorem lin_np : ∀ r i, Lin (npX r i)
  | [], _ => Lin.const0
  | b :: r, i => (((Lin.id.shr b).mod 1).shl i).xor (lin_np r (i + 1))
theorem np_eq : ∀ (r : List Nat) (i a n : Nat), a < 2 ^ i → npS r i a n = a ^^^ npX r i n
  | [], i, a, n, h => (Nat.xor_zero a).symm
  | b :: r, i, a, n, h => by
    have e : a + (n / 2 ^ b % 2) * 2 ^ i = a ^^^ (((n >>> b) % 2 ^ 1) <<< i) := by
      rw [← add_shl _ h, Nat.shiftLeft_eq, Nat.shiftRight_eq_div_pow, Nat.pow_one]
    show npS r (i + 1) (a + (n / 2 ^ b % 2) * 2 ^ i) n = a ^^^ (((n >>> b) % 2 ^ 1) <<< i ^^^ npX r (i + 1) n)
    rw [np_eq r (i + 1) _ n, e, Nat.xor_assoc]
    have m : n / 2 ^ b % 2 < 2 := Nat.mod_lt _ (by omega)
    have e2 : 2 ^ (i + 1) = 2 * 2 ^ i := by rw [Nat.pow_succ]; omega
    have : n / 2 ^ b % 2 * 2 ^ i ≤ 1 * 2 ^ i := Nat.mul_le_mul_right _ (by omega)
    omega
theorem np_basis : ((List.range 58).all fun w => w == 0 || (List.range (w + chk w + 1)).all fun k => npX (spots w) 0 (2 ^ k) == numL w (2 ^ k)) = true := by decide +kernel
theorem np_num {w n : Nat} (h1 : 1 ≤ w) (hw : w ≤ 57) (hn : n < 2 ^ (w + chk w + 1)) : npS (spots w) 0 0 n = numN n w := by
  rw [np_eq _ _ _ _ (by decide), Nat.zero_xor, numN_eq]
  refine lin_ext (lin_np _ _) (lin_num _ _) (w + chk w + 1) (fun k hk => ?_) n hn
  have h := List.all_eq_true.mp np_basis w (List.mem_range.mpr (by omega))
  rw [Bool.or_eq_true] at h
  rcases h with h | h
  · have : w = 0 := by simpa using h
    omega
  · have := List.all_eq_true.mp h k (List.mem_range.mpr hk)
    exact eq_of_beq this
def okOp (w word : Nat) : Op → Bool
  | .good n => decide (n < 2 ^ w) && (sealX w n == word)
  | .mended n b => decide (n < 2 ^ w) && (sealX w n ^^^ 2 ^ b == word)
  | .spoilt => true
theorem all_small : ((List.range 5).all fun w => w == 0 || (List.range (2 ^ (w + chk w + 1))).all fun word => okOp w word (openN word w)) = true := by decide +kernel
theorem small_spoilt {w word : Nat} (h1 : 1 ≤ w) (hw : w ≤ 4) (hn : word < 2 ^ (w + chk w + 1)) (h : ∀ n, n < 2 ^ w → sealX w n ≠ word ∧ cnt (sealX w n ^^^ word) ≠ 1) : openN word w = .spoilt := by
  have q := List.all_eq_true.mp all_small w (List.mem_range.mpr (by omega))
  rw [Bool.or_eq_true] at q
  rcases q with q | q
  · have : w = 0 := by simpa using q
    omega
  · have z := List.all_eq_true.mp q word (List.mem_range.mpr hn)
    cases e : openN word w with
    | spoilt => rfl
    | good n =>
      rw [e] at z
      have z2 : n < 2 ^ w ∧ sealX w n = word := by simpa [okOp] using z
      exact absurd z2.2 (h n z2.1).1
    | mended n b =>
      rw [e] at z
      have z2 : n < 2 ^ w ∧ sealX w n ^^^ 2 ^ b = word := by simpa [okOp] using z
      refine absurd ?_ (h n z2.1).2
      rw [← z2.2, ← Nat.xor_assoc, Nat.xor_self, Nat.zero_xor, cnt_pow]
theorem one_away {w n word : Nat} (h1 : 1 ≤ w) (hw : w ≤ 57) (hn : n < 2 ^ w) (hx : word < 2 ^ (w + chk w + 1)) (h : cnt (sealX w n ^^^ word) = 1) :
    ∃ b, b ≤ w + chk w ∧ word = sealX w n ^^^ 2 ^ b ∧ openN word w = .mended n b := by
  obtain ⟨b, hb⟩ := cnt_eq1 _ h
  have e : word = sealX w n ^^^ 2 ^ b := by rw [← hb, ← Nat.xor_assoc, Nat.xor_self, Nat.zero_xor]
  have lt : 2 ^ b < 2 ^ (w + chk w + 1) := by rw [← hb]; exact Nat.xor_lt_two_pow (seal_lt h1 hw hn) hx
  have lb : b < w + chk w + 1 := (Nat.pow_lt_pow_iff_right (a := 2) (by omega)).mp lt
  refine ⟨b, by omega, e, ?_⟩
  rw [e]
  exact open_mended h1 hw hn (by omega)
theorem pow_inj {a b : Nat} (h : 2 ^ a = 2 ^ b) : a = b := by
  rcases Nat.lt_trichotomy a b with c | c | c
  · have := Nat.pow_lt_pow_right (a := 2) (by omega) c
    omega
  · exact c
  · have := Nat.pow_lt_pow_right (a := 2) (by omega) c
    omega
theorem xor_right {s a b : Nat} (h : s ^^^ a = s ^^^ b) : a = b := by
  have : s ^^^ (s ^^^ a) = s ^^^ (s ^^^ b) := by rw [h]
  rwa [← Nat.xor_assoc, ← Nat.xor_assoc, Nat.xor_self, Nat.zero_xor, Nat.zero_xor] at this
theorem num_basis : ((List.range 58).all fun w => w == 0 || (List.range (w + chk w + 1)).all fun k => decide (numL w (2 ^ k) < 2 ^ w)) = true := by decide +kernel
theorem num_lt {w n : Nat} (h1 : 1 ≤ w) (hw : w ≤ 57) (hn : n < 2 ^ (w + chk w + 1)) : numN n w < 2 ^ w := by
  rw [numN_eq]
  refine lin_lt (lin_num _ _) (w + chk w + 1) (fun k hk => ?_) n hn
  have h := List.all_eq_true.mp num_basis w (List.mem_range.mpr (by omega))
  rw [Bool.or_eq_true] at h
  rcases h with h | h
  · have : w = 0 := by simpa using h
    omega
  · exact of_decide_eq_true (List.all_eq_true.mp h k (List.mem_range.mpr hk))
theorem open_bd {w n : Nat} (h1 : 1 ≤ w) (hw : w ≤ 57) (hn : n < 2 ^ (w + chk w + 1)) : (∃ m, openN n w = .good m ∧ m < 2 ^ w) ∨ (∃ m b, openN n w = .mended m b ∧ m < 2 ^ w ∧ b ≤ w + chk w) ∨ openN n w = .spoilt := by
  unfold openN
  by_cases c : wrongN n = 0 ∧ parN n = 0
  · rw [if_pos c]
    exact .inl ⟨_, rfl, num_lt h1 hw hn⟩
  · rw [if_neg c]
    by_cases c2 : parN n = 0 ∨ w + chk w < wrongN n
    · rw [if_pos c2]
      exact .inr (.inr rfl)
    · rw [if_neg c2]
      refine .inr (.inl ⟨_, _, rfl, num_lt h1 hw (Nat.xor_lt_two_pow hn (Nat.pow_lt_pow_right (by omega) (by omega))), by omega⟩)
end Fk
/-! ## fields of pages, as numbers -/
namespace Fk
structure F5 where
  k : Nat
  p : Nat
  n : Nat
  g : Nat
  d : Nat
  deriving DecidableEq
def okF (f : F5) : Prop := f.k < 4 ∧ f.p ≤ 15 ∧ f.n ≤ 16383 ∧ f.g ≤ 16383 ∧ f.d ≤ 63 ∧ (f.k = 3 → f.p = 0 ∧ f.d = 0) ∧ (f.k ≠ 3 → (f.g = 0 ∨ f.k = 2) ∧ (f.d = 0 ∨ f.k ≠ 1))
instance (f : F5) : Decidable (okF f) := by unfold okF; exact inferInstance
def numF (f : F5) : Nat := (((f.k * 16 + f.p) * 16384 + f.n) * 16384 + f.g) * 64 + f.d
def splitN (N : Nat) : F5 := ⟨N / 64 / 16384 / 16384 / 16, N / 64 / 16384 / 16384 % 16, N / 64 / 16384 % 16384, N / 64 % 16384, N % 64⟩
def fldN (N : Nat) : Option F5 := if okF (splitN N) then some (splitN N) else none
theorem num_split (N : Nat) : numF (splitN N) = N := by
  unfold numF splitN
  simp only
  omega
theorem split_num {f : F5} (h : okF f) : splitN (numF f) = f := by
  obtain ⟨k, p, n, g, d⟩ := f
  obtain ⟨h1, h2, h3, h4, h5, _⟩ := h
  simp only at h1 h2 h3 h4 h5
  unfold numF splitN
  simp only [F5.mk.injEq]
  refine ⟨by omega, by omega, by omega, by omega, by omega⟩
theorem fld_num {f : F5} (h : okF f) : fldN (numF f) = some f := by
  unfold fldN
  rw [split_num h, if_pos h]
theorem num_fld {N : Nat} {f : F5} (h : fldN N = some f) : numF f = N ∧ okF f := by
  unfold fldN at h
  by_cases c : okF (splitN N)
  · rw [if_pos c] at h
    cases h
    exact ⟨num_split N, c⟩
  · rw [if_neg c] at h
    cases h
theorem numF_lt {f : F5} (h : okF f) : numF f < 2 ^ 40 := by
  obtain ⟨k, p, n, g, d⟩ := f
  obtain ⟨h1, h2, h3, h4, h5, _⟩ := h
  simp only at h1 h2 h3 h4 h5
  unfold numF
  simp only
  omega
theorem numF_inj {f g : F5} (h : okF f) (h2 : okF g) (e : numF f = numF g) : f = g := by
  rw [← split_num h, ← split_num h2, e]
theorem chk40 : chk 40 = 6 := by decide +kernel
/-- fields_by: none where it is spoilt, else whether it is mended, and the fields -/
def fbN (word : Nat) : Bool → Option (Bool × F5)
  | true => match openN word 40 with
    | .good n => (fldN n).map fun f => (false, f)
    | .mended n _ => (fldN n).map fun f => (true, f)
    | .spoilt => none
  | false => (fldN word).map fun f => (false, f)
def wordN (f : F5) : Bool → Nat
  | true => sealX 40 (numF f)
  | false => numF f
theorem fb_word {f : F5} (h : okF f) (s : Bool) : fbN (wordN f s) s = some (false, f) := by
  cases s with
  | true =>
    unfold fbN wordN
    simp only
    rw [open_good (by decide) (by decide) (numF_lt h)]
    simp only [fld_num h, Option.map_some]
  | false =>
    unfold fbN wordN
    simp only [fld_num h, Option.map_some]
theorem fb_mended {f : F5} (h : okF f) {b : Nat} (hb : b < 47) : fbN (wordN f true ^^^ 2 ^ b) true = some (true, f) := by
  unfold fbN wordN
  simp only
  rw [open_mended (by decide) (by decide) (numF_lt h) (by rw [chk40]; omega)]
  simp only [fld_num h, Option.map_some]
theorem fb_spoilt {f : F5} (h : okF f) {b c : Nat} (hb : b < 47) (hc : c < 47) (hbc : b ≠ c) : fbN (wordN f true ^^^ 2 ^ b ^^^ 2 ^ c) true = none := by
  unfold fbN wordN
  simp only
  rw [open_spoilt (by decide) (by decide) (numF_lt h) (by rw [chk40]; omega) (by rw [chk40]; omega) hbc]
theorem word_lt {f : F5} (h : okF f) (s : Bool) : wordN f s < 2 ^ 47 := by
  have a := numF_lt h
  cases s with
  | true =>
    have := seal_lt (w := 40) (by decide) (by decide) a
    rw [chk40] at this
    exact this
  | false =>
    show numF f < 2 ^ 47
    omega
theorem word_inj {f g : F5} (h : okF f) (h2 : okF g) (s : Bool) : wordN f s = wordN g s ↔ f = g := by
  constructor
  · intro e
    have a := fb_word h s
    rw [e, fb_word h2 s] at a
    cases a
    rfl
  · rintro rfl
    rfl
/-- a turned bit of a plain word -/
theorem fb_plain {f : F5} (h : okF f) (b : Nat) : fbN (wordN f false ^^^ 2 ^ b) false = none ∨ ∃ f', fbN (wordN f false ^^^ 2 ^ b) false = some (false, f') ∧ okF f' ∧ f' ≠ f ∧ wordN f' false = wordN f false ^^^ 2 ^ b := by
  unfold fbN wordN
  simp only
  cases e : fldN (numF f ^^^ 2 ^ b) with
  | none => exact .inl rfl
  | some f' =>
    obtain ⟨e1, e2⟩ := num_fld e
    refine .inr ⟨f', rfl, e2, ?_, e1⟩
    rintro rfl
    have q : 2 ^ b = 0 := xor_right (s := numF f') (by rw [Nat.xor_zero]; exact e1.symm)
    have := Nat.two_pow_pos b
    omega
end Fk
namespace Fk
open PySem PySem.Spec PyProof.Rows L2
/-! ### the text -/
def top (i : Nat) : Stmt := PySem.Challenge.pw_flashkeep_k06_words_of_fields.main.body.getD i (.Pass ⟨0, 0, 0, 0⟩)
/-! ### readings and promises -/
abbrev s_is_whole : Stmt := top 5
abbrev N_is_whole : List Str := ["thing"]
theorem sc_is_whole : FnScope N_is_whole ["thing"] (defScope s_is_whole) := ⟨rfl, rfl, rfl, by decide +kernel, rfl, by decide +kernel, by decide +kernel⟩
def t_is_whole (K : PySem.W.Frag) (E : XK) : TS :=
    (tRet (tAndV (tCB (rIsi K) (tCons (tVar 0) (tCons (tC (.ty "int")) tNil))) (tNotV (tCB (rIsi K) (tCons (tVar 0) (tCons (tC (.ty "bool")) tNil))))))
def sp_is_whole (K : PySem.W.Frag) : Sp := fun vs H Q E => vs.length = 1 ∧ t_is_whole K E { nx := fun _ H' => Q .non H', rt := Q } (start N_is_whole vs) H
abbrev s_is_within : Stmt := top 6
abbrev N_is_within : List Str := ["thing", "least", "most"]
theorem sc_is_within : FnScope N_is_within ["thing", "least", "most"] (defScope s_is_within) := ⟨rfl, rfl, rfl, by decide +kernel, rfl, by decide +kernel, by decide +kernel⟩
def t_is_within (K : PySem.W.Frag) (E : XK) : TS :=
    (tRet (tAndV (tCall (sp_is_whole K) [] E (tCons (tVar 0) tNil)) (tChain uLe uLe (tVar 1) (tVar 0) (tVar 2))))
def sp_is_within (K : PySem.W.Frag) : Sp := fun vs H Q E => vs.length = 3 ∧ t_is_within K E { nx := fun _ H' => Q .non H', rt := Q } (start N_is_within vs) H
abbrev s_checks_for : Stmt := top 10
abbrev N_checks_for : List Str := ["width", "found"]
theorem sc_checks_for : FnScope N_checks_for ["width"] (defScope s_checks_for) := ⟨rfl, rfl, rfl, by decide +kernel, rfl, by decide +kernel, by decide +kernel⟩
def t_checks_for (K : PySem.W.Frag) (E : XK) : TS :=
    (tSeq (tAsg (tC (.int 0)) (gName 1))
    (tSeq (tWhile (tTest (tOp uLt (tOp uShl (tC (.int 1)) (tVar 1)) (tOp (uAdd K) (tOp (uAdd K) (tVar 0) (tVar 1)) (tC (.int 1))))) (tAug 1 (tC (.int 1)) (ipI fun i j => i + j)))
    (tRet (tVar 1))))
def sp_checks_for (K : PySem.W.Frag) : Sp := fun vs H Q E => vs.length = 1 ∧ t_checks_for K E { nx := fun _ H' => Q .non H', rt := Q } (start N_checks_for vs) H
abbrev s_is_odd : Stmt := top 11
abbrev N_is_odd : List Str := ["word", "fold"]
theorem sc_is_odd : FnScope N_is_odd ["word"] (defScope s_is_odd) := ⟨rfl, rfl, rfl, by decide +kernel, rfl, by decide +kernel, by decide +kernel⟩
def t_is_odd (K : PySem.W.Frag) (E : XK) : TS :=
    (tSeq (tFor (iTup K (tC (.ref (He.ga K "FOLDS")))) (gName 1) (tAsg (tOp uXor (tVar 0) (tOp uShr (tVar 0) (tVar 1))) (gName 0)))
    (tRet (tOp (uEq K) (tOp uMod (tVar 0) (tC (.int 2))) (tC (.int 1)))))
def sp_is_odd (K : PySem.W.Frag) : Sp := fun vs H Q E => vs.length = 1 ∧ t_is_odd K E { nx := fun _ H' => Q .non H', rt := Q } (start N_is_odd vs) H
abbrev s_wrong_of : Stmt := top 12
abbrev N_wrong_of : List Str := ["word", "check", "mask"]
theorem sc_wrong_of : FnScope N_wrong_of ["word"] (defScope s_wrong_of) := ⟨rfl, rfl, rfl, by decide +kernel, rfl, by decide +kernel, by decide +kernel⟩
def t_wrong_of (K : PySem.W.Frag) (E : XK) : TS :=
    (tRet (tCB (rSum K) (tCons (tLc (iEnumA K (tCons (tC (.ref (He.ga K "MASKS"))) tNil)) (gTup K 2 (gCons (gName 1) (gCons (gName 2) gNil))) tYes (tOp uShl (tCB uInt (tCons (tCall (sp_is_odd K) [] E0 (tCons (tOp uAnd (tVar 0) (tVar 2)) tNil)) tNil)) (tVar 1)) [1, 2]) tNil)))
def sp_wrong_of (K : PySem.W.Frag) : Sp := fun vs H Q E => vs.length = 1 ∧ t_wrong_of K E { nx := fun _ H' => Q .non H', rt := Q } (start N_wrong_of vs) H
abbrev s_runs_of : Stmt := top 13
abbrev N_runs_of : List Str := ["width", "found", "left", "check", "many"]
theorem sc_runs_of : FnScope N_runs_of ["width"] (defScope s_runs_of) := ⟨rfl, rfl, rfl, by decide +kernel, rfl, by decide +kernel, by decide +kernel⟩
def t_runs_of (K : PySem.W.Frag) (E : XK) : TS :=
    (tSeq (tPar3 1 2 3 (tCons (tLst tNil) (tCons (tVar 0) (tCons (tC (.int 2)) tNil))))
    (tSeq (tWhile (tTest (tOp uGt (tVar 2) (tC (.int 0)))) (tSeq (tAsg (tCB uMin2 (tCons (tOp uSub (tVar 3) (tC (.int 1))) (tCons (tVar 2) tNil))) (gName 4))
    (tSeq (tDrop (tBM K "list" rAppend (tVar 1) (tCons (tTup (tCons (tOp (uAdd K) (tVar 3) (tC (.int 1))) (tCons (tVar 4) tNil))) tNil)))
    (tPar 2 3 (tCons (tOp uSub (tVar 2) (tVar 4)) (tCons (tOp (uMul K) (tC (.int 2)) (tVar 3)) tNil))))))
    (tRet (tVar 1))))
def sp_runs_of (K : PySem.W.Frag) : Sp := fun vs H Q E => vs.length = 1 ∧ t_runs_of K E { nx := fun _ H' => Q .non H', rt := Q } (start N_runs_of vs) H
abbrev s_seal_by : Stmt := top 14
abbrev N_seal_by : List Str := ["number", "width", "word", "first", "many", "wrong", "check"]
theorem sc_seal_by : FnScope N_seal_by ["number", "width"] (defScope s_seal_by) := ⟨rfl, rfl, rfl, by decide +kernel, rfl, by decide +kernel, by decide +kernel⟩
def t_seal_by (K : PySem.W.Frag) (E : XK) : TS :=
    (tSeq (tAsg (tC (.int 0)) (gName 2))
    (tSeq (tFor (uIter K (tCall (sp_runs_of K) [] E (tCons (tVar 1) tNil))) (gTup K 2 (gCons (gName 3) (gCons (gName 4) gNil))) (tSeq (tAug 2 (tOp uShl (tOp uMod (tVar 0) (tOp uShl (tC (.int 1)) (tVar 4))) (tVar 3)) (ipI fun i j => i + j))
    (tAsg (tOp uShr (tVar 0) (tVar 4)) (gName 0))))
    (tSeq (tAsg (tCall (sp_wrong_of K) [] E (tCons (tVar 2) tNil)) (gName 5))
    (tSeq (tFor (iRng1 (tCons (tCall (sp_checks_for K) [] E (tCons (tVar 1) tNil)) tNil)) (gName 6) (tAug 2 (tOp uShl (tOp uMod (tOp uShr (tVar 5) (tVar 6)) (tC (.int 2))) (tOp uShl (tC (.int 1)) (tVar 6))) (ipI fun i j => i + j)))
    (tRet (tOp (uAdd K) (tVar 2) (tCB uInt (tCons (tCall (sp_is_odd K) [] E (tCons (tVar 2) tNil)) tNil))))))))
def sp_seal_by (K : PySem.W.Frag) : Sp := fun vs H Q E => vs.length = 2 ∧ t_seal_by K E { nx := fun _ H' => Q .non H', rt := Q } (start N_seal_by vs) H
abbrev s_number_in : Stmt := top 15
abbrev N_number_in : List Str := ["word", "width", "found", "place", "first", "many"]
theorem sc_number_in : FnScope N_number_in ["word", "width"] (defScope s_number_in) := ⟨rfl, rfl, rfl, by decide +kernel, rfl, by decide +kernel, by decide +kernel⟩
def t_number_in (K : PySem.W.Frag) (E : XK) : TS :=
    (tSeq (tAsg (tTup (tCons (tC (.int 0)) (tCons (tC (.int 0)) tNil))) (gTup K 2 (gCons (gName 2) (gCons (gName 3) gNil))))
    (tSeq (tFor (uIter K (tCall (sp_runs_of K) [] E (tCons (tVar 1) tNil))) (gTup K 2 (gCons (gName 4) (gCons (gName 5) gNil))) (tSeq (tAug 2 (tOp uShl (tOp uMod (tOp uShr (tVar 0) (tVar 4)) (tOp uShl (tC (.int 1)) (tVar 5))) (tVar 3)) (ipI fun i j => i + j))
    (tAug 3 (tVar 5) (ipI fun i j => i + j))))
    (tRet (tVar 2))))
def sp_number_in (K : PySem.W.Frag) : Sp := fun vs H Q E => vs.length = 2 ∧ t_number_in K E { nx := fun _ H' => Q .non H', rt := Q } (start N_number_in vs) H
abbrev s_opened_by : Stmt := top 16
abbrev N_opened_by : List Str := ["word", "width", "wrong", "odd"]
theorem sc_opened_by : FnScope N_opened_by ["word", "width"] (defScope s_opened_by) := ⟨rfl, rfl, rfl, by decide +kernel, rfl, by decide +kernel, by decide +kernel⟩
def t_opened_by (K : PySem.W.Frag) (E : XK) : TS :=
    (tSeq (tPar 2 3 (tCons (tCall (sp_wrong_of K) [] E (tCons (tVar 0) tNil)) (tCons (tCall (sp_is_odd K) [] E (tCons (tVar 0) tNil)) tNil)))
    (tSeq (tIfS (tAnd (tTest (tOp (uEq K) (tVar 2) (tC (.int 0)))) (tNot (tB (tVar 3)))) (tRet (tTup (tCons (tC (.str "good")) (tCons (tCall (sp_number_in K) [] E (tCons (tVar 0) (tCons (tVar 1) tNil))) tNil)))) tNext)
    (tSeq (tIfS (tOr (tNot (tB (tVar 3))) (tTest (tOp uGt (tVar 2) (tOp (uAdd K) (tVar 1) (tCall (sp_checks_for K) [] E (tCons (tVar 1) tNil)))))) (tRet (tTup (tCons (tC (.str "spoilt")) tNil))) tNext)
    (tRet (tTup (tCons (tC (.str "mended")) (tCons (tCall (sp_number_in K) [] E (tCons (tOp uXor (tVar 0) (tOp uShl (tC (.int 1)) (tVar 2))) (tCons (tVar 1) tNil))) (tCons (tVar 2) tNil))))))))
def sp_opened_by (K : PySem.W.Frag) : Sp := fun vs H Q E => vs.length = 2 ∧ t_opened_by K E { nx := fun _ H' => Q .non H', rt := Q } (start N_opened_by vs) H
abbrev s_is_fields : Stmt := top 25
abbrev N_is_fields : List Str := ["thing", "kind", "place", "number", "group", "data", "one", "most"]
theorem sc_is_fields : FnScope N_is_fields ["thing"] (defScope s_is_fields) := ⟨rfl, rfl, rfl, by decide +kernel, rfl, by decide +kernel, by decide +kernel⟩
def t_is_fields (K : PySem.W.Frag) (E : XK) : TS :=
    (tSeq (tIfS (tOr (tNot (tB (tCB (rIsi K) (tCons (tVar 0) (tCons (tC (.ty "tuple")) tNil))))) (tTest (tOp (uNe K) (tCB (rLen K) (tCons (tVar 0) tNil)) (tOp (uAdd K) (tCB (rLen K) (tCons (tC (.ref (He.ga K "MOST"))) tNil)) (tC (.int 1)))))) (tRet (tC (.bl false))) tNext)
    (tSeq (tAsg (tVar 0) (gTup K 5 (gCons (gName 1) (gCons (gName 2) (gCons (gName 3) (gCons (gName 4) (gCons (gName 5) gNil)))))))
    (tSeq (tIfS (tOr (tNot (tB (tCB (rIsi K) (tCons (tVar 1) (tCons (tC (.ty "str")) tNil))))) (tTest (tOp (rIn K true) (tVar 1) (tC (.ref (He.ga K "KINDS")))))) (tRet (tC (.bl false))) tNext)
    (tSeq (tIfS (tNot (tB (tCB (rAll K) (tCons (tLc (RZ.iZipA K (tCons (tSl (uSl K) (tVar 0) (tPart (tC (.int 1))) tNoPart) (tCons (tC (.ref (He.ga K "MOST"))) tNil))) (gTup K 2 (gCons (gName 6) (gCons (gName 7) gNil))) tYes (tCall (sp_is_within K) [] E0 (tCons (tVar 6) (tCons (tC (.int 0)) (tCons (tVar 7) tNil)))) [6, 7]) tNil)))) (tRet (tC (.bl false))) tNext)
    (tSeq (tIfS (tTest (tOp (uEq K) (tVar 1) (tC (.str "commit")))) (tRet (tAndV (tOp (uEq K) (tVar 2) (tC (.int 0))) (tOp (uEq K) (tVar 5) (tC (.int 0))))) tNext)
    (tRet (tAndV (tOrV (tOp (uEq K) (tVar 4) (tC (.int 0))) (tOp (uEq K) (tVar 1) (tC (.str "member")))) (tOrV (tOp (uEq K) (tVar 5) (tC (.int 0))) (tOp (uNe K) (tVar 1) (tC (.str "trim")))))))))))
def sp_is_fields (K : PySem.W.Frag) : Sp := fun vs H Q E => vs.length = 1 ∧ t_is_fields K E { nx := fun _ H' => Q .non H', rt := Q } (start N_is_fields vs) H
abbrev s_number_of : Stmt := top 26
abbrev N_number_of : List Str := ["fields", "found", "one", "most"]
theorem sc_number_of : FnScope N_number_of ["fields"] (defScope s_number_of) := ⟨rfl, rfl, rfl, by decide +kernel, rfl, by decide +kernel, by decide +kernel⟩
def t_number_of (K : PySem.W.Frag) (E : XK) : TS :=
    (tSeq (tAsg (tBM K "tuple" (uTIndex K) (tC (.ref (He.ga K "KINDS"))) (tCons (tOp (rIx K) (tVar 0) (tC (.int 0))) tNil)) (gName 1))
    (tSeq (tFor (RZ.iZipA K (tCons (tSl (uSl K) (tVar 0) (tPart (tC (.int 1))) tNoPart) (tCons (tC (.ref (He.ga K "MOST"))) tNil))) (gTup K 2 (gCons (gName 2) (gCons (gName 3) gNil))) (tAsg (tOp (uAdd K) (tOp (uMul K) (tVar 1) (tOp (uAdd K) (tVar 3) (tC (.int 1)))) (tVar 2)) (gName 1)))
    (tRet (tVar 1))))
def sp_number_of (K : PySem.W.Frag) : Sp := fun vs H Q E => vs.length = 1 ∧ t_number_of K E { nx := fun _ H' => Q .non H', rt := Q } (start N_number_of vs) H
abbrev s_fields_of : Stmt := top 27
abbrev N_fields_of : List Str := ["number", "found", "most", "fields"]
theorem sc_fields_of : FnScope N_fields_of ["number"] (defScope s_fields_of) := ⟨rfl, rfl, rfl, by decide +kernel, rfl, by decide +kernel, by decide +kernel⟩
def t_fields_of (K : PySem.W.Frag) (E : XK) : TS :=
    (tSeq (tAsg (tTup tNil) (gName 1))
    (tSeq (tFor (uIter K (uRev K (tC (.ref (He.ga K "MOST"))))) (gName 2) (tSeq (tAsg (tOp (uAdd K) (tTup (tCons (tOp uMod (tVar 0) (tOp (uAdd K) (tVar 2) (tC (.int 1)))) tNil)) (tVar 1)) (gName 1))
    (tAsg (tOp uFdv (tVar 0) (tOp (uAdd K) (tVar 2) (tC (.int 1)))) (gName 0))))
    (tSeq (tIfS (tTest (tOp uGe (tVar 0) (tCB (rLen K) (tCons (tC (.ref (He.ga K "KINDS"))) tNil)))) (tRet (tC .non)) tNext)
    (tSeq (tAsg (tOp (uAdd K) (tTup (tCons (tOp (rIx K) (tC (.ref (He.ga K "KINDS"))) (tVar 0)) tNil)) (tVar 1)) (gName 3))
    (tRet (tIf (tB (tCall (sp_is_fields K) [] E (tCons (tVar 3) tNil))) (tVar 3) (tC .non)))))))
def sp_fields_of (K : PySem.W.Frag) : Sp := fun vs H Q E => vs.length = 1 ∧ t_fields_of K E { nx := fun _ H' => Q .non H', rt := Q } (start N_fields_of vs) H
abbrev s_word_by : Stmt := top 28
abbrev N_word_by : List Str := ["fields", "sealed", "number"]
theorem sc_word_by : FnScope N_word_by ["fields", "sealed"] (defScope s_word_by) := ⟨rfl, rfl, rfl, by decide +kernel, rfl, by decide +kernel, by decide +kernel⟩
def t_word_by (K : PySem.W.Frag) (E : XK) : TS :=
    (tSeq (tAsg (tCall (sp_number_of K) [] E (tCons (tVar 0) tNil)) (gName 2))
    (tRet (tIf (tB (tVar 1)) (tCall (sp_seal_by K) [] E (tCons (tVar 2) (tCons (tC (.int 40)) tNil))) (tVar 2))))
def sp_word_by (K : PySem.W.Frag) : Sp := fun vs H Q E => vs.length = 2 ∧ t_word_by K E { nx := fun _ H' => Q .non H', rt := Q } (start N_word_by vs) H
abbrev s_fields_by : Stmt := top 29
abbrev N_fields_by : List Str := ["word", "sealed", "told", "fields"]
theorem sc_fields_by : FnScope N_fields_by ["word", "sealed"] (defScope s_fields_by) := ⟨rfl, rfl, rfl, by decide +kernel, rfl, by decide +kernel, by decide +kernel⟩
def t_fields_by (K : PySem.W.Frag) (E : XK) : TS :=
    (tSeq (tIfS (tTest (tOp uIsN (tVar 0) (tC .non))) (tRet (tTup (tCons (tC (.str "spoilt")) (tCons (tC .non) tNil)))) tNext)
    (tSeq (tAsg (tIf (tB (tVar 1)) (tCall (sp_opened_by K) [] E (tCons (tVar 0) (tCons (tC (.int 40)) tNil))) (tTup (tCons (tC (.str "good")) (tCons (tVar 0) tNil)))) (gName 2))
    (tSeq (tAsg (tIf (tTest (tOp (uNe K) (tOp (rIx K) (tVar 2) (tC (.int 0))) (tC (.str "spoilt")))) (tCall (sp_fields_of K) [] E (tCons (tOp (rIx K) (tVar 2) (tC (.int 1))) tNil)) (tC .non)) (gName 3))
    (tRet (tIf (tTest (tOp uIsN (tVar 3) (tC .non))) (tTup (tCons (tC (.str "spoilt")) (tCons (tC .non) tNil))) (tTup (tCons (tOp (rIx K) (tVar 2) (tC (.int 0))) (tCons (tVar 3) tNil))))))))
def sp_fields_by (K : PySem.W.Frag) : Sp := fun vs H Q E => vs.length = 2 ∧ t_fields_by K E { nx := fun _ H' => Q .non H', rt := Q } (start N_fields_by vs) H
abbrev s_need_word : Stmt := top 30
abbrev N_need_word : List Str := ["word"]
theorem sc_need_word : FnScope N_need_word ["word"] (defScope s_need_word) := ⟨rfl, rfl, rfl, by decide +kernel, rfl, by decide +kernel, by decide +kernel⟩
def t_need_word (K : PySem.W.Frag) (E : XK) : TS :=
    (tIfS (tNot (tB (tCall (sp_is_within K) [] E (tCons (tVar 0) (tCons (tC (.int 0)) (tCons (tOp uSub (tOp uShl (tC (.int 1)) (tC (.int 47))) (tC (.int 1))) tNil)))))) (tRz E (He.ga K "NoWord")) tNext)
def sp_need_word (K : PySem.W.Frag) : Sp := fun vs H Q E => vs.length = 1 ∧ t_need_word K E { nx := fun _ H' => Q .non H', rt := Q } (start N_need_word vs) H
abbrev s_word_of : Stmt := top 31
abbrev N_word_of : List Str := ["fields", "sealed"]
theorem sc_word_of : FnScope N_word_of ["fields", "sealed"] (defScope s_word_of) := ⟨rfl, rfl, rfl, by decide +kernel, rfl, by decide +kernel, by decide +kernel⟩
def t_word_of (K : PySem.W.Frag) (E : XK) : TS :=
    (tSeq (tIfS (tNot (tB (tCall (sp_is_fields K) [] E (tCons (tVar 0) tNil)))) (tRz E (He.ga K "NoFields")) tNext)
    (tRet (tCall (sp_word_by K) [] E (tCons (tVar 0) (tCons (tVar 1) tNil)))))
def sp_word_of (K : PySem.W.Frag) : Sp := fun vs H Q E => vs.length = 2 ∧ t_word_of K E { nx := fun _ H' => Q .non H', rt := Q } (start N_word_of vs) H
abbrev s_fields_in : Stmt := top 32
abbrev N_fields_in : List Str := ["word", "sealed"]
theorem sc_fields_in : FnScope N_fields_in ["word", "sealed"] (defScope s_fields_in) := ⟨rfl, rfl, rfl, by decide +kernel, rfl, by decide +kernel, by decide +kernel⟩
def t_fields_in (K : PySem.W.Frag) (E : XK) : TS :=
    (tSeq (tDrop (tCall (sp_need_word K) [] E (tCons (tVar 0) tNil)))
    (tRet (tCall (sp_fields_by K) [] E (tCons (tVar 0) (tCons (tVar 1) tNil)))))
def sp_fields_in (K : PySem.W.Frag) : Sp := fun vs H Q E => vs.length = 2 ∧ t_fields_in K E { nx := fun _ H' => Q .non H', rt := Q } (start N_fields_in vs) H
abbrev s__law_cell_at : Stmt := top 34
abbrev N__law_cell_at : List Str := ["_law_script", "_law_k"]
theorem sc__law_cell_at : FnScope N__law_cell_at ["_law_script", "_law_k"] (defScope s__law_cell_at) := ⟨rfl, rfl, rfl, by decide +kernel, rfl, by decide +kernel, by decide +kernel⟩
def t__law_cell_at (K : PySem.W.Frag) (E : XK) : TS :=
    (tSeq (tIfS (tTest (tOp uLt (tVar 1) (tCB (rLen K) (tCons (tVar 0) tNil)))) (tRet (tOp (rIx K) (tVar 0) (tVar 1))) tNext)
    (tRet (tC (.int 0))))
def sp__law_cell_at (K : PySem.W.Frag) : Sp := fun vs H Q E => vs.length = 2 ∧ t__law_cell_at K E { nx := fun _ H' => Q .non H', rt := Q } (start N__law_cell_at vs) H
abbrev s__law_state : Stmt := top 35
abbrev N__law_state : List Str := ["_law_script", "_law_k", "_law_cell"]
theorem sc__law_state : FnScope N__law_state ["_law_script", "_law_k"] (defScope s__law_state) := ⟨rfl, rfl, rfl, by decide +kernel, rfl, by decide +kernel, by decide +kernel⟩
def t__law_state (K : PySem.W.Frag) (E : XK) : TS :=
    (tSeq (tAsg (tCall (sp__law_cell_at K) [] E (tCons (tVar 0) (tCons (tVar 1) tNil))) (gName 2))
    (tRet (tLst (tCons (tCB uMax2 (tCons (tC (.int 0)) (tCons (tOp uSub (tVar 2) (tOp uPow (tC (.int 10)) (tC (.int 18)))) tNil))) (tCons (tOp (uAdd K) (tOp uMod (tVar 2) (tC (.int 2147483629))) (tC (.int 1))) (tCons (tC (.int 0)) tNil))))))
def sp__law_state (K : PySem.W.Frag) : Sp := fun vs H Q E => vs.length = 2 ∧ t__law_state K E { nx := fun _ H' => Q .non H', rt := Q } (start N__law_state vs) H
abbrev s__law_choice : Stmt := top 36
abbrev N__law_choice : List Str := ["_law_state_here", "_law_many", "_law_found", "_law_mixed"]
theorem sc__law_choice : FnScope N__law_choice ["_law_state_here", "_law_many"] (defScope s__law_choice) := ⟨rfl, rfl, rfl, by decide +kernel, rfl, by decide +kernel, by decide +kernel⟩
def t__law_choice (K : PySem.W.Frag) (E : XK) : TS :=
    (tSeq (tIfS (tTest (tOp uGt (tOp (rIx K) (tVar 0) (tC (.int 0))) (tC (.int 0)))) (tSeq (tAsg (tOp uMod (tOp (rIx K) (tVar 0) (tC (.int 0))) (tVar 1)) (gName 2))
    (tSeq (tAsg (tOp uFdv (tOp (rIx K) (tVar 0) (tC (.int 0))) (tVar 1)) (gSub (tVar 0) (tC (.int 0)) rSetL))
    (tRet (tVar 2)))) tNext)
    (tSeq (tAsg (tOp (uAdd K) (tOp (rIx K) (tVar 0) (tC (.int 2))) (tC (.int 1))) (gSub (tVar 0) (tC (.int 2)) rSetL))
    (tSeq (tAsg (tOp uMod (tOp (uAdd K) (tOp (uAdd K) (tOp (uMul K) (tOp (rIx K) (tVar 0) (tC (.int 1))) (tC (.int 48271))) (tC (.int 29))) (tOp (rIx K) (tVar 0) (tC (.int 2)))) (tC (.int 2147483647))) (gSub (tVar 0) (tC (.int 1)) rSetL))
    (tSeq (tAsg (tOp uMod (tOp (uAdd K) (tOp (uAdd K) (tOp (uMul K) (tOp (rIx K) (tVar 0) (tC (.int 1))) (tOp (rIx K) (tVar 0) (tC (.int 1)))) (tOp (uMul K) (tC (.int 39373)) (tOp (rIx K) (tVar 0) (tC (.int 1))))) (tC (.int 7))) (tC (.int 2147483629))) (gName 3))
    (tSeq (tAsg (tOp uMod (tOp (uAdd K) (tOp (uMul K) (tVar 3) (tVar 3)) (tOp (uMul K) (tC (.int 50021)) (tVar 3))) (tC (.int 2147483587))) (gName 3))
    (tRet (tOp uMod (tOp uFdv (tVar 3) (tC (.int 8))) (tVar 1))))))))
def sp__law_choice (K : PySem.W.Frag) : Sp := fun vs H Q E => vs.length = 2 ∧ t__law_choice K E { nx := fun _ H' => Q .non H', rt := Q } (start N__law_choice vs) H
abbrev s__law_parity : Stmt := top 37
abbrev N__law_parity : List Str := ["_law_word_here", "_law_found", "_law_left"]
theorem sc__law_parity : FnScope N__law_parity ["_law_word_here"] (defScope s__law_parity) := ⟨rfl, rfl, rfl, by decide +kernel, rfl, by decide +kernel, by decide +kernel⟩
def t__law_parity (K : PySem.W.Frag) (E : XK) : TS :=
    (tSeq (tPar 1 2 (tCons (tC (.int 0)) (tCons (tVar 0) tNil)))
    (tSeq (tWhile (tTest (tOp uGt (tVar 2) (tC (.int 0)))) (tPar 1 2 (tCons (tOp uXor (tVar 1) (tOp uAnd (tVar 2) (tC (.int 1)))) (tCons (tOp uShr (tVar 2) (tC (.int 1))) tNil))))
    (tRet (tVar 1))))
def sp__law_parity (K : PySem.W.Frag) : Sp := fun vs H Q E => vs.length = 1 ∧ t__law_parity K E { nx := fun _ H' => Q .non H', rt := Q } (start N__law_parity vs) H
abbrev s__law_wrong : Stmt := top 38
abbrev N__law_wrong : List Str := ["_law_word_here", "_law_found", "_law_left", "_law_bit"]
theorem sc__law_wrong : FnScope N__law_wrong ["_law_word_here"] (defScope s__law_wrong) := ⟨rfl, rfl, rfl, by decide +kernel, rfl, by decide +kernel, by decide +kernel⟩
def t__law_wrong (K : PySem.W.Frag) (E : XK) : TS :=
    (tSeq (tPar3 1 2 3 (tCons (tC (.int 0)) (tCons (tVar 0) (tCons (tC (.int 0)) tNil))))
    (tSeq (tWhile (tTest (tOp uGt (tVar 2) (tC (.int 0)))) (tSeq (tIfS (tTest (tOp (uEq K) (tOp uAnd (tVar 2) (tC (.int 1))) (tC (.int 1)))) (tAsg (tOp uXor (tVar 1) (tVar 3)) (gName 1)) tNext)
    (tPar 2 3 (tCons (tOp uShr (tVar 2) (tC (.int 1))) (tCons (tOp (uAdd K) (tVar 3) (tC (.int 1))) tNil)))))
    (tRet (tVar 1))))
def sp__law_wrong (K : PySem.W.Frag) : Sp := fun vs H Q E => vs.length = 1 ∧ t__law_wrong K E { nx := fun _ H' => Q .non H', rt := Q } (start N__law_wrong vs) H
abbrev s__law_spots : Stmt := top 39
abbrev N__law_spots : List Str := ["_law_width", "_law_found", "_law_bit", "_law_check"]
theorem sc__law_spots : FnScope N__law_spots ["_law_width"] (defScope s__law_spots) := ⟨rfl, rfl, rfl, by decide +kernel, rfl, by decide +kernel, by decide +kernel⟩
def t__law_spots (K : PySem.W.Frag) (E : XK) : TS :=
    (tSeq (tPar3 1 2 3 (tCons (tLst tNil) (tCons (tC (.int 1)) (tCons (tC (.int 1)) tNil))))
    (tSeq (tWhile (tTest (tOp uLt (tCB (rLen K) (tCons (tVar 1) tNil)) (tVar 0))) (tSeq (tIfS (tTest (tOp (uEq K) (tVar 2) (tVar 3))) (tAsg (tOp (uMul K) (tC (.int 2)) (tVar 3)) (gName 3)) (tDrop (tBM K "list" rAppend (tVar 1) (tCons (tVar 2) tNil))))
    (tAsg (tOp (uAdd K) (tVar 2) (tC (.int 1))) (gName 2))))
    (tRet (tVar 1))))
def sp__law_spots (K : PySem.W.Frag) : Sp := fun vs H Q E => vs.length = 1 ∧ t__law_spots K E { nx := fun _ H' => Q .non H', rt := Q } (start N__law_spots vs) H
abbrev s__law_sealed : Stmt := top 40
abbrev N__law_sealed : List Str := ["_law_number", "_law_width", "_law_word_here", "_law_at", "_law_bit", "_law_wrong_here", "_law_check"]
theorem sc__law_sealed : FnScope N__law_sealed ["_law_number", "_law_width"] (defScope s__law_sealed) := ⟨rfl, rfl, rfl, by decide +kernel, rfl, by decide +kernel, by decide +kernel⟩
def t__law_sealed (K : PySem.W.Frag) (E : XK) : TS :=
    (tSeq (tAsg (tC (.int 0)) (gName 2))
    (tSeq (tFor (iEnumA K (tCons (tCall (sp__law_spots K) [] E (tCons (tVar 1) tNil)) tNil)) (gTup K 2 (gCons (gName 3) (gCons (gName 4) gNil))) (tAsg (tOp (uAdd K) (tVar 2) (tOp uShl (tOp uAnd (tOp uShr (tVar 0) (tVar 3)) (tC (.int 1))) (tVar 4))) (gName 2)))
    (tSeq (tPar 5 6 (tCons (tCall (sp__law_wrong K) [] E (tCons (tVar 2) tNil)) (tCons (tC (.int 1)) tNil)))
    (tSeq (tWhile (tTest (tOp uLe (tVar 6) (tVar 5))) (tSeq (tAsg (tOp (uAdd K) (tVar 2) (tOp (uMul K) (tCB uInt (tCons (tOp uGt (tOp uAnd (tVar 5) (tVar 6)) (tC (.int 0))) tNil)) (tOp uShl (tC (.int 1)) (tVar 6)))) (gName 2))
    (tAsg (tOp (uMul K) (tC (.int 2)) (tVar 6)) (gName 6))))
    (tRet (tOp (uAdd K) (tVar 2) (tCall (sp__law_parity K) [] E (tCons (tVar 2) tNil))))))))
def sp__law_sealed (K : PySem.W.Frag) : Sp := fun vs H Q E => vs.length = 2 ∧ t__law_sealed K E { nx := fun _ H' => Q .non H', rt := Q } (start N__law_sealed vs) H
abbrev s__law_number_of : Stmt := top 41
abbrev N__law_number_of : List Str := ["_law_fields", "_law_kind", "_law_place", "_law_number", "_law_group", "_law_data", "_law_found"]
theorem sc__law_number_of : FnScope N__law_number_of ["_law_fields"] (defScope s__law_number_of) := ⟨rfl, rfl, rfl, by decide +kernel, rfl, by decide +kernel, by decide +kernel⟩
def t__law_number_of (K : PySem.W.Frag) (E : XK) : TS :=
    (tSeq (tAsg (tVar 0) (gTup K 5 (gCons (gName 1) (gCons (gName 2) (gCons (gName 3) (gCons (gName 4) (gCons (gName 5) gNil)))))))
    (tSeq (tAsg (tOp (uAdd K) (tOp (uMul K) (tBM K "list" (rIndexD K) (tLst (tCons (tC (.str "write")) (tCons (tC (.str "trim")) (tCons (tC (.str "member")) (tCons (tC (.str "commit")) tNil))))) (tCons (tVar 1) tNil)) (tC (.int 16))) (tVar 2)) (gName 6))
    (tRet (tOp (uAdd K) (tOp (uMul K) (tOp (uAdd K) (tOp (uMul K) (tOp (uAdd K) (tOp (uMul K) (tVar 6) (tC (.int 16384))) (tVar 3)) (tC (.int 16384))) (tVar 4)) (tC (.int 64))) (tVar 5)))))
def sp__law_number_of (K : PySem.W.Frag) : Sp := fun vs H Q E => vs.length = 1 ∧ t__law_number_of K E { nx := fun _ H' => Q .non H', rt := Q } (start N__law_number_of vs) H
abbrev s__law_word : Stmt := top 42
abbrev N__law_word : List Str := ["_law_fields", "_law_sealed_here"]
theorem sc__law_word : FnScope N__law_word ["_law_fields", "_law_sealed_here"] (defScope s__law_word) := ⟨rfl, rfl, rfl, by decide +kernel, rfl, by decide +kernel, by decide +kernel⟩
def t__law_word (K : PySem.W.Frag) (E : XK) : TS :=
    (tRet (tIf (tB (tVar 1)) (tCall (sp__law_sealed K) [] E (tCons (tCall (sp__law_number_of K) [] E (tCons (tVar 0) tNil)) (tCons (tC (.int 40)) tNil))) (tCall (sp__law_number_of K) [] E (tCons (tVar 0) tNil))))
def sp__law_word (K : PySem.W.Frag) : Sp := fun vs H Q E => vs.length = 2 ∧ t__law_word K E { nx := fun _ H' => Q .non H', rt := Q } (start N__law_word vs) H
abbrev s__law_fields_of : Stmt := top 43
abbrev N__law_fields_of : List Str := ["_law_number", "_law_left", "_law_rows", "_law_size", "_law_data", "_law_group", "_law_mark", "_law_place"]
theorem sc__law_fields_of : FnScope N__law_fields_of ["_law_number"] (defScope s__law_fields_of) := ⟨rfl, rfl, rfl, by decide +kernel, rfl, by decide +kernel, by decide +kernel⟩
def t__law_fields_of (K : PySem.W.Frag) (E : XK) : TS :=
    (tSeq (tPar 1 2 (tCons (tVar 0) (tCons (tLst tNil) tNil)))
    (tSeq (tFor (uIter K (tTup (tCons (tC (.int 64)) (tCons (tC (.int 16384)) (tCons (tC (.int 16384)) (tCons (tC (.int 16)) tNil)))))) (gName 3) (tSeq (tDrop (tBM K "list" rAppend (tVar 2) (tCons (tOp uMod (tVar 1) (tVar 3)) tNil)))
    (tAsg (tOp uFdv (tVar 1) (tVar 3)) (gName 1))))
    (tSeq (tAsg (tVar 2) (gLst K 4 (gCons (gName 4) (gCons (gName 5) (gCons (gName 6) (gCons (gName 7) gNil))))))
    (tSeq (tIfS (tOr (tTest (tOp uGt (tVar 1) (tC (.int 3)))) (tOr (tAnd (tTest (tOp uLt (tVar 1) (tC (.int 2)))) (tTest (tOp uGt (tVar 5) (tC (.int 0))))) (tOr (tAnd (tTest (tOp (rIn K false) (tVar 1) (tTup (tCons (tC (.int 1)) (tCons (tC (.int 3)) tNil))))) (tTest (tOp uGt (tVar 4) (tC (.int 0))))) (tAnd (tTest (tOp (uEq K) (tVar 1) (tC (.int 3)))) (tTest (tOp uGt (tVar 7) (tC (.int 0)))))))) (tRet (tC .non)) tNext)
    (tRet (tTup (tCons (tOp (rIx K) (tLst (tCons (tC (.str "write")) (tCons (tC (.str "trim")) (tCons (tC (.str "member")) (tCons (tC (.str "commit")) tNil))))) (tVar 1)) (tCons (tVar 7) (tCons (tVar 6) (tCons (tVar 5) (tCons (tVar 4) tNil)))))))))))
def sp__law_fields_of (K : PySem.W.Frag) : Sp := fun vs H Q E => vs.length = 1 ∧ t__law_fields_of K E { nx := fun _ H' => Q .non H', rt := Q } (start N__law_fields_of vs) H
abbrev s__law_opened : Stmt := top 44
abbrev N__law_opened : List Str := ["_law_word_here", "_law_sealed_here", "_law_fields", "_law_wrong_here", "_law_odd", "_law_state_here", "_law_number", "_law_at", "_law_bit"]
theorem sc__law_opened : FnScope N__law_opened ["_law_word_here", "_law_sealed_here"] (defScope s__law_opened) := ⟨rfl, rfl, rfl, by decide +kernel, rfl, by decide +kernel, by decide +kernel⟩
def t__law_opened (K : PySem.W.Frag) (E : XK) : TS :=
    (tSeq (tIfS (tNot (tB (tVar 1))) (tSeq (tAsg (tCall (sp__law_fields_of K) [] E (tCons (tVar 0) tNil)) (gName 2))
    (tRet (tIf (tTest (tOp uIsN (tVar 2) (tC .non))) (tTup (tCons (tC (.str "spoilt")) (tCons (tC .non) tNil))) (tTup (tCons (tC (.str "good")) (tCons (tVar 2) tNil)))))) tNext)
    (tSeq (tPar3 3 4 5 (tCons (tCall (sp__law_wrong K) [] E (tCons (tVar 0) tNil)) (tCons (tCall (sp__law_parity K) [] E (tCons (tVar 0) tNil)) (tCons (tC (.str "good")) tNil))))
    (tSeq (tIfS (tAnd (tTest (tOp (uEq K) (tVar 4) (tC (.int 1)))) (tTest (tOp uLt (tVar 3) (tC (.int 47))))) (tPar 0 5 (tCons (tOp uXor (tVar 0) (tOp uShl (tC (.int 1)) (tVar 3))) (tCons (tC (.str "mended")) tNil))) (tIfS (tOr (tTest (tOp uGt (tVar 3) (tC (.int 0)))) (tTest (tOp (uEq K) (tVar 4) (tC (.int 1))))) (tRet (tTup (tCons (tC (.str "spoilt")) (tCons (tC .non) tNil)))) tNext))
    (tSeq (tAsg (tC (.int 0)) (gName 6))
    (tSeq (tFor (iEnumA K (tCons (tCall (sp__law_spots K) [] E (tCons (tC (.int 40)) tNil)) tNil)) (gTup K 2 (gCons (gName 7) (gCons (gName 8) gNil))) (tAsg (tOp (uAdd K) (tVar 6) (tOp uShl (tOp uAnd (tOp uShr (tVar 0) (tVar 8)) (tC (.int 1))) (tVar 7))) (gName 6)))
    (tSeq (tAsg (tCall (sp__law_fields_of K) [] E (tCons (tVar 6) tNil)) (gName 2))
    (tRet (tIf (tTest (tOp uIsN (tVar 2) (tC .non))) (tTup (tCons (tC (.str "spoilt")) (tCons (tC .non) tNil))) (tTup (tCons (tVar 5) (tCons (tVar 2) tNil)))))))))))
def sp__law_opened (K : PySem.W.Frag) : Sp := fun vs H Q E => vs.length = 2 ∧ t__law_opened K E { nx := fun _ H' => Q .non H', rt := Q } (start N__law_opened vs) H
abbrev s__law_same : Stmt := top 45
abbrev N__law_same : List Str := ["_law_found", "_law_owed"]
theorem sc__law_same : FnScope N__law_same ["_law_found", "_law_owed"] (defScope s__law_same) := ⟨rfl, rfl, rfl, by decide +kernel, rfl, by decide +kernel, by decide +kernel⟩
def t__law_same (K : PySem.W.Frag) (E : XK) : TS :=
    (tRet (tOp (uEq K) (tCB (uRepr K) (tCons (tVar 0) tNil)) (tCB (uRepr K) (tCons (tVar 1) tNil))))
def sp__law_same (K : PySem.W.Frag) : Sp := fun vs H Q E => vs.length = 2 ∧ t__law_same K E { nx := fun _ H' => Q .non H', rt := Q } (start N__law_same vs) H
abbrev s__law_fields_any : Stmt := top 46
abbrev N__law_fields_any : List Str := ["_law_state_here", "_law_kind", "_law_numbers", "_law_place", "_law_data", "_law_lap"]
theorem sc__law_fields_any : FnScope N__law_fields_any ["_law_state_here"] (defScope s__law_fields_any) := ⟨rfl, rfl, rfl, by decide +kernel, rfl, by decide +kernel, by decide +kernel⟩
def t__law_fields_any (K : PySem.W.Frag) (E : XK) : TS :=
    (tSeq (tAsg (tOp (rIx K) (tLst (tCons (tC (.str "write")) (tCons (tC (.str "trim")) (tCons (tC (.str "member")) (tCons (tC (.str "commit")) tNil))))) (tCall (sp__law_choice K) [] E (tCons (tVar 0) (tCons (tC (.int 4)) tNil)))) (gName 1))
    (tSeq (tAsg (tLc (iRng1 (tCons (tC (.int 2)) tNil)) (gName 5) tYes (tOp (rIx K) (tLst (tCons (tC (.int 0)) (tCons (tC (.int 1)) (tCons (tC (.int 16383)) (tCons (tCall (sp__law_choice K) [] E0 (tCons (tVar 0) (tCons (tC (.int 16384)) tNil))) tNil))))) (tCall (sp__law_choice K) [] E0 (tCons (tVar 0) (tCons (tC (.int 4)) tNil)))) [5]) (gName 2))
    (tSeq (tAsg (tOp (rIx K) (tLst (tCons (tC (.int 0)) (tCons (tC (.int 15)) (tCons (tCall (sp__law_choice K) [] E (tCons (tVar 0) (tCons (tC (.int 16)) tNil))) tNil)))) (tCall (sp__law_choice K) [] E (tCons (tVar 0) (tCons (tC (.int 3)) tNil)))) (gName 3))
    (tSeq (tAsg (tOp (rIx K) (tLst (tCons (tC (.int 0)) (tCons (tC (.int 63)) (tCons (tCall (sp__law_choice K) [] E (tCons (tVar 0) (tCons (tC (.int 64)) tNil))) tNil)))) (tCall (sp__law_choice K) [] E (tCons (tVar 0) (tCons (tC (.int 3)) tNil)))) (gName 4))
    (tSeq (tIfS (tTest (tOp (uEq K) (tVar 1) (tC (.str "commit")))) (tRet (tTup (tCons (tVar 1) (tCons (tC (.int 0)) (tCons (tOp (rIx K) (tVar 2) (tC (.int 0))) (tCons (tOp (rIx K) (tVar 2) (tC (.int 1))) (tCons (tC (.int 0)) tNil))))))) tNext)
    (tRet (tTup (tCons (tVar 1) (tCons (tVar 3) (tCons (tOp (rIx K) (tVar 2) (tC (.int 0))) (tCons (tOp (uMul K) (tOp (rIx K) (tVar 2) (tC (.int 1))) (tCB uInt (tCons (tOp (uEq K) (tVar 1) (tC (.str "member"))) tNil))) (tCons (tOp (uMul K) (tVar 4) (tCB uInt (tCons (tOp (uNe K) (tVar 1) (tC (.str "trim"))) tNil))) tNil))))))))))))
def sp__law_fields_any (K : PySem.W.Frag) : Sp := fun vs H Q E => vs.length = 1 ∧ t__law_fields_any K E { nx := fun _ H' => Q .non H', rt := Q } (start N__law_fields_any vs) H
abbrev s__law_in_right : Stmt := top 47
abbrev N__law_in_right : List Str := ["_law_word_here", "_law_sealed_so", "_law_owed"]
theorem sc__law_in_right : FnScope N__law_in_right ["_law_word_here"] (defScope s__law_in_right) := ⟨rfl, rfl, rfl, by decide +kernel, rfl, by decide +kernel, by decide +kernel⟩
def t__law_in_right (K : PySem.W.Frag) (E : XK) : TS :=
    (tSeq (tFor (iList K (tLst (tCons (tC (.bl true)) (tCons (tC (.bl false)) tNil)))) (gName 1) (tSeq (tAsg (tCall (sp__law_opened K) [] E (tCons (tVar 0) (tCons (tVar 1) tNil))) (gName 2))
    (tIfS (tNot (tB (tCall (sp__law_same K) [] E (tCons (tLst (tCons (tCall (sp_fields_in K) [] E (tCons (tVar 0) (tCons (tVar 1) tNil))) (tCons (tCall (sp_fields_in K) [] E (tCons (tVar 0) (tCons (tVar 1) tNil))) tNil))) (tCons (tLst (tCons (tVar 2) (tCons (tVar 2) tNil))) tNil))))) (tRet (tC (.bl false))) tNext)))
    (tRet (tOp (uEq K) (tCall (sp_fields_in K) [(.bl true)] E (tCons (tVar 0) tNil)) (tCall (sp_fields_in K) [] E (tCons (tVar 0) (tCons (tC (.bl true)) tNil))))))
def sp__law_in_right (K : PySem.W.Frag) : Sp := fun vs H Q E => vs.length = 1 ∧ t__law_in_right K E { nx := fun _ H' => Q .non H', rt := Q } (start N__law_in_right vs) H
abbrev s__law_right : Stmt := top 48
abbrev N__law_right : List Str := ["_law_state_here", "_law_fields", "_law_ahead", "_law_words", "_law_one", "_law_two", "_law_some", "_law_odd_number", "_law_word_here"]
theorem sc__law_right : FnScope N__law_right ["_law_state_here"] (defScope s__law_right) := ⟨rfl, rfl, rfl, by decide +kernel, rfl, by decide +kernel, by decide +kernel⟩
def t__law_right (K : PySem.W.Frag) (E : XK) : TS :=
    (tSeq (tAsg (tCall (sp__law_fields_any K) [] E (tCons (tVar 0) tNil)) (gName 1))
    (tSeq (tAsg (tCB (uRepr K) (tCons (tVar 1) tNil)) (gName 2))
    (tSeq (tAsg (tLst (tCons (tCall (sp_word_of K) [] E (tCons (tVar 1) (tCons (tC (.bl true)) tNil))) (tCons (tCall (sp_word_of K) [] E (tCons (tVar 1) (tCons (tC (.bl false)) tNil))) (tCons (tCall (sp_word_of K) [(.bl true)] E (tCons (tVar 1) tNil)) tNil)))) (gName 3))
    (tSeq (tIfS (tOr (tTest (tOp (uNe K) (tVar 3) (tLst (tCons (tCall (sp__law_word K) [] E (tCons (tVar 1) (tCons (tC (.bl true)) tNil))) (tCons (tCall (sp__law_word K) [] E (tCons (tVar 1) (tCons (tC (.bl false)) tNil))) (tCons (tCall (sp__law_word K) [] E (tCons (tVar 1) (tCons (tC (.bl true)) tNil))) tNil)))))) (tTest (tOp (uNe K) (tCB (uRepr K) (tCons (tVar 1) tNil)) (tVar 2)))) (tRet (tC (.bl false))) tNext)
    (tSeq (tPar 4 5 (tCons (tCall (sp__law_choice K) [] E (tCons (tVar 0) (tCons (tC (.int 47)) tNil))) (tCons (tCall (sp__law_choice K) [] E (tCons (tVar 0) (tCons (tC (.int 47)) tNil))) tNil)))
    (tSeq (tAsg (tOp (uAdd K) (tVar 3) (tLst (tCons (tOp uXor (tOp (rIx K) (tVar 3) (tC (.int 0))) (tOp uShl (tC (.int 1)) (tVar 4))) (tCons (tOp uXor (tOp uXor (tOp (rIx K) (tVar 3) (tC (.int 0))) (tOp uShl (tC (.int 1)) (tVar 4))) (tOp uShl (tC (.int 1)) (tVar 5))) (tCons (tOp uXor (tOp (rIx K) (tVar 3) (tC (.int 1))) (tOp uShl (tC (.int 1)) (tVar 4))) (tCons (tC (.int 0)) (tCons (tOp uSub (tOp uShl (tC (.int 1)) (tC (.int 47))) (tC (.int 1))) tNil))))))) (gName 6))
    (tSeq (tAsg (tCall (sp__law_choice K) [] E (tCons (tVar 0) (tCons (tOp uShl (tC (.int 1)) (tC (.int 40))) tNil))) (gName 7))
    (tSeq (tAsg (tOp (uAdd K) (tVar 6) (tLst (tCons (tCall (sp__law_choice K) [] E (tCons (tVar 0) (tCons (tOp uShl (tC (.int 1)) (tC (.int 47))) tNil))) (tCons (tVar 7) (tCons (tCall (sp__law_sealed K) [] E (tCons (tVar 7) (tCons (tC (.int 40)) tNil))) (tCons (tOp uSub (tOp uShl (tC (.int 1)) (tC (.int 40))) (tC (.int 1))) (tCons (tOp uShl (tC (.int 1)) (tC (.int 40))) tNil))))))) (gName 6))
    (tRet (tCB (rAll K) (tCons (tLc (uIter K (tVar 6)) (gName 8) tYes (tCall (sp__law_in_right K) [] E0 (tCons (tVar 8) tNil)) [8]) tNil)))))))))))
def sp__law_right (K : PySem.W.Frag) : Sp := fun vs H Q E => vs.length = 1 ∧ t__law_right K E { nx := fun _ H' => Q .non H', rt := Q } (start N__law_right vs) H
abbrev s_law : Stmt := top 49
abbrev N_law : List Str := ["_law_script", "_law_k", "_law_state_here", "_law_nth"]
theorem sc_law : FnScope N_law ["_law_script"] (defScope s_law) := ⟨rfl, rfl, rfl, by decide +kernel, rfl, by decide +kernel, by decide +kernel⟩
def t_law (K : PySem.W.Frag) (E : XK) : TS :=
    (tSeq (tFor (iRng1 (tCons (tCB uMax2 (tCons (tC (.int 1)) (tCons (tCB uMin2 (tCons (tCB (rLen K) (tCons (tVar 0) tNil)) (tCons (tC (.int 4)) tNil))) tNil))) tNil)) (gName 1) (tSeq (tAsg (tCall (sp__law_state K) [] E (tCons (tVar 0) (tCons (tVar 1) tNil))) (gName 2))
    (tFor (iRng1 (tCons (tC (.int 3)) tNil)) (gName 3) (tIfS (tNot (tB (tCall (sp__law_right K) [] E (tCons (tVar 2) tNil)))) (tRet (tC (.bl false))) tNext))))
    (tRet (tC (.bl true))))
def sp_law (K : PySem.W.Frag) : Sp := fun vs H Q E => vs.length = 1 ∧ t_law K E { nx := fun _ H' => Q .non H', rt := Q } (start N_law vs) H
/-! ### what the top has written -/
structure Bs (K : PySem.W.Frag) (mg : Str → Option Value) : Prop where
  n_all : mg "all" = none
  n_bool : mg "bool" = none
  n_enumerate : mg "enumerate" = none
  n_int : mg "int" = none
  n_isinstance : mg "isinstance" = none
  n_len : mg "len" = none
  n_max : mg "max" = none
  n_min : mg "min" = none
  n_range : mg "range" = none
  n_repr : mg "repr" = none
  n_str : mg "str" = none
  n_sum : mg "sum" = none
  n_tuple : mg "tuple" = none
  n_zip : mg "zip" = none
  r_FOLDS : mg "FOLDS" = some (.ref (He.ga K "FOLDS"))
  r_KINDS : mg "KINDS" = some (.ref (He.ga K "KINDS"))
  r_MASKS : mg "MASKS" = some (.ref (He.ga K "MASKS"))
  r_MOST : mg "MOST" = some (.ref (He.ga K "MOST"))
  c_WIDTH : ∃ t, mg "WIDTH" = some (.int 40 t)
  c_WORD_BITS : ∃ t, mg "WORD_BITS" = some (.int 47 t)
  x_NoFields : ExcF K mg "NoFields"
  x_NoWord : ExcF K mg "NoWord"
/-! ### each def keeps its promise -/
section
variable {P : Program} {w : World} {K : PySem.W.Frag} {mg : Str → Option Value} {base : Heap} {f : Addr} {fd : FuncData}
abbrev FnP (K : PySem.W.Frag) (x : Str) (st : Stmt) (dvs : List V) (f : Addr) (fd : FuncData) : Prop := FunD K x x (defArgs st) (defBody st) (defScope st) dvs [] f fd
theorem ok_is_whole (F : FnP K "is_whole" s_is_whole [] f fd) (B : Bs K mg) : FnOk P w K mg base (L2.CX P w) 1 f fd ["thing"] (sp_is_whole K) := by
  have sc := sc_is_whole
  refine F.ok sc (fun vs H Q E h => h.1) (fun cdv A outer s H vs Q E hr h => ⟨t_is_whole K E, ?_, h.2⟩)
  have tk := takes_def (P := P) (w := w) (K := K) (mg := mg) (base := base) (N := N_is_whole) (qual := "is_whole") (scope := defScope s_is_whole) (f := f) (cd := cdv) (A := A) (outer := outer) (s := s) (H := H) (E := E)
  have pC := pass_def tk
  have pO := own_def (P := P) (w := w) (K := K) (mg := mg) (base := base) (N := N_is_whole) (qual := "is_whole") (scope := defScope s_is_whole) (f := f) (cd := cdv) (A := A) (outer := outer) (s := s) (H := H) (E := E)
  have hU := hr.units
  exact (pss_one (ps_ret (L2.pe_and (pe_callB call_isi rfl B.n_isinstance (by decide +kernel) (pa_cons (pv 0) (pa_cons (pe_bltn rfl B.n_int (by decide +kernel) rfl) pa_nil))) (pe_one (pe_not (pe_callB call_isi rfl B.n_isinstance (by decide +kernel) (pa_cons (pv 0) (pa_cons (pe_bltn rfl B.n_bool (by decide +kernel) rfl) pa_nil))))))))
theorem ok_is_within (F : FnP K "is_within" s_is_within [] f fd) (B : Bs K mg) (C_is_whole : Cal P w K mg base 1 "is_whole" ["thing"] [] (sp_is_whole K)) : FnOk P w K mg base (L2.CX P w) 2 f fd ["thing", "least", "most"] (sp_is_within K) := by
  have sc := sc_is_within
  refine F.ok sc (fun vs H Q E h => h.1) (fun cdv A outer s H vs Q E hr h => ⟨t_is_within K E, ?_, h.2⟩)
  have tk := takes_def (P := P) (w := w) (K := K) (mg := mg) (base := base) (N := N_is_within) (qual := "is_within") (scope := defScope s_is_within) (f := f) (cd := cdv) (A := A) (outer := outer) (s := s) (H := H) (E := E)
  have pC := pass_def tk
  have pO := own_def (P := P) (w := w) (K := K) (mg := mg) (base := base) (N := N_is_within) (qual := "is_within") (scope := defScope s_is_within) (f := f) (cd := cdv) (A := A) (outer := outer) (s := s) (H := H) (E := E)
  have hU := hr.units
  exact (pss_one (ps_ret (L2.pe_and (pe_cal C_is_whole hr (by decide) rfl pC (pa_cons (pv 0) pa_nil)) (pe_one (pe_chain o_le o_le (pv 1) (pv 0) (pv 2))))))
theorem ok_checks_for (F : FnP K "checks_for" s_checks_for [] f fd) (B : Bs K mg) : FnOk P w K mg base (L2.CX P w) 1 f fd ["width"] (sp_checks_for K) := by
  have sc := sc_checks_for
  refine F.ok sc (fun vs H Q E h => h.1) (fun cdv A outer s H vs Q E hr h => ⟨t_checks_for K E, ?_, h.2⟩)
  have tk := takes_def (P := P) (w := w) (K := K) (mg := mg) (base := base) (N := N_checks_for) (qual := "checks_for") (scope := defScope s_checks_for) (f := f) (cd := cdv) (A := A) (outer := outer) (s := s) (H := H) (E := E)
  have pC := pass_def tk
  have pO := own_def (P := P) (w := w) (K := K) (mg := mg) (base := base) (N := N_checks_for) (qual := "checks_for") (scope := defScope s_checks_for) (f := f) (cd := cdv) (A := A) (outer := outer) (s := s) (H := H) (E := E)
  have hU := hr.units
  exact (pss_cons (ps_set (i := 1) sc.nd rfl (Or.inl rfl) pe_int)
      (pss_cons (ps_while pO (pt_cmpR o_lt (pe_op o_shl pe_int (pv 1)) (pe_op o_add (pe_op o_add (pv 0) (pv 1)) pe_int) (nomark _)) (pss_one (ps_aug (i := 1) sc.nd rfl (Or.inl rfl) pe_int ip_add)))
      (pss_one (ps_ret (pv 1)))))
theorem ok_is_odd (F : FnP K "is_odd" s_is_odd [] f fd) (B : Bs K mg) : FnOk P w K mg base (L2.CX P w) 1 f fd ["word"] (sp_is_odd K) := by
  have sc := sc_is_odd
  refine F.ok sc (fun vs H Q E h => h.1) (fun cdv A outer s H vs Q E hr h => ⟨t_is_odd K E, ?_, h.2⟩)
  have tk := takes_def (P := P) (w := w) (K := K) (mg := mg) (base := base) (N := N_is_odd) (qual := "is_odd") (scope := defScope s_is_odd) (f := f) (cd := cdv) (A := A) (outer := outer) (s := s) (H := H) (E := E)
  have pC := pass_def tk
  have pO := own_def (P := P) (w := w) (K := K) (mg := mg) (base := base) (N := N_is_odd) (qual := "is_odd") (scope := defScope s_is_odd) (f := f) (cd := cdv) (A := A) (outer := outer) (s := s) (H := H) (E := E)
  have hU := hr.units
  exact (pss_cons (ps_for pO rfl (pi_tup (pe_glob rfl B.r_FOLDS rfl)) (pg_name (i := 1) sc.nd rfl (Or.inl rfl)) (pss_one (ps_set (i := 0) sc.nd rfl (Or.inl rfl) (pe_op o_xor (pv 0) (pe_op o_shr (pv 0) (pv 1))))))
      (pss_one (ps_ret (pe_cmpR (o_eq hU) (pe_op o_mod (pv 0) pe_int) pe_int (nomark _)))))
theorem ok_wrong_of (F : FnP K "wrong_of" s_wrong_of [] f fd) (B : Bs K mg) (C_is_odd : Cal P w K mg base 1 "is_odd" ["word"] [] (sp_is_odd K)) : FnOk P w K mg base (L2.CX P w) 2 f fd ["word"] (sp_wrong_of K) := by
  have sc := sc_wrong_of
  refine F.ok sc (fun vs H Q E h => h.1) (fun cdv A outer s H vs Q E hr h => ⟨t_wrong_of K E, ?_, h.2⟩)
  have tk := takes_def (P := P) (w := w) (K := K) (mg := mg) (base := base) (N := N_wrong_of) (qual := "wrong_of") (scope := defScope s_wrong_of) (f := f) (cd := cdv) (A := A) (outer := outer) (s := s) (H := H) (E := E)
  have pC := pass_def tk
  have pO := own_def (P := P) (w := w) (K := K) (mg := mg) (base := base) (N := N_wrong_of) (qual := "wrong_of") (scope := defScope s_wrong_of) (f := f) (cd := cdv) (A := A) (outer := outer) (s := s) (H := H) (E := E)
  have hU := hr.units
  exact (pss_one (ps_ret (pe_callB (cr_sum rfl) rfl B.n_sum (by decide +kernel) (pa_cons (pe_lc (own := [("check", 1), ("mask", 2)]) rfl sc.nd (pi_enumA rfl B.n_enumerate (pa_cons (pe_glob rfl B.r_MASKS rfl) pa_nil)) (blkOk_by (own := [("check", 1), ("mask", 2)]) (N := N_wrong_of) (sc := defScope s_wrong_of) (by decide +kernel)) (fun _ _ _ _ _ => (pg_tup rfl (pgs_cons (pg_name (i := 1) sc.nd rfl (Or.inl rfl)) (pgs_cons (pg_name (i := 2) sc.nd rfl (Or.inl rfl)) pgs_nil)))) (fun _ _ _ _ _ => pts_nil) (fun _ _ _ _ _ => (pe_op o_shl (pe_callTy call_int1 rfl B.n_int (by decide +kernel) (pa_cons (pe_cal C_is_odd hr (by decide) rfl passL (pa_cons (pe_op o_and (pv 0) (pv 2)) pa_nil)) pa_nil)) (pv 1)))) pa_nil))))
theorem ok_runs_of (F : FnP K "runs_of" s_runs_of [] f fd) (B : Bs K mg) : FnOk P w K mg base (L2.CX P w) 1 f fd ["width"] (sp_runs_of K) := by
  have sc := sc_runs_of
  refine F.ok sc (fun vs H Q E h => h.1) (fun cdv A outer s H vs Q E hr h => ⟨t_runs_of K E, ?_, h.2⟩)
  have tk := takes_def (P := P) (w := w) (K := K) (mg := mg) (base := base) (N := N_runs_of) (qual := "runs_of") (scope := defScope s_runs_of) (f := f) (cd := cdv) (A := A) (outer := outer) (s := s) (H := H) (E := E)
  have pC := pass_def tk
  have pO := own_def (P := P) (w := w) (K := K) (mg := mg) (base := base) (N := N_runs_of) (qual := "runs_of") (scope := defScope s_runs_of) (f := f) (cd := cdv) (A := A) (outer := outer) (s := s) (H := H) (E := E)
  have hU := hr.units
  exact (pss_cons (ps_par3 (i := 1) (j := 2) (l := 3) rfl sc.nd rfl rfl rfl (by decide) (by decide) (by decide) rfl rfl rfl (pa_cons (pe_lst pa_nil) (pa_cons (pv 0) (pa_cons pe_int pa_nil))) rfl)
      (pss_cons (ps_while pO (pt_cmpR o_gt (pv 2) pe_int (nomark _)) (pss_cons (ps_set (i := 4) sc.nd rfl (Or.inl rfl) (pe_callB (call_min2 rfl) rfl B.n_min (by decide +kernel) (pa_cons (pe_op o_sub (pv 3) pe_int) (pa_cons (pv 2) pa_nil))))
      (pss_cons (ps_expr (pe_bm PySem.F.plainAttrs_list PySem.F.slot_list_append PySem.F.type_list_append mt_append (pv 1) (pa_cons (pe_tup (pa_cons (pe_op o_add (pv 3) pe_int) (pa_cons (pv 4) pa_nil))) pa_nil)))
      (pss_one (ps_par (i := 2) (j := 3) rfl sc.nd rfl rfl (by decide) rfl rfl (pa_cons (pe_op o_sub (pv 2) (pv 4)) (pa_cons (pe_op o_mul pe_int (pv 3)) pa_nil)) rfl)))))
      (pss_one (ps_ret (pv 1)))))
theorem ok_seal_by (F : FnP K "seal_by" s_seal_by [] f fd) (B : Bs K mg) (C_checks_for : Cal P w K mg base 1 "checks_for" ["width"] [] (sp_checks_for K)) (C_is_odd : Cal P w K mg base 1 "is_odd" ["word"] [] (sp_is_odd K)) (C_runs_of : Cal P w K mg base 1 "runs_of" ["width"] [] (sp_runs_of K)) (C_wrong_of : Cal P w K mg base 2 "wrong_of" ["word"] [] (sp_wrong_of K)) : FnOk P w K mg base (L2.CX P w) 3 f fd ["number", "width"] (sp_seal_by K) := by
  have sc := sc_seal_by
  refine F.ok sc (fun vs H Q E h => h.1) (fun cdv A outer s H vs Q E hr h => ⟨t_seal_by K E, ?_, h.2⟩)
  have tk := takes_def (P := P) (w := w) (K := K) (mg := mg) (base := base) (N := N_seal_by) (qual := "seal_by") (scope := defScope s_seal_by) (f := f) (cd := cdv) (A := A) (outer := outer) (s := s) (H := H) (E := E)
  have pC := pass_def tk
  have pO := own_def (P := P) (w := w) (K := K) (mg := mg) (base := base) (N := N_seal_by) (qual := "seal_by") (scope := defScope s_seal_by) (f := f) (cd := cdv) (A := A) (outer := outer) (s := s) (H := H) (E := E)
  have hU := hr.units
  exact (pss_cons (ps_set (i := 2) sc.nd rfl (Or.inl rfl) pe_int)
      (pss_cons (ps_for pO rfl (pi_or (pi_list (pe_cal C_runs_of hr (by decide) rfl pC (pa_cons (pv 1) pa_nil))) (pi_tup (pe_cal C_runs_of hr (by decide) rfl pC (pa_cons (pv 1) pa_nil)))) (pg_tup rfl (pgs_cons (pg_name (i := 3) sc.nd rfl (Or.inl rfl)) (pgs_cons (pg_name (i := 4) sc.nd rfl (Or.inl rfl)) pgs_nil))) (pss_cons (ps_aug (i := 2) sc.nd rfl (Or.inl rfl) (pe_op o_shl (pe_op o_mod (pv 0) (pe_op o_shl pe_int (pv 4))) (pv 3)) ip_add)
      (pss_one (ps_set (i := 0) sc.nd rfl (Or.inl rfl) (pe_op o_shr (pv 0) (pv 4))))))
      (pss_cons (ps_set (i := 5) sc.nd rfl (Or.inl rfl) (pe_cal C_wrong_of hr (by decide) rfl pC (pa_cons (pv 2) pa_nil)))
      (pss_cons (ps_for pO rfl (pi_range1 rfl B.n_range (pa_cons (pe_cal C_checks_for hr (by decide) rfl pC (pa_cons (pv 1) pa_nil)) pa_nil)) (pg_name (i := 6) sc.nd rfl (Or.inl rfl)) (pss_one (ps_aug (i := 2) sc.nd rfl (Or.inl rfl) (pe_op o_shl (pe_op o_mod (pe_op o_shr (pv 5) (pv 6)) pe_int) (pe_op o_shl pe_int (pv 6))) ip_add)))
      (pss_one (ps_ret (pe_op o_add (pv 2) (pe_callTy call_int1 rfl B.n_int (by decide +kernel) (pa_cons (pe_cal C_is_odd hr (by decide) rfl pC (pa_cons (pv 2) pa_nil)) pa_nil)))))))))
theorem ok_number_in (F : FnP K "number_in" s_number_in [] f fd) (B : Bs K mg) (C_runs_of : Cal P w K mg base 1 "runs_of" ["width"] [] (sp_runs_of K)) : FnOk P w K mg base (L2.CX P w) 2 f fd ["word", "width"] (sp_number_in K) := by
  have sc := sc_number_in
  refine F.ok sc (fun vs H Q E h => h.1) (fun cdv A outer s H vs Q E hr h => ⟨t_number_in K E, ?_, h.2⟩)
  have tk := takes_def (P := P) (w := w) (K := K) (mg := mg) (base := base) (N := N_number_in) (qual := "number_in") (scope := defScope s_number_in) (f := f) (cd := cdv) (A := A) (outer := outer) (s := s) (H := H) (E := E)
  have pC := pass_def tk
  have pO := own_def (P := P) (w := w) (K := K) (mg := mg) (base := base) (N := N_number_in) (qual := "number_in") (scope := defScope s_number_in) (f := f) (cd := cdv) (A := A) (outer := outer) (s := s) (H := H) (E := E)
  have hU := hr.units
  exact (pss_cons (ps_asg (pe_tup (pa_cons pe_int (pa_cons pe_int pa_nil))) (pg_tup rfl (pgs_cons (pg_name (i := 2) sc.nd rfl (Or.inl rfl)) (pgs_cons (pg_name (i := 3) sc.nd rfl (Or.inl rfl)) pgs_nil))))
      (pss_cons (ps_for pO rfl (pi_or (pi_list (pe_cal C_runs_of hr (by decide) rfl pC (pa_cons (pv 1) pa_nil))) (pi_tup (pe_cal C_runs_of hr (by decide) rfl pC (pa_cons (pv 1) pa_nil)))) (pg_tup rfl (pgs_cons (pg_name (i := 4) sc.nd rfl (Or.inl rfl)) (pgs_cons (pg_name (i := 5) sc.nd rfl (Or.inl rfl)) pgs_nil))) (pss_cons (ps_aug (i := 2) sc.nd rfl (Or.inl rfl) (pe_op o_shl (pe_op o_mod (pe_op o_shr (pv 0) (pv 4)) (pe_op o_shl pe_int (pv 5))) (pv 3)) ip_add)
      (pss_one (ps_aug (i := 3) sc.nd rfl (Or.inl rfl) (pv 5) ip_add))))
      (pss_one (ps_ret (pv 2)))))
theorem ok_opened_by (F : FnP K "opened_by" s_opened_by [] f fd) (B : Bs K mg) (C_checks_for : Cal P w K mg base 1 "checks_for" ["width"] [] (sp_checks_for K)) (C_is_odd : Cal P w K mg base 1 "is_odd" ["word"] [] (sp_is_odd K)) (C_number_in : Cal P w K mg base 2 "number_in" ["word", "width"] [] (sp_number_in K)) (C_wrong_of : Cal P w K mg base 2 "wrong_of" ["word"] [] (sp_wrong_of K)) : FnOk P w K mg base (L2.CX P w) 3 f fd ["word", "width"] (sp_opened_by K) := by
  have sc := sc_opened_by
  refine F.ok sc (fun vs H Q E h => h.1) (fun cdv A outer s H vs Q E hr h => ⟨t_opened_by K E, ?_, h.2⟩)
  have tk := takes_def (P := P) (w := w) (K := K) (mg := mg) (base := base) (N := N_opened_by) (qual := "opened_by") (scope := defScope s_opened_by) (f := f) (cd := cdv) (A := A) (outer := outer) (s := s) (H := H) (E := E)
  have pC := pass_def tk
  have pO := own_def (P := P) (w := w) (K := K) (mg := mg) (base := base) (N := N_opened_by) (qual := "opened_by") (scope := defScope s_opened_by) (f := f) (cd := cdv) (A := A) (outer := outer) (s := s) (H := H) (E := E)
  have hU := hr.units
  exact (pss_cons (ps_par (i := 2) (j := 3) rfl sc.nd rfl rfl (by decide) rfl rfl (pa_cons (pe_cal C_wrong_of hr (by decide) rfl pC (pa_cons (pv 0) pa_nil)) (pa_cons (pe_cal C_is_odd hr (by decide) rfl pC (pa_cons (pv 0) pa_nil)) pa_nil)) rfl)
      (pss_cons (ps_if (PW.pt (pw_and (pt_cmpR (o_eq hU) (pv 2) pe_int (nomark _)) (pw_and1 (pt_not (pt_val (pv 3)))))) (pss_one (ps_ret (pe_tup (pa_cons pe_str (pa_cons (pe_cal C_number_in hr (by decide) rfl pC (pa_cons (pv 0) (pa_cons (pv 1) pa_nil))) pa_nil))))) pss_nil)
      (pss_cons (ps_if (PW.pt (pw_or (pt_not (pt_val (pv 3))) (pw_or1 (pt_cmpR o_gt (pv 2) (pe_op o_add (pv 1) (pe_cal C_checks_for hr (by decide) rfl pC (pa_cons (pv 1) pa_nil))) (nomark _))))) (pss_one (ps_ret (pe_tup (pa_cons pe_str pa_nil)))) pss_nil)
      (pss_one (ps_ret (pe_tup (pa_cons pe_str (pa_cons (pe_cal C_number_in hr (by decide) rfl pC (pa_cons (pe_op o_xor (pv 0) (pe_op o_shl pe_int (pv 2))) (pa_cons (pv 1) pa_nil))) (pa_cons (pv 2) pa_nil)))))))))
theorem ok_is_fields (F : FnP K "is_fields" s_is_fields [] f fd) (B : Bs K mg) (C_is_within : Cal P w K mg base 2 "is_within" ["thing", "least", "most"] [] (sp_is_within K)) : FnOk P w K mg base (L2.CX P w) 3 f fd ["thing"] (sp_is_fields K) := by
  have sc := sc_is_fields
  refine F.ok sc (fun vs H Q E h => h.1) (fun cdv A outer s H vs Q E hr h => ⟨t_is_fields K E, ?_, h.2⟩)
  have tk := takes_def (P := P) (w := w) (K := K) (mg := mg) (base := base) (N := N_is_fields) (qual := "is_fields") (scope := defScope s_is_fields) (f := f) (cd := cdv) (A := A) (outer := outer) (s := s) (H := H) (E := E)
  have pC := pass_def tk
  have pO := own_def (P := P) (w := w) (K := K) (mg := mg) (base := base) (N := N_is_fields) (qual := "is_fields") (scope := defScope s_is_fields) (f := f) (cd := cdv) (A := A) (outer := outer) (s := s) (H := H) (E := E)
  have hU := hr.units
  exact (pss_cons (ps_if (PW.pt (pw_or (pt_not (pt_val (pe_callB call_isi rfl B.n_isinstance (by decide +kernel) (pa_cons (pv 0) (pa_cons (pe_bltn rfl B.n_tuple (by decide +kernel) rfl) pa_nil))))) (pw_or1 (pt_cmpR (o_ne hU) (pe_callB call_len rfl B.n_len (by decide +kernel) (pa_cons (pv 0) pa_nil)) (pe_op o_add (pe_callB call_len rfl B.n_len (by decide +kernel) (pa_cons (pe_glob rfl B.r_MOST rfl) pa_nil)) pe_int) (nomark _))))) (pss_one (ps_ret pe_bl)) pss_nil)
      (pss_cons (ps_asg (pv 0) (pg_tup rfl (pgs_cons (pg_name (i := 1) sc.nd rfl (Or.inl rfl)) (pgs_cons (pg_name (i := 2) sc.nd rfl (Or.inl rfl)) (pgs_cons (pg_name (i := 3) sc.nd rfl (Or.inl rfl)) (pgs_cons (pg_name (i := 4) sc.nd rfl (Or.inl rfl)) (pgs_cons (pg_name (i := 5) sc.nd rfl (Or.inl rfl)) pgs_nil)))))))
      (pss_cons (ps_if (PW.pt (pw_or (pt_not (pt_val (pe_callB call_isi rfl B.n_isinstance (by decide +kernel) (pa_cons (pv 1) (pa_cons (pe_bltn rfl B.n_str (by decide +kernel) rfl) pa_nil))))) (pw_or1 (pt_cmpR (o_nin hU) (pv 1) (pe_glob rfl B.r_KINDS rfl) (by with_unfolding_all rfl))))) (pss_one (ps_ret pe_bl)) pss_nil)
      (pss_cons (ps_if (pt_not (pt_val (pe_callB (cr_all rfl) rfl B.n_all (by decide +kernel) (pa_cons (pe_lc (own := [("one", 6), ("most", 7)]) rfl sc.nd (RZ.pi_zipA rfl B.n_zip (pa_cons (pe_slice sl_any (pv 0) (po_some pe_int) po_none) (pa_cons (pe_glob rfl B.r_MOST rfl) pa_nil))) (blkOk_by (own := [("one", 6), ("most", 7)]) (N := N_is_fields) (sc := defScope s_is_fields) (by decide +kernel)) (fun _ _ _ _ _ => (pg_tup rfl (pgs_cons (pg_name (i := 6) sc.nd rfl (Or.inl rfl)) (pgs_cons (pg_name (i := 7) sc.nd rfl (Or.inl rfl)) pgs_nil)))) (fun _ _ _ _ _ => pts_nil) (fun _ _ _ _ _ => (pe_cal C_is_within hr (by decide) rfl passL (pa_cons (pv 6) (pa_cons pe_int (pa_cons (pv 7) pa_nil)))))) pa_nil)))) (pss_one (ps_ret pe_bl)) pss_nil)
      (pss_cons (ps_if (pt_cmpR (o_eq hU) (pv 1) pe_str (nomark _)) (pss_one (ps_ret (L2.pe_and (pe_cmpR (o_eq hU) (pv 2) pe_int (nomark _)) (pe_one (pe_cmpR (o_eq hU) (pv 5) pe_int (nomark _)))))) pss_nil)
      (pss_one (ps_ret (L2.pe_and (L2.pe_or (pe_cmpR (o_eq hU) (pv 4) pe_int (nomark _)) (pe_one (pe_cmpR (o_eq hU) (pv 1) pe_str (nomark _)))) (pe_one (L2.pe_or (pe_cmpR (o_eq hU) (pv 5) pe_int (nomark _)) (pe_one (pe_cmpR (o_ne hU) (pv 1) pe_str (nomark _)))))))))))))
theorem ok_number_of (F : FnP K "number_of" s_number_of [] f fd) (B : Bs K mg) : FnOk P w K mg base (L2.CX P w) 1 f fd ["fields"] (sp_number_of K) := by
  have sc := sc_number_of
  refine F.ok sc (fun vs H Q E h => h.1) (fun cdv A outer s H vs Q E hr h => ⟨t_number_of K E, ?_, h.2⟩)
  have tk := takes_def (P := P) (w := w) (K := K) (mg := mg) (base := base) (N := N_number_of) (qual := "number_of") (scope := defScope s_number_of) (f := f) (cd := cdv) (A := A) (outer := outer) (s := s) (H := H) (E := E)
  have pC := pass_def tk
  have pO := own_def (P := P) (w := w) (K := K) (mg := mg) (base := base) (N := N_number_of) (qual := "number_of") (scope := defScope s_number_of) (f := f) (cd := cdv) (A := A) (outer := outer) (s := s) (H := H) (E := E)
  have hU := hr.units
  exact (pss_cons (ps_set (i := 1) sc.nd rfl (Or.inl rfl) (pe_bm PySem.F.plainAttrs_tuple PySem.F.slot_tuple_index PySem.F.type_tuple_index mt_tup_index (pe_glob rfl B.r_KINDS rfl) (pa_cons (pe_ix ix_seq (pv 0) pe_int (fun _ _ => rfl)) pa_nil)))
      (pss_cons (ps_for pO rfl (RZ.pi_zipA rfl B.n_zip (pa_cons (pe_slice sl_any (pv 0) (po_some pe_int) po_none) (pa_cons (pe_glob rfl B.r_MOST rfl) pa_nil))) (pg_tup rfl (pgs_cons (pg_name (i := 2) sc.nd rfl (Or.inl rfl)) (pgs_cons (pg_name (i := 3) sc.nd rfl (Or.inl rfl)) pgs_nil))) (pss_one (ps_set (i := 1) sc.nd rfl (Or.inl rfl) (pe_op o_add (pe_op o_mul (pv 1) (pe_op o_add (pv 3) pe_int)) (pv 2)))))
      (pss_one (ps_ret (pv 1)))))
theorem ok_fields_of (F : FnP K "fields_of" s_fields_of [] f fd) (B : Bs K mg) (C_is_fields : Cal P w K mg base 3 "is_fields" ["thing"] [] (sp_is_fields K)) : FnOk P w K mg base (L2.CX P w) 4 f fd ["number"] (sp_fields_of K) := by
  have sc := sc_fields_of
  refine F.ok sc (fun vs H Q E h => h.1) (fun cdv A outer s H vs Q E hr h => ⟨t_fields_of K E, ?_, h.2⟩)
  have tk := takes_def (P := P) (w := w) (K := K) (mg := mg) (base := base) (N := N_fields_of) (qual := "fields_of") (scope := defScope s_fields_of) (f := f) (cd := cdv) (A := A) (outer := outer) (s := s) (H := H) (E := E)
  have pC := pass_def tk
  have pO := own_def (P := P) (w := w) (K := K) (mg := mg) (base := base) (N := N_fields_of) (qual := "fields_of") (scope := defScope s_fields_of) (f := f) (cd := cdv) (A := A) (outer := outer) (s := s) (H := H) (E := E)
  have hU := hr.units
  exact (pss_cons (ps_set (i := 1) sc.nd rfl (Or.inl rfl) (pe_tup pa_nil))
      (pss_cons (ps_for pO rfl (pi_or (pi_list (pe_rev (pe_glob rfl B.r_MOST rfl))) (pi_tup (pe_rev (pe_glob rfl B.r_MOST rfl)))) (pg_name (i := 2) sc.nd rfl (Or.inl rfl)) (pss_cons (ps_set (i := 1) sc.nd rfl (Or.inl rfl) (pe_op o_add (pe_tup (pa_cons (pe_op o_mod (pv 0) (pe_op o_add (pv 2) pe_int)) pa_nil)) (pv 1)))
      (pss_one (ps_set (i := 0) sc.nd rfl (Or.inl rfl) (pe_op o_fdv (pv 0) (pe_op o_add (pv 2) pe_int))))))
      (pss_cons (ps_if (pt_cmpR o_ge (pv 0) (pe_callB call_len rfl B.n_len (by decide +kernel) (pa_cons (pe_glob rfl B.r_KINDS rfl) pa_nil)) (nomark _)) (pss_one (ps_ret pe_non)) pss_nil)
      (pss_cons (ps_set (i := 3) sc.nd rfl (Or.inl rfl) (pe_op o_add (pe_tup (pa_cons (pe_ix ix_seq (pe_glob rfl B.r_KINDS rfl) (pv 0) (fun _ _ => rfl)) pa_nil)) (pv 1)))
      (pss_one (ps_ret (pe_ifExp (pt_val (pe_cal C_is_fields hr (by decide) rfl pC (pa_cons (pv 3) pa_nil))) (pv 3) pe_non)))))))
theorem ok_word_by (F : FnP K "word_by" s_word_by [] f fd) (B : Bs K mg) (C_number_of : Cal P w K mg base 1 "number_of" ["fields"] [] (sp_number_of K)) (C_seal_by : Cal P w K mg base 3 "seal_by" ["number", "width"] [] (sp_seal_by K)) : FnOk P w K mg base (L2.CX P w) 4 f fd ["fields", "sealed"] (sp_word_by K) := by
  have sc := sc_word_by
  obtain ⟨_, h_WIDTH⟩ := B.c_WIDTH
  refine F.ok sc (fun vs H Q E h => h.1) (fun cdv A outer s H vs Q E hr h => ⟨t_word_by K E, ?_, h.2⟩)
  have tk := takes_def (P := P) (w := w) (K := K) (mg := mg) (base := base) (N := N_word_by) (qual := "word_by") (scope := defScope s_word_by) (f := f) (cd := cdv) (A := A) (outer := outer) (s := s) (H := H) (E := E)
  have pC := pass_def tk
  have pO := own_def (P := P) (w := w) (K := K) (mg := mg) (base := base) (N := N_word_by) (qual := "word_by") (scope := defScope s_word_by) (f := f) (cd := cdv) (A := A) (outer := outer) (s := s) (H := H) (E := E)
  have hU := hr.units
  exact (pss_cons (ps_set (i := 2) sc.nd rfl (Or.inl rfl) (pe_cal C_number_of hr (by decide) rfl pC (pa_cons (pv 0) pa_nil)))
      (pss_one (ps_ret (pe_ifExp (pt_val (pv 1)) (pe_cal C_seal_by hr (by decide) rfl pC (pa_cons (pv 2) (pa_cons (pe_glob rfl h_WIDTH ⟨_, rfl⟩) pa_nil))) (pv 2)))))
theorem ok_fields_by (F : FnP K "fields_by" s_fields_by [] f fd) (B : Bs K mg) (C_fields_of : Cal P w K mg base 4 "fields_of" ["number"] [] (sp_fields_of K)) (C_opened_by : Cal P w K mg base 3 "opened_by" ["word", "width"] [] (sp_opened_by K)) : FnOk P w K mg base (L2.CX P w) 5 f fd ["word", "sealed"] (sp_fields_by K) := by
  have sc := sc_fields_by
  obtain ⟨_, h_WIDTH⟩ := B.c_WIDTH
  refine F.ok sc (fun vs H Q E h => h.1) (fun cdv A outer s H vs Q E hr h => ⟨t_fields_by K E, ?_, h.2⟩)
  have tk := takes_def (P := P) (w := w) (K := K) (mg := mg) (base := base) (N := N_fields_by) (qual := "fields_by") (scope := defScope s_fields_by) (f := f) (cd := cdv) (A := A) (outer := outer) (s := s) (H := H) (E := E)
  have pC := pass_def tk
  have pO := own_def (P := P) (w := w) (K := K) (mg := mg) (base := base) (N := N_fields_by) (qual := "fields_by") (scope := defScope s_fields_by) (f := f) (cd := cdv) (A := A) (outer := outer) (s := s) (H := H) (E := E)
  have hU := hr.units
  exact (pss_cons (ps_if (pt_cmpR o_is (pv 0) pe_non (nomark _)) (pss_one (ps_ret (pe_tup (pa_cons pe_str (pa_cons pe_non pa_nil))))) pss_nil)
      (pss_cons (ps_set (i := 2) sc.nd rfl (Or.inl rfl) (pe_ifExp (pt_val (pv 1)) (pe_cal C_opened_by hr (by decide) rfl pC (pa_cons (pv 0) (pa_cons (pe_glob rfl h_WIDTH ⟨_, rfl⟩) pa_nil))) (pe_tup (pa_cons pe_str (pa_cons (pv 0) pa_nil)))))
      (pss_cons (ps_set (i := 3) sc.nd rfl (Or.inl rfl) (pe_ifExp (pt_cmpR (o_ne hU) (pe_ix ix_seq (pv 2) pe_int (fun _ _ => rfl)) pe_str (nomark _)) (pe_cal C_fields_of hr (by decide) rfl pC (pa_cons (pe_ix ix_seq (pv 2) pe_int (fun _ _ => rfl)) pa_nil)) pe_non))
      (pss_one (ps_ret (pe_ifExp (pt_cmpR o_is (pv 3) pe_non (nomark _)) (pe_tup (pa_cons pe_str (pa_cons pe_non pa_nil))) (pe_tup (pa_cons (pe_ix ix_seq (pv 2) pe_int (fun _ _ => rfl)) (pa_cons (pv 3) pa_nil)))))))))
theorem ok_need_word (F : FnP K "need_word" s_need_word [] f fd) (B : Bs K mg) (C_is_within : Cal P w K mg base 2 "is_within" ["thing", "least", "most"] [] (sp_is_within K)) : FnOk P w K mg base (L2.CX P w) 3 f fd ["word"] (sp_need_word K) := by
  have sc := sc_need_word
  obtain ⟨_, h_WORD_BITS⟩ := B.c_WORD_BITS
  refine F.ok sc (fun vs H Q E h => h.1) (fun cdv A outer s H vs Q E hr h => ⟨t_need_word K E, ?_, h.2⟩)
  have tk := takes_def (P := P) (w := w) (K := K) (mg := mg) (base := base) (N := N_need_word) (qual := "need_word") (scope := defScope s_need_word) (f := f) (cd := cdv) (A := A) (outer := outer) (s := s) (H := H) (E := E)
  have pC := pass_def tk
  have pO := own_def (P := P) (w := w) (K := K) (mg := mg) (base := base) (N := N_need_word) (qual := "need_word") (scope := defScope s_need_word) (f := f) (cd := cdv) (A := A) (outer := outer) (s := s) (H := H) (E := E)
  have hU := hr.units
  exact (pss_one (ps_if (pt_not (pt_val (pe_cal C_is_within hr (by decide) rfl pC (pa_cons (pv 0) (pa_cons pe_int (pa_cons (pe_op o_sub (pe_op o_shl pe_int (pe_glob rfl h_WORD_BITS ⟨_, rfl⟩)) pe_int) pa_nil)))))) (pss_one (ps_rz B.x_NoWord rfl tk rfl)) pss_nil))
theorem ok_word_of (F : FnP K "word_of" s_word_of [(.bl true)] f fd) (B : Bs K mg) (C_is_fields : Cal P w K mg base 3 "is_fields" ["thing"] [] (sp_is_fields K)) (C_word_by : Cal P w K mg base 4 "word_by" ["fields", "sealed"] [] (sp_word_by K)) : FnOk P w K mg base (L2.CX P w) 5 f fd ["fields", "sealed"] (sp_word_of K) := by
  have sc := sc_word_of
  refine F.ok sc (fun vs H Q E h => h.1) (fun cdv A outer s H vs Q E hr h => ⟨t_word_of K E, ?_, h.2⟩)
  have tk := takes_def (P := P) (w := w) (K := K) (mg := mg) (base := base) (N := N_word_of) (qual := "word_of") (scope := defScope s_word_of) (f := f) (cd := cdv) (A := A) (outer := outer) (s := s) (H := H) (E := E)
  have pC := pass_def tk
  have pO := own_def (P := P) (w := w) (K := K) (mg := mg) (base := base) (N := N_word_of) (qual := "word_of") (scope := defScope s_word_of) (f := f) (cd := cdv) (A := A) (outer := outer) (s := s) (H := H) (E := E)
  have hU := hr.units
  exact (pss_cons (ps_if (pt_not (pt_val (pe_cal C_is_fields hr (by decide) rfl pC (pa_cons (pv 0) pa_nil)))) (pss_one (ps_rz B.x_NoFields rfl tk rfl)) pss_nil)
      (pss_one (ps_ret (pe_cal C_word_by hr (by decide) rfl pC (pa_cons (pv 0) (pa_cons (pv 1) pa_nil))))))
theorem ok_fields_in (F : FnP K "fields_in" s_fields_in [(.bl true)] f fd) (B : Bs K mg) (C_fields_by : Cal P w K mg base 5 "fields_by" ["word", "sealed"] [] (sp_fields_by K)) (C_need_word : Cal P w K mg base 3 "need_word" ["word"] [] (sp_need_word K)) : FnOk P w K mg base (L2.CX P w) 6 f fd ["word", "sealed"] (sp_fields_in K) := by
  have sc := sc_fields_in
  refine F.ok sc (fun vs H Q E h => h.1) (fun cdv A outer s H vs Q E hr h => ⟨t_fields_in K E, ?_, h.2⟩)
  have tk := takes_def (P := P) (w := w) (K := K) (mg := mg) (base := base) (N := N_fields_in) (qual := "fields_in") (scope := defScope s_fields_in) (f := f) (cd := cdv) (A := A) (outer := outer) (s := s) (H := H) (E := E)
  have pC := pass_def tk
  have pO := own_def (P := P) (w := w) (K := K) (mg := mg) (base := base) (N := N_fields_in) (qual := "fields_in") (scope := defScope s_fields_in) (f := f) (cd := cdv) (A := A) (outer := outer) (s := s) (H := H) (E := E)
  have hU := hr.units
  exact (pss_cons (ps_expr (pe_cal C_need_word hr (by decide) rfl pC (pa_cons (pv 0) pa_nil)))
      (pss_one (ps_ret (pe_cal C_fields_by hr (by decide) rfl pC (pa_cons (pv 0) (pa_cons (pv 1) pa_nil))))))
theorem ok__law_cell_at (F : FnP K "_law_cell_at" s__law_cell_at [] f fd) (B : Bs K mg) : FnOk P w K mg base (L2.CX P w) 1 f fd ["_law_script", "_law_k"] (sp__law_cell_at K) := by
  have sc := sc__law_cell_at
  refine F.ok sc (fun vs H Q E h => h.1) (fun cdv A outer s H vs Q E hr h => ⟨t__law_cell_at K E, ?_, h.2⟩)
  have tk := takes_def (P := P) (w := w) (K := K) (mg := mg) (base := base) (N := N__law_cell_at) (qual := "_law_cell_at") (scope := defScope s__law_cell_at) (f := f) (cd := cdv) (A := A) (outer := outer) (s := s) (H := H) (E := E)
  have pC := pass_def tk
  have pO := own_def (P := P) (w := w) (K := K) (mg := mg) (base := base) (N := N__law_cell_at) (qual := "_law_cell_at") (scope := defScope s__law_cell_at) (f := f) (cd := cdv) (A := A) (outer := outer) (s := s) (H := H) (E := E)
  have hU := hr.units
  exact (pss_cons (ps_if (pt_cmpR o_lt (pv 1) (pe_callB call_len rfl B.n_len (by decide +kernel) (pa_cons (pv 0) pa_nil)) (nomark _)) (pss_one (ps_ret (pe_ix ix_seq (pv 0) (pv 1) (fun _ _ => rfl)))) pss_nil)
      (pss_one (ps_ret pe_int)))
theorem ok__law_state (F : FnP K "_law_state" s__law_state [] f fd) (B : Bs K mg) (C__law_cell_at : Cal P w K mg base 1 "_law_cell_at" ["_law_script", "_law_k"] [] (sp__law_cell_at K)) : FnOk P w K mg base (L2.CX P w) 2 f fd ["_law_script", "_law_k"] (sp__law_state K) := by
  have sc := sc__law_state
  refine F.ok sc (fun vs H Q E h => h.1) (fun cdv A outer s H vs Q E hr h => ⟨t__law_state K E, ?_, h.2⟩)
  have tk := takes_def (P := P) (w := w) (K := K) (mg := mg) (base := base) (N := N__law_state) (qual := "_law_state") (scope := defScope s__law_state) (f := f) (cd := cdv) (A := A) (outer := outer) (s := s) (H := H) (E := E)
  have pC := pass_def tk
  have pO := own_def (P := P) (w := w) (K := K) (mg := mg) (base := base) (N := N__law_state) (qual := "_law_state") (scope := defScope s__law_state) (f := f) (cd := cdv) (A := A) (outer := outer) (s := s) (H := H) (E := E)
  have hU := hr.units
  exact (pss_cons (ps_set (i := 2) sc.nd rfl (Or.inl rfl) (pe_cal C__law_cell_at hr (by decide) rfl pC (pa_cons (pv 0) (pa_cons (pv 1) pa_nil))))
      (pss_one (ps_ret (pe_lst (pa_cons (pe_callB (call_max2 rfl) rfl B.n_max (by decide +kernel) (pa_cons pe_int (pa_cons (pe_op o_sub (pv 2) (pe_op o_pow pe_int pe_int)) pa_nil))) (pa_cons (pe_op o_add (pe_op o_mod (pv 2) pe_int) pe_int) (pa_cons pe_int pa_nil)))))))
theorem ok__law_choice (F : FnP K "_law_choice" s__law_choice [] f fd) (B : Bs K mg) : FnOk P w K mg base (L2.CX P w) 1 f fd ["_law_state_here", "_law_many"] (sp__law_choice K) := by
  have sc := sc__law_choice
  refine F.ok sc (fun vs H Q E h => h.1) (fun cdv A outer s H vs Q E hr h => ⟨t__law_choice K E, ?_, h.2⟩)
  have tk := takes_def (P := P) (w := w) (K := K) (mg := mg) (base := base) (N := N__law_choice) (qual := "_law_choice") (scope := defScope s__law_choice) (f := f) (cd := cdv) (A := A) (outer := outer) (s := s) (H := H) (E := E)
  have pC := pass_def tk
  have pO := own_def (P := P) (w := w) (K := K) (mg := mg) (base := base) (N := N__law_choice) (qual := "_law_choice") (scope := defScope s__law_choice) (f := f) (cd := cdv) (A := A) (outer := outer) (s := s) (H := H) (E := E)
  have hU := hr.units
  exact (pss_cons (ps_if (pt_cmpR o_gt (pe_ix ix_seq (pv 0) pe_int (fun _ _ => rfl)) pe_int (nomark _)) (pss_cons (ps_set (i := 2) sc.nd rfl (Or.inl rfl) (pe_op o_mod (pe_ix ix_seq (pv 0) pe_int (fun _ _ => rfl)) (pv 1)))
      (pss_cons (ps_asg (pe_op o_fdv (pe_ix ix_seq (pv 0) pe_int (fun _ _ => rfl)) (pv 1)) (pg_sub (pv 0) pe_int set_list))
      (pss_one (ps_ret (pv 2))))) pss_nil)
      (pss_cons (ps_asg (pe_op o_add (pe_ix ix_seq (pv 0) pe_int (fun _ _ => rfl)) pe_int) (pg_sub (pv 0) pe_int set_list))
      (pss_cons (ps_asg (pe_op o_mod (pe_op o_add (pe_op o_add (pe_op o_mul (pe_ix ix_seq (pv 0) pe_int (fun _ _ => rfl)) pe_int) pe_int) (pe_ix ix_seq (pv 0) pe_int (fun _ _ => rfl))) pe_int) (pg_sub (pv 0) pe_int set_list))
      (pss_cons (ps_set (i := 3) sc.nd rfl (Or.inl rfl) (pe_op o_mod (pe_op o_add (pe_op o_add (pe_op o_mul (pe_ix ix_seq (pv 0) pe_int (fun _ _ => rfl)) (pe_ix ix_seq (pv 0) pe_int (fun _ _ => rfl))) (pe_op o_mul pe_int (pe_ix ix_seq (pv 0) pe_int (fun _ _ => rfl)))) pe_int) pe_int))
      (pss_cons (ps_set (i := 3) sc.nd rfl (Or.inl rfl) (pe_op o_mod (pe_op o_add (pe_op o_mul (pv 3) (pv 3)) (pe_op o_mul pe_int (pv 3))) pe_int))
      (pss_one (ps_ret (pe_op o_mod (pe_op o_fdv (pv 3) pe_int) (pv 1)))))))))
theorem ok__law_parity (F : FnP K "_law_parity" s__law_parity [] f fd) (B : Bs K mg) : FnOk P w K mg base (L2.CX P w) 1 f fd ["_law_word_here"] (sp__law_parity K) := by
  have sc := sc__law_parity
  refine F.ok sc (fun vs H Q E h => h.1) (fun cdv A outer s H vs Q E hr h => ⟨t__law_parity K E, ?_, h.2⟩)
  have tk := takes_def (P := P) (w := w) (K := K) (mg := mg) (base := base) (N := N__law_parity) (qual := "_law_parity") (scope := defScope s__law_parity) (f := f) (cd := cdv) (A := A) (outer := outer) (s := s) (H := H) (E := E)
  have pC := pass_def tk
  have pO := own_def (P := P) (w := w) (K := K) (mg := mg) (base := base) (N := N__law_parity) (qual := "_law_parity") (scope := defScope s__law_parity) (f := f) (cd := cdv) (A := A) (outer := outer) (s := s) (H := H) (E := E)
  have hU := hr.units
  exact (pss_cons (ps_par (i := 1) (j := 2) rfl sc.nd rfl rfl (by decide) rfl rfl (pa_cons pe_int (pa_cons (pv 0) pa_nil)) rfl)
      (pss_cons (ps_while pO (pt_cmpR o_gt (pv 2) pe_int (nomark _)) (pss_one (ps_par (i := 1) (j := 2) rfl sc.nd rfl rfl (by decide) rfl rfl (pa_cons (pe_op o_xor (pv 1) (pe_op o_and (pv 2) pe_int)) (pa_cons (pe_op o_shr (pv 2) pe_int) pa_nil)) rfl)))
      (pss_one (ps_ret (pv 1)))))
theorem ok__law_wrong (F : FnP K "_law_wrong" s__law_wrong [] f fd) (B : Bs K mg) : FnOk P w K mg base (L2.CX P w) 1 f fd ["_law_word_here"] (sp__law_wrong K) := by
  have sc := sc__law_wrong
  refine F.ok sc (fun vs H Q E h => h.1) (fun cdv A outer s H vs Q E hr h => ⟨t__law_wrong K E, ?_, h.2⟩)
  have tk := takes_def (P := P) (w := w) (K := K) (mg := mg) (base := base) (N := N__law_wrong) (qual := "_law_wrong") (scope := defScope s__law_wrong) (f := f) (cd := cdv) (A := A) (outer := outer) (s := s) (H := H) (E := E)
  have pC := pass_def tk
  have pO := own_def (P := P) (w := w) (K := K) (mg := mg) (base := base) (N := N__law_wrong) (qual := "_law_wrong") (scope := defScope s__law_wrong) (f := f) (cd := cdv) (A := A) (outer := outer) (s := s) (H := H) (E := E)
  have hU := hr.units
  exact (pss_cons (ps_par3 (i := 1) (j := 2) (l := 3) rfl sc.nd rfl rfl rfl (by decide) (by decide) (by decide) rfl rfl rfl (pa_cons pe_int (pa_cons (pv 0) (pa_cons pe_int pa_nil))) rfl)
      (pss_cons (ps_while pO (pt_cmpR o_gt (pv 2) pe_int (nomark _)) (pss_cons (ps_if (pt_cmpR (o_eq hU) (pe_op o_and (pv 2) pe_int) pe_int (nomark _)) (pss_one (ps_set (i := 1) sc.nd rfl (Or.inl rfl) (pe_op o_xor (pv 1) (pv 3)))) pss_nil)
      (pss_one (ps_par (i := 2) (j := 3) rfl sc.nd rfl rfl (by decide) rfl rfl (pa_cons (pe_op o_shr (pv 2) pe_int) (pa_cons (pe_op o_add (pv 3) pe_int) pa_nil)) rfl))))
      (pss_one (ps_ret (pv 1)))))
theorem ok__law_spots (F : FnP K "_law_spots" s__law_spots [] f fd) (B : Bs K mg) : FnOk P w K mg base (L2.CX P w) 1 f fd ["_law_width"] (sp__law_spots K) := by
  have sc := sc__law_spots
  refine F.ok sc (fun vs H Q E h => h.1) (fun cdv A outer s H vs Q E hr h => ⟨t__law_spots K E, ?_, h.2⟩)
  have tk := takes_def (P := P) (w := w) (K := K) (mg := mg) (base := base) (N := N__law_spots) (qual := "_law_spots") (scope := defScope s__law_spots) (f := f) (cd := cdv) (A := A) (outer := outer) (s := s) (H := H) (E := E)
  have pC := pass_def tk
  have pO := own_def (P := P) (w := w) (K := K) (mg := mg) (base := base) (N := N__law_spots) (qual := "_law_spots") (scope := defScope s__law_spots) (f := f) (cd := cdv) (A := A) (outer := outer) (s := s) (H := H) (E := E)
  have hU := hr.units
  exact (pss_cons (ps_par3 (i := 1) (j := 2) (l := 3) rfl sc.nd rfl rfl rfl (by decide) (by decide) (by decide) rfl rfl rfl (pa_cons (pe_lst pa_nil) (pa_cons pe_int (pa_cons pe_int pa_nil))) rfl)
      (pss_cons (ps_while pO (pt_cmpR o_lt (pe_callB call_len rfl B.n_len (by decide +kernel) (pa_cons (pv 1) pa_nil)) (pv 0) (nomark _)) (pss_cons (ps_if (pt_cmpR (o_eq hU) (pv 2) (pv 3) (nomark _)) (pss_one (ps_set (i := 3) sc.nd rfl (Or.inl rfl) (pe_op o_mul pe_int (pv 3)))) (pss_one (ps_expr (pe_bm PySem.F.plainAttrs_list PySem.F.slot_list_append PySem.F.type_list_append mt_append (pv 1) (pa_cons (pv 2) pa_nil)))))
      (pss_one (ps_set (i := 2) sc.nd rfl (Or.inl rfl) (pe_op o_add (pv 2) pe_int)))))
      (pss_one (ps_ret (pv 1)))))
theorem ok__law_sealed (F : FnP K "_law_sealed" s__law_sealed [] f fd) (B : Bs K mg) (C__law_parity : Cal P w K mg base 1 "_law_parity" ["_law_word_here"] [] (sp__law_parity K)) (C__law_spots : Cal P w K mg base 1 "_law_spots" ["_law_width"] [] (sp__law_spots K)) (C__law_wrong : Cal P w K mg base 1 "_law_wrong" ["_law_word_here"] [] (sp__law_wrong K)) : FnOk P w K mg base (L2.CX P w) 2 f fd ["_law_number", "_law_width"] (sp__law_sealed K) := by
  have sc := sc__law_sealed
  refine F.ok sc (fun vs H Q E h => h.1) (fun cdv A outer s H vs Q E hr h => ⟨t__law_sealed K E, ?_, h.2⟩)
  have tk := takes_def (P := P) (w := w) (K := K) (mg := mg) (base := base) (N := N__law_sealed) (qual := "_law_sealed") (scope := defScope s__law_sealed) (f := f) (cd := cdv) (A := A) (outer := outer) (s := s) (H := H) (E := E)
  have pC := pass_def tk
  have pO := own_def (P := P) (w := w) (K := K) (mg := mg) (base := base) (N := N__law_sealed) (qual := "_law_sealed") (scope := defScope s__law_sealed) (f := f) (cd := cdv) (A := A) (outer := outer) (s := s) (H := H) (E := E)
  have hU := hr.units
  exact (pss_cons (ps_set (i := 2) sc.nd rfl (Or.inl rfl) pe_int)
      (pss_cons (ps_for pO rfl (pi_enumA rfl B.n_enumerate (pa_cons (pe_cal C__law_spots hr (by decide) rfl pC (pa_cons (pv 1) pa_nil)) pa_nil)) (pg_tup rfl (pgs_cons (pg_name (i := 3) sc.nd rfl (Or.inl rfl)) (pgs_cons (pg_name (i := 4) sc.nd rfl (Or.inl rfl)) pgs_nil))) (pss_one (ps_set (i := 2) sc.nd rfl (Or.inl rfl) (pe_op o_add (pv 2) (pe_op o_shl (pe_op o_and (pe_op o_shr (pv 0) (pv 3)) pe_int) (pv 4))))))
      (pss_cons (ps_par (i := 5) (j := 6) rfl sc.nd rfl rfl (by decide) rfl rfl (pa_cons (pe_cal C__law_wrong hr (by decide) rfl pC (pa_cons (pv 2) pa_nil)) (pa_cons pe_int pa_nil)) rfl)
      (pss_cons (ps_while pO (pt_cmpR o_le (pv 6) (pv 5) (nomark _)) (pss_cons (ps_set (i := 2) sc.nd rfl (Or.inl rfl) (pe_op o_add (pv 2) (pe_op o_mul (pe_callTy call_int1 rfl B.n_int (by decide +kernel) (pa_cons (pe_cmpR o_gt (pe_op o_and (pv 5) (pv 6)) pe_int (nomark _)) pa_nil)) (pe_op o_shl pe_int (pv 6)))))
      (pss_one (ps_set (i := 6) sc.nd rfl (Or.inl rfl) (pe_op o_mul pe_int (pv 6))))))
      (pss_one (ps_ret (pe_op o_add (pv 2) (pe_cal C__law_parity hr (by decide) rfl pC (pa_cons (pv 2) pa_nil)))))))))
theorem ok__law_number_of (F : FnP K "_law_number_of" s__law_number_of [] f fd) (B : Bs K mg) : FnOk P w K mg base (L2.CX P w) 1 f fd ["_law_fields"] (sp__law_number_of K) := by
  have sc := sc__law_number_of
  refine F.ok sc (fun vs H Q E h => h.1) (fun cdv A outer s H vs Q E hr h => ⟨t__law_number_of K E, ?_, h.2⟩)
  have tk := takes_def (P := P) (w := w) (K := K) (mg := mg) (base := base) (N := N__law_number_of) (qual := "_law_number_of") (scope := defScope s__law_number_of) (f := f) (cd := cdv) (A := A) (outer := outer) (s := s) (H := H) (E := E)
  have pC := pass_def tk
  have pO := own_def (P := P) (w := w) (K := K) (mg := mg) (base := base) (N := N__law_number_of) (qual := "_law_number_of") (scope := defScope s__law_number_of) (f := f) (cd := cdv) (A := A) (outer := outer) (s := s) (H := H) (E := E)
  have hU := hr.units
  have hV := units65 hr
  exact (pss_cons (ps_asg (pv 0) (pg_tup rfl (pgs_cons (pg_name (i := 1) sc.nd rfl (Or.inl rfl)) (pgs_cons (pg_name (i := 2) sc.nd rfl (Or.inl rfl)) (pgs_cons (pg_name (i := 3) sc.nd rfl (Or.inl rfl)) (pgs_cons (pg_name (i := 4) sc.nd rfl (Or.inl rfl)) (pgs_cons (pg_name (i := 5) sc.nd rfl (Or.inl rfl)) pgs_nil)))))))
      (pss_cons (ps_set (i := 6) sc.nd rfl (Or.inl rfl) (pe_op o_add (pe_op o_mul (pe_bm PySem.F.plainAttrs_list PySem.F.slot_list_index PySem.F.type_list_index (mt_indexD hV) (pe_lst (pa_cons pe_str (pa_cons pe_str (pa_cons pe_str (pa_cons pe_str pa_nil))))) (pa_cons (pv 1) pa_nil)) pe_int) (pv 2)))
      (pss_one (ps_ret (pe_op o_add (pe_op o_mul (pe_op o_add (pe_op o_mul (pe_op o_add (pe_op o_mul (pv 6) pe_int) (pv 3)) pe_int) (pv 4)) pe_int) (pv 5))))))
theorem ok__law_word (F : FnP K "_law_word" s__law_word [] f fd) (B : Bs K mg) (C__law_number_of : Cal P w K mg base 1 "_law_number_of" ["_law_fields"] [] (sp__law_number_of K)) (C__law_sealed : Cal P w K mg base 2 "_law_sealed" ["_law_number", "_law_width"] [] (sp__law_sealed K)) : FnOk P w K mg base (L2.CX P w) 3 f fd ["_law_fields", "_law_sealed_here"] (sp__law_word K) := by
  have sc := sc__law_word
  refine F.ok sc (fun vs H Q E h => h.1) (fun cdv A outer s H vs Q E hr h => ⟨t__law_word K E, ?_, h.2⟩)
  have tk := takes_def (P := P) (w := w) (K := K) (mg := mg) (base := base) (N := N__law_word) (qual := "_law_word") (scope := defScope s__law_word) (f := f) (cd := cdv) (A := A) (outer := outer) (s := s) (H := H) (E := E)
  have pC := pass_def tk
  have pO := own_def (P := P) (w := w) (K := K) (mg := mg) (base := base) (N := N__law_word) (qual := "_law_word") (scope := defScope s__law_word) (f := f) (cd := cdv) (A := A) (outer := outer) (s := s) (H := H) (E := E)
  have hU := hr.units
  exact (pss_one (ps_ret (pe_ifExp (pt_val (pv 1)) (pe_cal C__law_sealed hr (by decide) rfl pC (pa_cons (pe_cal C__law_number_of hr (by decide) rfl pC (pa_cons (pv 0) pa_nil)) (pa_cons pe_int pa_nil))) (pe_cal C__law_number_of hr (by decide) rfl pC (pa_cons (pv 0) pa_nil)))))
theorem ok__law_fields_of (F : FnP K "_law_fields_of" s__law_fields_of [] f fd) (B : Bs K mg) : FnOk P w K mg base (L2.CX P w) 1 f fd ["_law_number"] (sp__law_fields_of K) := by
  have sc := sc__law_fields_of
  refine F.ok sc (fun vs H Q E h => h.1) (fun cdv A outer s H vs Q E hr h => ⟨t__law_fields_of K E, ?_, h.2⟩)
  have tk := takes_def (P := P) (w := w) (K := K) (mg := mg) (base := base) (N := N__law_fields_of) (qual := "_law_fields_of") (scope := defScope s__law_fields_of) (f := f) (cd := cdv) (A := A) (outer := outer) (s := s) (H := H) (E := E)
  have pC := pass_def tk
  have pO := own_def (P := P) (w := w) (K := K) (mg := mg) (base := base) (N := N__law_fields_of) (qual := "_law_fields_of") (scope := defScope s__law_fields_of) (f := f) (cd := cdv) (A := A) (outer := outer) (s := s) (H := H) (E := E)
  have hU := hr.units
  exact (pss_cons (ps_par (i := 1) (j := 2) rfl sc.nd rfl rfl (by decide) rfl rfl (pa_cons (pv 0) (pa_cons (pe_lst pa_nil) pa_nil)) rfl)
      (pss_cons (ps_for pO rfl (pi_or (pi_list (pe_tup (pa_cons pe_int (pa_cons pe_int (pa_cons pe_int (pa_cons pe_int pa_nil)))))) (pi_tup (pe_tup (pa_cons pe_int (pa_cons pe_int (pa_cons pe_int (pa_cons pe_int pa_nil))))))) (pg_name (i := 3) sc.nd rfl (Or.inl rfl)) (pss_cons (ps_expr (pe_bm PySem.F.plainAttrs_list PySem.F.slot_list_append PySem.F.type_list_append mt_append (pv 2) (pa_cons (pe_op o_mod (pv 1) (pv 3)) pa_nil)))
      (pss_one (ps_set (i := 1) sc.nd rfl (Or.inl rfl) (pe_op o_fdv (pv 1) (pv 3))))))
      (pss_cons (ps_asg (pv 2) (pg_lst rfl (pgs_cons (pg_name (i := 4) sc.nd rfl (Or.inl rfl)) (pgs_cons (pg_name (i := 5) sc.nd rfl (Or.inl rfl)) (pgs_cons (pg_name (i := 6) sc.nd rfl (Or.inl rfl)) (pgs_cons (pg_name (i := 7) sc.nd rfl (Or.inl rfl)) pgs_nil))))))
      (pss_cons (ps_if (PW.pt (pw_or (pt_cmpR o_gt (pv 1) pe_int (nomark _)) (pw_or (PW.pt (pw_and (pt_cmpR o_lt (pv 1) pe_int (nomark _)) (pw_and1 (pt_cmpR o_gt (pv 5) pe_int (nomark _))))) (pw_or (PW.pt (pw_and (pt_cmpR (o_in hU) (pv 1) (pe_tup (pa_cons pe_int (pa_cons pe_int pa_nil))) (by with_unfolding_all rfl)) (pw_and1 (pt_cmpR o_gt (pv 4) pe_int (nomark _))))) (pw_or1 (PW.pt (pw_and (pt_cmpR (o_eq hU) (pv 1) pe_int (nomark _)) (pw_and1 (pt_cmpR o_gt (pv 7) pe_int (nomark _)))))))))) (pss_one (ps_ret pe_non)) pss_nil)
      (pss_one (ps_ret (pe_tup (pa_cons (pe_ix ix_seq (pe_lst (pa_cons pe_str (pa_cons pe_str (pa_cons pe_str (pa_cons pe_str pa_nil))))) (pv 1) (fun _ _ => rfl)) (pa_cons (pv 7) (pa_cons (pv 6) (pa_cons (pv 5) (pa_cons (pv 4) pa_nil))))))))))))
theorem ok__law_opened (F : FnP K "_law_opened" s__law_opened [] f fd) (B : Bs K mg) (C__law_fields_of : Cal P w K mg base 1 "_law_fields_of" ["_law_number"] [] (sp__law_fields_of K)) (C__law_parity : Cal P w K mg base 1 "_law_parity" ["_law_word_here"] [] (sp__law_parity K)) (C__law_spots : Cal P w K mg base 1 "_law_spots" ["_law_width"] [] (sp__law_spots K)) (C__law_wrong : Cal P w K mg base 1 "_law_wrong" ["_law_word_here"] [] (sp__law_wrong K)) : FnOk P w K mg base (L2.CX P w) 2 f fd ["_law_word_here", "_law_sealed_here"] (sp__law_opened K) := by
  have sc := sc__law_opened
  refine F.ok sc (fun vs H Q E h => h.1) (fun cdv A outer s H vs Q E hr h => ⟨t__law_opened K E, ?_, h.2⟩)
  have tk := takes_def (P := P) (w := w) (K := K) (mg := mg) (base := base) (N := N__law_opened) (qual := "_law_opened") (scope := defScope s__law_opened) (f := f) (cd := cdv) (A := A) (outer := outer) (s := s) (H := H) (E := E)
  have pC := pass_def tk
  have pO := own_def (P := P) (w := w) (K := K) (mg := mg) (base := base) (N := N__law_opened) (qual := "_law_opened") (scope := defScope s__law_opened) (f := f) (cd := cdv) (A := A) (outer := outer) (s := s) (H := H) (E := E)
  have hU := hr.units
  exact (pss_cons (ps_if (pt_not (pt_val (pv 1))) (pss_cons (ps_set (i := 2) sc.nd rfl (Or.inl rfl) (pe_cal C__law_fields_of hr (by decide) rfl pC (pa_cons (pv 0) pa_nil)))
      (pss_one (ps_ret (pe_ifExp (pt_cmpR o_is (pv 2) pe_non (nomark _)) (pe_tup (pa_cons pe_str (pa_cons pe_non pa_nil))) (pe_tup (pa_cons pe_str (pa_cons (pv 2) pa_nil))))))) pss_nil)
      (pss_cons (ps_par3 (i := 3) (j := 4) (l := 5) rfl sc.nd rfl rfl rfl (by decide) (by decide) (by decide) rfl rfl rfl (pa_cons (pe_cal C__law_wrong hr (by decide) rfl pC (pa_cons (pv 0) pa_nil)) (pa_cons (pe_cal C__law_parity hr (by decide) rfl pC (pa_cons (pv 0) pa_nil)) (pa_cons pe_str pa_nil))) rfl)
      (pss_cons (ps_if (PW.pt (pw_and (pt_cmpR (o_eq hU) (pv 4) pe_int (nomark _)) (pw_and1 (pt_cmpR o_lt (pv 3) pe_int (nomark _))))) (pss_one (ps_par (i := 0) (j := 5) rfl sc.nd rfl rfl (by decide) rfl rfl (pa_cons (pe_op o_xor (pv 0) (pe_op o_shl pe_int (pv 3))) (pa_cons pe_str pa_nil)) rfl)) (pss_one (ps_if (PW.pt (pw_or (pt_cmpR o_gt (pv 3) pe_int (nomark _)) (pw_or1 (pt_cmpR (o_eq hU) (pv 4) pe_int (nomark _))))) (pss_one (ps_ret (pe_tup (pa_cons pe_str (pa_cons pe_non pa_nil))))) pss_nil)))
      (pss_cons (ps_set (i := 6) sc.nd rfl (Or.inl rfl) pe_int)
      (pss_cons (ps_for pO rfl (pi_enumA rfl B.n_enumerate (pa_cons (pe_cal C__law_spots hr (by decide) rfl pC (pa_cons pe_int pa_nil)) pa_nil)) (pg_tup rfl (pgs_cons (pg_name (i := 7) sc.nd rfl (Or.inl rfl)) (pgs_cons (pg_name (i := 8) sc.nd rfl (Or.inl rfl)) pgs_nil))) (pss_one (ps_set (i := 6) sc.nd rfl (Or.inl rfl) (pe_op o_add (pv 6) (pe_op o_shl (pe_op o_and (pe_op o_shr (pv 0) (pv 8)) pe_int) (pv 7))))))
      (pss_cons (ps_set (i := 2) sc.nd rfl (Or.inl rfl) (pe_cal C__law_fields_of hr (by decide) rfl pC (pa_cons (pv 6) pa_nil)))
      (pss_one (ps_ret (pe_ifExp (pt_cmpR o_is (pv 2) pe_non (nomark _)) (pe_tup (pa_cons pe_str (pa_cons pe_non pa_nil))) (pe_tup (pa_cons (pv 5) (pa_cons (pv 2) pa_nil))))))))))))
theorem ok__law_same (F : FnP K "_law_same" s__law_same [] f fd) (B : Bs K mg) : FnG P w K mg base 1 f fd ["_law_found", "_law_owed"] (sp__law_same K) := by
  have sc := sc__law_same
  refine okG F sc (fun vs H Q E h => h.1) (fun cdv A outer s H vs Q E hG hr h => ⟨t__law_same K E, ?_, h.2⟩)
  have tk := takes_def (P := P) (w := w) (K := K) (mg := mg) (base := base) (N := N__law_same) (qual := "_law_same") (scope := defScope s__law_same) (f := f) (cd := cdv) (A := A) (outer := outer) (s := s) (H := H) (E := E)
  have pC := pass_def tk
  have pO := own_def (P := P) (w := w) (K := K) (mg := mg) (base := base) (N := N__law_same) (qual := "_law_same") (scope := defScope s__law_same) (f := f) (cd := cdv) (A := A) (outer := outer) (s := s) (H := H) (E := E)
  have hU := hr.units
  exact (pss_one (ps_ret (pe_cmpR (o_eq hU) (pe_callB (call_repr hG hU) rfl B.n_repr (by decide +kernel) (pa_cons (pv 0) pa_nil)) (pe_callB (call_repr hG hU) rfl B.n_repr (by decide +kernel) (pa_cons (pv 1) pa_nil)) (nomark _))))
theorem ok__law_fields_any (F : FnP K "_law_fields_any" s__law_fields_any [] f fd) (B : Bs K mg) (C__law_choice : Cal P w K mg base 1 "_law_choice" ["_law_state_here", "_law_many"] [] (sp__law_choice K)) : FnOk P w K mg base (L2.CX P w) 2 f fd ["_law_state_here"] (sp__law_fields_any K) := by
  have sc := sc__law_fields_any
  refine F.ok sc (fun vs H Q E h => h.1) (fun cdv A outer s H vs Q E hr h => ⟨t__law_fields_any K E, ?_, h.2⟩)
  have tk := takes_def (P := P) (w := w) (K := K) (mg := mg) (base := base) (N := N__law_fields_any) (qual := "_law_fields_any") (scope := defScope s__law_fields_any) (f := f) (cd := cdv) (A := A) (outer := outer) (s := s) (H := H) (E := E)
  have pC := pass_def tk
  have pO := own_def (P := P) (w := w) (K := K) (mg := mg) (base := base) (N := N__law_fields_any) (qual := "_law_fields_any") (scope := defScope s__law_fields_any) (f := f) (cd := cdv) (A := A) (outer := outer) (s := s) (H := H) (E := E)
  have hU := hr.units
  exact (pss_cons (ps_set (i := 1) sc.nd rfl (Or.inl rfl) (pe_ix ix_seq (pe_lst (pa_cons pe_str (pa_cons pe_str (pa_cons pe_str (pa_cons pe_str pa_nil))))) (pe_cal C__law_choice hr (by decide) rfl pC (pa_cons (pv 0) (pa_cons pe_int pa_nil))) (fun _ _ => rfl)))
      (pss_cons (ps_setLc (i := 2) (own := [("_law_lap", 5)]) rfl sc.nd rfl rfl (sw_true rfl rfl rfl (by decide +kernel)) (pi_range1 rfl B.n_range (pa_cons pe_int pa_nil)) (blkOk_by (own := [("_law_lap", 5)]) (N := N__law_fields_any) (sc := defScope s__law_fields_any) (by decide +kernel)) (fun _ _ _ _ _ => (pg_name (i := 5) sc.nd rfl (Or.inl rfl))) (fun _ _ _ _ _ => pts_nil) (fun _ _ _ _ _ => (pe_ix ix_seq (pe_lst (pa_cons pe_int (pa_cons pe_int (pa_cons pe_int (pa_cons (pe_cal C__law_choice hr (by decide) rfl passL (pa_cons (pv 0) (pa_cons pe_int pa_nil))) pa_nil))))) (pe_cal C__law_choice hr (by decide) rfl passL (pa_cons (pv 0) (pa_cons pe_int pa_nil))) (fun _ _ => rfl))))
      (pss_cons (ps_set (i := 3) sc.nd rfl (Or.inl rfl) (pe_ix ix_seq (pe_lst (pa_cons pe_int (pa_cons pe_int (pa_cons (pe_cal C__law_choice hr (by decide) rfl pC (pa_cons (pv 0) (pa_cons pe_int pa_nil))) pa_nil)))) (pe_cal C__law_choice hr (by decide) rfl pC (pa_cons (pv 0) (pa_cons pe_int pa_nil))) (fun _ _ => rfl)))
      (pss_cons (ps_set (i := 4) sc.nd rfl (Or.inl rfl) (pe_ix ix_seq (pe_lst (pa_cons pe_int (pa_cons pe_int (pa_cons (pe_cal C__law_choice hr (by decide) rfl pC (pa_cons (pv 0) (pa_cons pe_int pa_nil))) pa_nil)))) (pe_cal C__law_choice hr (by decide) rfl pC (pa_cons (pv 0) (pa_cons pe_int pa_nil))) (fun _ _ => rfl)))
      (pss_cons (ps_if (pt_cmpR (o_eq hU) (pv 1) pe_str (nomark _)) (pss_one (ps_ret (pe_tup (pa_cons (pv 1) (pa_cons pe_int (pa_cons (pe_ix ix_seq (pv 2) pe_int (fun _ _ => rfl)) (pa_cons (pe_ix ix_seq (pv 2) pe_int (fun _ _ => rfl)) (pa_cons pe_int pa_nil)))))))) pss_nil)
      (pss_one (ps_ret (pe_tup (pa_cons (pv 1) (pa_cons (pv 3) (pa_cons (pe_ix ix_seq (pv 2) pe_int (fun _ _ => rfl)) (pa_cons (pe_op o_mul (pe_ix ix_seq (pv 2) pe_int (fun _ _ => rfl)) (pe_callTy call_int1 rfl B.n_int (by decide +kernel) (pa_cons (pe_cmpR (o_eq hU) (pv 1) pe_str (nomark _)) pa_nil))) (pa_cons (pe_op o_mul (pv 4) (pe_callTy call_int1 rfl B.n_int (by decide +kernel) (pa_cons (pe_cmpR (o_ne hU) (pv 1) pe_str (nomark _)) pa_nil))) pa_nil)))))))))))))
theorem ok__law_in_right (F : FnP K "_law_in_right" s__law_in_right [] f fd) (B : Bs K mg) (C__law_opened : Cal P w K mg base 2 "_law_opened" ["_law_word_here", "_law_sealed_here"] [] (sp__law_opened K)) (C__law_same : CalG P w K mg base 1 "_law_same" ["_law_found", "_law_owed"] [] (sp__law_same K)) (C_fields_in : Cal P w K mg base 6 "fields_in" ["word", "sealed"] [] (sp_fields_in K)) (C_fields_in_1 : Cal P w K mg base 6 "fields_in" ["word", "sealed"] [(.bl true)] (sp_fields_in K)) : FnG P w K mg base 7 f fd ["_law_word_here"] (sp__law_in_right K) := by
  have sc := sc__law_in_right
  refine okG F sc (fun vs H Q E h => h.1) (fun cdv A outer s H vs Q E hG hr h => ⟨t__law_in_right K E, ?_, h.2⟩)
  have tk := takes_def (P := P) (w := w) (K := K) (mg := mg) (base := base) (N := N__law_in_right) (qual := "_law_in_right") (scope := defScope s__law_in_right) (f := f) (cd := cdv) (A := A) (outer := outer) (s := s) (H := H) (E := E)
  have pC := pass_def tk
  have pO := own_def (P := P) (w := w) (K := K) (mg := mg) (base := base) (N := N__law_in_right) (qual := "_law_in_right") (scope := defScope s__law_in_right) (f := f) (cd := cdv) (A := A) (outer := outer) (s := s) (H := H) (E := E)
  have hU := hr.units
  exact (pss_cons (ps_for pO rfl (pi_list (pe_lst (pa_cons pe_bl (pa_cons pe_bl pa_nil)))) (pg_name (i := 1) sc.nd rfl (Or.inl rfl)) (pss_cons (ps_set (i := 2) sc.nd rfl (Or.inl rfl) (pe_cal C__law_opened hr (by decide) rfl pC (pa_cons (pv 0) (pa_cons (pv 1) pa_nil))))
      (pss_one (ps_if (pt_not (pt_val (pe_calG C__law_same hG hr (by decide) rfl pC (pa_cons (pe_lst (pa_cons (pe_cal C_fields_in hr (by decide) rfl pC (pa_cons (pv 0) (pa_cons (pv 1) pa_nil))) (pa_cons (pe_cal C_fields_in hr (by decide) rfl pC (pa_cons (pv 0) (pa_cons (pv 1) pa_nil))) pa_nil))) (pa_cons (pe_lst (pa_cons (pv 2) (pa_cons (pv 2) pa_nil))) pa_nil))))) (pss_one (ps_ret pe_bl)) pss_nil))))
      (pss_one (ps_ret (pe_cmpR (o_eq hU) (pe_cal C_fields_in_1 hr (by decide) rfl pC (pa_cons (pv 0) pa_nil)) (pe_cal C_fields_in hr (by decide) rfl pC (pa_cons (pv 0) (pa_cons pe_bl pa_nil))) (nomark _)))))
theorem ok__law_right (F : FnP K "_law_right" s__law_right [] f fd) (B : Bs K mg) (C__law_choice : Cal P w K mg base 1 "_law_choice" ["_law_state_here", "_law_many"] [] (sp__law_choice K)) (C__law_fields_any : Cal P w K mg base 2 "_law_fields_any" ["_law_state_here"] [] (sp__law_fields_any K)) (C__law_in_right : CalG P w K mg base 7 "_law_in_right" ["_law_word_here"] [] (sp__law_in_right K)) (C__law_sealed : Cal P w K mg base 2 "_law_sealed" ["_law_number", "_law_width"] [] (sp__law_sealed K)) (C__law_word : Cal P w K mg base 3 "_law_word" ["_law_fields", "_law_sealed_here"] [] (sp__law_word K)) (C_word_of : Cal P w K mg base 5 "word_of" ["fields", "sealed"] [] (sp_word_of K)) (C_word_of_1 : Cal P w K mg base 5 "word_of" ["fields", "sealed"] [(.bl true)] (sp_word_of K)) : FnG P w K mg base 8 f fd ["_law_state_here"] (sp__law_right K) := by
  have sc := sc__law_right
  refine okG F sc (fun vs H Q E h => h.1) (fun cdv A outer s H vs Q E hG hr h => ⟨t__law_right K E, ?_, h.2⟩)
  have tk := takes_def (P := P) (w := w) (K := K) (mg := mg) (base := base) (N := N__law_right) (qual := "_law_right") (scope := defScope s__law_right) (f := f) (cd := cdv) (A := A) (outer := outer) (s := s) (H := H) (E := E)
  have pC := pass_def tk
  have pO := own_def (P := P) (w := w) (K := K) (mg := mg) (base := base) (N := N__law_right) (qual := "_law_right") (scope := defScope s__law_right) (f := f) (cd := cdv) (A := A) (outer := outer) (s := s) (H := H) (E := E)
  have hU := hr.units
  exact (pss_cons (ps_set (i := 1) sc.nd rfl (Or.inl rfl) (pe_cal C__law_fields_any hr (by decide) rfl pC (pa_cons (pv 0) pa_nil)))
      (pss_cons (ps_set (i := 2) sc.nd rfl (Or.inl rfl) (pe_callB (call_repr hG hU) rfl B.n_repr (by decide +kernel) (pa_cons (pv 1) pa_nil)))
      (pss_cons (ps_set (i := 3) sc.nd rfl (Or.inl rfl) (pe_lst (pa_cons (pe_cal C_word_of hr (by decide) rfl pC (pa_cons (pv 1) (pa_cons pe_bl pa_nil))) (pa_cons (pe_cal C_word_of hr (by decide) rfl pC (pa_cons (pv 1) (pa_cons pe_bl pa_nil))) (pa_cons (pe_cal C_word_of_1 hr (by decide) rfl pC (pa_cons (pv 1) pa_nil)) pa_nil)))))
      (pss_cons (ps_if (PW.pt (pw_or (pt_cmpR (o_ne hU) (pv 3) (pe_lst (pa_cons (pe_cal C__law_word hr (by decide) rfl pC (pa_cons (pv 1) (pa_cons pe_bl pa_nil))) (pa_cons (pe_cal C__law_word hr (by decide) rfl pC (pa_cons (pv 1) (pa_cons pe_bl pa_nil))) (pa_cons (pe_cal C__law_word hr (by decide) rfl pC (pa_cons (pv 1) (pa_cons pe_bl pa_nil))) pa_nil)))) (nomark _)) (pw_or1 (pt_cmpR (o_ne hU) (pe_callB (call_repr hG hU) rfl B.n_repr (by decide +kernel) (pa_cons (pv 1) pa_nil)) (pv 2) (nomark _))))) (pss_one (ps_ret pe_bl)) pss_nil)
      (pss_cons (ps_par (i := 4) (j := 5) rfl sc.nd rfl rfl (by decide) rfl rfl (pa_cons (pe_cal C__law_choice hr (by decide) rfl pC (pa_cons (pv 0) (pa_cons pe_int pa_nil))) (pa_cons (pe_cal C__law_choice hr (by decide) rfl pC (pa_cons (pv 0) (pa_cons pe_int pa_nil))) pa_nil)) rfl)
      (pss_cons (ps_set (i := 6) sc.nd rfl (Or.inl rfl) (pe_op o_add (pv 3) (pe_lst (pa_cons (pe_op o_xor (pe_ix ix_seq (pv 3) pe_int (fun _ _ => rfl)) (pe_op o_shl pe_int (pv 4))) (pa_cons (pe_op o_xor (pe_op o_xor (pe_ix ix_seq (pv 3) pe_int (fun _ _ => rfl)) (pe_op o_shl pe_int (pv 4))) (pe_op o_shl pe_int (pv 5))) (pa_cons (pe_op o_xor (pe_ix ix_seq (pv 3) pe_int (fun _ _ => rfl)) (pe_op o_shl pe_int (pv 4))) (pa_cons pe_int (pa_cons (pe_op o_sub (pe_op o_shl pe_int pe_int) pe_int) pa_nil))))))))
      (pss_cons (ps_set (i := 7) sc.nd rfl (Or.inl rfl) (pe_cal C__law_choice hr (by decide) rfl pC (pa_cons (pv 0) (pa_cons (pe_op o_shl pe_int pe_int) pa_nil))))
      (pss_cons (ps_set (i := 6) sc.nd rfl (Or.inl rfl) (pe_op o_add (pv 6) (pe_lst (pa_cons (pe_cal C__law_choice hr (by decide) rfl pC (pa_cons (pv 0) (pa_cons (pe_op o_shl pe_int pe_int) pa_nil))) (pa_cons (pv 7) (pa_cons (pe_cal C__law_sealed hr (by decide) rfl pC (pa_cons (pv 7) (pa_cons pe_int pa_nil))) (pa_cons (pe_op o_sub (pe_op o_shl pe_int pe_int) pe_int) (pa_cons (pe_op o_shl pe_int pe_int) pa_nil))))))))
      (pss_one (ps_ret (pe_callB (cr_all rfl) rfl B.n_all (by decide +kernel) (pa_cons (pe_lc (own := [("_law_word_here", 8)]) rfl sc.nd (pi_or (pi_list (pv 6)) (pi_tup (pv 6))) (blkOk_by (own := [("_law_word_here", 8)]) (N := N__law_right) (sc := defScope s__law_right) (by decide +kernel)) (fun _ _ _ _ _ => (pg_name (i := 8) sc.nd rfl (Or.inl rfl))) (fun _ _ _ _ _ => pts_nil) (fun _ _ _ _ _ => (pe_calG C__law_in_right hG hr (by decide) rfl passL (pa_cons (pv 8) pa_nil)))) pa_nil))))))))))))
theorem ok_law (F : FnP K "law" s_law [] f fd) (B : Bs K mg) (C__law_right : CalG P w K mg base 8 "_law_right" ["_law_state_here"] [] (sp__law_right K)) (C__law_state : Cal P w K mg base 2 "_law_state" ["_law_script", "_law_k"] [] (sp__law_state K)) : FnG P w K mg base 9 f fd ["_law_script"] (sp_law K) := by
  have sc := sc_law
  refine okG F sc (fun vs H Q E h => h.1) (fun cdv A outer s H vs Q E hG hr h => ⟨t_law K E, ?_, h.2⟩)
  have tk := takes_def (P := P) (w := w) (K := K) (mg := mg) (base := base) (N := N_law) (qual := "law") (scope := defScope s_law) (f := f) (cd := cdv) (A := A) (outer := outer) (s := s) (H := H) (E := E)
  have pC := pass_def tk
  have pO := own_def (P := P) (w := w) (K := K) (mg := mg) (base := base) (N := N_law) (qual := "law") (scope := defScope s_law) (f := f) (cd := cdv) (A := A) (outer := outer) (s := s) (H := H) (E := E)
  have hU := hr.units
  exact (pss_cons (ps_for pO rfl (pi_range1 rfl B.n_range (pa_cons (pe_callB (call_max2 rfl) rfl B.n_max (by decide +kernel) (pa_cons pe_int (pa_cons (pe_callB (call_min2 rfl) rfl B.n_min (by decide +kernel) (pa_cons (pe_callB call_len rfl B.n_len (by decide +kernel) (pa_cons (pv 0) pa_nil)) (pa_cons pe_int pa_nil))) pa_nil))) pa_nil)) (pg_name (i := 1) sc.nd rfl (Or.inl rfl)) (pss_cons (ps_set (i := 2) sc.nd rfl (Or.inl rfl) (pe_cal C__law_state hr (by decide) rfl pC (pa_cons (pv 0) (pa_cons (pv 1) pa_nil))))
      (pss_one (ps_for pO rfl (pi_range1 rfl B.n_range (pa_cons pe_int pa_nil)) (pg_name (i := 3) sc.nd rfl (Or.inl rfl)) (pss_one (ps_if (pt_not (pt_val (pe_calG C__law_right hG hr (by decide) rfl pC (pa_cons (pv 2) pa_nil)))) (pss_one (ps_ret pe_bl)) pss_nil))))))
      (pss_one (ps_ret pe_bl)))
end
/-! ### the head: facts by names, the run -/
def dd_is_whole : He.DefD := ⟨("is_whole", none), "is_whole", "is_whole", defArgs s_is_whole, defBody s_is_whole, defScope s_is_whole, [], []⟩
def dd_is_within : He.DefD := ⟨("is_within", none), "is_within", "is_within", defArgs s_is_within, defBody s_is_within, defScope s_is_within, [], []⟩
def dd_checks_for : He.DefD := ⟨("checks_for", none), "checks_for", "checks_for", defArgs s_checks_for, defBody s_checks_for, defScope s_checks_for, [], []⟩
def dd_is_odd : He.DefD := ⟨("is_odd", none), "is_odd", "is_odd", defArgs s_is_odd, defBody s_is_odd, defScope s_is_odd, [], []⟩
def dd_wrong_of : He.DefD := ⟨("wrong_of", none), "wrong_of", "wrong_of", defArgs s_wrong_of, defBody s_wrong_of, defScope s_wrong_of, [], []⟩
def dd_runs_of : He.DefD := ⟨("runs_of", none), "runs_of", "runs_of", defArgs s_runs_of, defBody s_runs_of, defScope s_runs_of, [], []⟩
def dd_seal_by : He.DefD := ⟨("seal_by", none), "seal_by", "seal_by", defArgs s_seal_by, defBody s_seal_by, defScope s_seal_by, [], []⟩
def dd_number_in : He.DefD := ⟨("number_in", none), "number_in", "number_in", defArgs s_number_in, defBody s_number_in, defScope s_number_in, [], []⟩
def dd_opened_by : He.DefD := ⟨("opened_by", none), "opened_by", "opened_by", defArgs s_opened_by, defBody s_opened_by, defScope s_opened_by, [], []⟩
def dd_is_fields : He.DefD := ⟨("is_fields", none), "is_fields", "is_fields", defArgs s_is_fields, defBody s_is_fields, defScope s_is_fields, [], []⟩
def dd_number_of : He.DefD := ⟨("number_of", none), "number_of", "number_of", defArgs s_number_of, defBody s_number_of, defScope s_number_of, [], []⟩
def dd_fields_of : He.DefD := ⟨("fields_of", none), "fields_of", "fields_of", defArgs s_fields_of, defBody s_fields_of, defScope s_fields_of, [], []⟩
def dd_word_by : He.DefD := ⟨("word_by", none), "word_by", "word_by", defArgs s_word_by, defBody s_word_by, defScope s_word_by, [], []⟩
def dd_fields_by : He.DefD := ⟨("fields_by", none), "fields_by", "fields_by", defArgs s_fields_by, defBody s_fields_by, defScope s_fields_by, [], []⟩
def dd_need_word : He.DefD := ⟨("need_word", none), "need_word", "need_word", defArgs s_need_word, defBody s_need_word, defScope s_need_word, [], []⟩
def dd_word_of : He.DefD := ⟨("word_of", none), "word_of", "word_of", defArgs s_word_of, defBody s_word_of, defScope s_word_of, [(.bl true)], []⟩
def dd_fields_in : He.DefD := ⟨("fields_in", none), "fields_in", "fields_in", defArgs s_fields_in, defBody s_fields_in, defScope s_fields_in, [(.bl true)], []⟩
def dd__law_cell_at : He.DefD := ⟨("_law_cell_at", none), "_law_cell_at", "_law_cell_at", defArgs s__law_cell_at, defBody s__law_cell_at, defScope s__law_cell_at, [], []⟩
def dd__law_state : He.DefD := ⟨("_law_state", none), "_law_state", "_law_state", defArgs s__law_state, defBody s__law_state, defScope s__law_state, [], []⟩
def dd__law_choice : He.DefD := ⟨("_law_choice", none), "_law_choice", "_law_choice", defArgs s__law_choice, defBody s__law_choice, defScope s__law_choice, [], []⟩
def dd__law_parity : He.DefD := ⟨("_law_parity", none), "_law_parity", "_law_parity", defArgs s__law_parity, defBody s__law_parity, defScope s__law_parity, [], []⟩
def dd__law_wrong : He.DefD := ⟨("_law_wrong", none), "_law_wrong", "_law_wrong", defArgs s__law_wrong, defBody s__law_wrong, defScope s__law_wrong, [], []⟩
def dd__law_spots : He.DefD := ⟨("_law_spots", none), "_law_spots", "_law_spots", defArgs s__law_spots, defBody s__law_spots, defScope s__law_spots, [], []⟩
def dd__law_sealed : He.DefD := ⟨("_law_sealed", none), "_law_sealed", "_law_sealed", defArgs s__law_sealed, defBody s__law_sealed, defScope s__law_sealed, [], []⟩
def dd__law_number_of : He.DefD := ⟨("_law_number_of", none), "_law_number_of", "_law_number_of", defArgs s__law_number_of, defBody s__law_number_of, defScope s__law_number_of, [], []⟩
def dd__law_word : He.DefD := ⟨("_law_word", none), "_law_word", "_law_word", defArgs s__law_word, defBody s__law_word, defScope s__law_word, [], []⟩
def dd__law_fields_of : He.DefD := ⟨("_law_fields_of", none), "_law_fields_of", "_law_fields_of", defArgs s__law_fields_of, defBody s__law_fields_of, defScope s__law_fields_of, [], []⟩
def dd__law_opened : He.DefD := ⟨("_law_opened", none), "_law_opened", "_law_opened", defArgs s__law_opened, defBody s__law_opened, defScope s__law_opened, [], []⟩
def dd__law_same : He.DefD := ⟨("_law_same", none), "_law_same", "_law_same", defArgs s__law_same, defBody s__law_same, defScope s__law_same, [], []⟩
def dd__law_fields_any : He.DefD := ⟨("_law_fields_any", none), "_law_fields_any", "_law_fields_any", defArgs s__law_fields_any, defBody s__law_fields_any, defScope s__law_fields_any, [], []⟩
def dd__law_in_right : He.DefD := ⟨("_law_in_right", none), "_law_in_right", "_law_in_right", defArgs s__law_in_right, defBody s__law_in_right, defScope s__law_in_right, [], []⟩
def dd__law_right : He.DefD := ⟨("_law_right", none), "_law_right", "_law_right", defArgs s__law_right, defBody s__law_right, defScope s__law_right, [], []⟩
def dd_law : He.DefD := ⟨("law", none), "law", "law", defArgs s_law, defBody s_law, defScope s_law, [], []⟩
def fn : List He.DefD := [dd_is_whole, dd_is_within, dd_checks_for, dd_is_odd, dd_wrong_of, dd_runs_of, dd_seal_by, dd_number_in, dd_opened_by, dd_is_fields, dd_number_of, dd_fields_of, dd_word_by, dd_fields_by, dd_need_word, dd_word_of, dd_fields_in, dd__law_cell_at, dd__law_state, dd__law_choice, dd__law_parity, dd__law_wrong, dd__law_spots, dd__law_sealed, dd__law_number_of, dd__law_word, dd__law_fields_of, dd__law_opened, dd__law_same, dd__law_fields_any, dd__law_in_right, dd__law_right, dd_law]
def fa : List He.Fa := [.free "all", .free "bool", .free "enumerate", .free "int", .free "isinstance", .free "len", .free "max", .free "min", .free "range", .free "repr", .free "str", .free "sum", .free "tuple", .free "zip", .glo "FOLDS", .glo "KINDS", .glo "MASKS", .glo "MOST", .int "WIDTH" 40, .int "WORD_BITS" 47, .glo "NoFields", .exc "NoFields", .glo "NoWord", .exc "NoWord", .glo "is_whole", .glo "is_within", .glo "checks_for", .glo "is_odd", .glo "wrong_of", .glo "runs_of", .glo "seal_by", .glo "number_in", .glo "opened_by", .glo "is_fields", .glo "number_of", .glo "fields_of", .glo "word_by", .glo "fields_by", .glo "need_word", .glo "word_of", .glo "fields_in", .glo "_law_cell_at", .glo "_law_state", .glo "_law_choice", .glo "_law_parity", .glo "_law_wrong", .glo "_law_spots", .glo "_law_sealed", .glo "_law_number_of", .glo "_law_word", .glo "_law_fields_of", .glo "_law_opened", .glo "_law_same", .glo "_law_fields_any", .glo "_law_in_right", .glo "_law_right", .glo "law"]
/-- what the pure part may lean on -/
structure Pu (K : PySem.W.Frag) : Prop where
  t_FOLDS : ∀ H : Hp, SqT K H (He.ga K "FOLDS") [.int 32, .int 16, .int 8, .int 4, .int 2, .int 1]
  p_FOLDS : ∀ H : Hp, tyV K "tuple" (.ref (He.ga K "FOLDS")) H
  t_KINDS : ∀ H : Hp, SqT K H (He.ga K "KINDS") [.str "write", .str "trim", .str "member", .str "commit"]
  p_KINDS : ∀ H : Hp, tyV K "tuple" (.ref (He.ga K "KINDS")) H
  t_MASKS : ∀ H : Hp, SqT K H (He.ga K "MASKS") [.int 12297829382473034410, .int 14757395258967641292, .int 17361641481138401520, .int 18374966859414961920, .int 18446462603027742720, .int 18446744069414584320]
  p_MASKS : ∀ H : Hp, tyV K "tuple" (.ref (He.ga K "MASKS")) H
  t_MOST : ∀ H : Hp, SqT K H (He.ga K "MOST") [.int 15, .int 16383, .int 16383, .int 63]
  p_MOST : ∀ H : Hp, tyV K "tuple" (.ref (He.ga K "MOST")) H
def ex (K : PySem.W.Frag) : Bool := (He.tupB K "FOLDS" [.int 32, .int 16, .int 8, .int 4, .int 2, .int 1] && plainT K "FOLDS") && (He.tupB K "KINDS" [.str "write", .str "trim", .str "member", .str "commit"] && plainT K "KINDS") && (He.tupB K "MASKS" [.int 12297829382473034410, .int 14757395258967641292, .int 17361641481138401520, .int 18374966859414961920, .int 18446462603027742720, .int 18446744069414584320] && plainT K "MASKS") && (He.tupB K "MOST" [.int 15, .int 16383, .int 16383, .int 63] && plainT K "MOST") && true
abbrev R : PySem.W.OpenRow := PySem.W.OpenLaw.row PySem.Challenge.rw_flashkeep_k06_words_of_fields
abbrev hk : PySem.W.Hook := He.hookX 6 fa fn [] [] ex
def ob (s : PySem.W.SharedT) : He.AlX := He.obsX 6 fa fn [] [] ex (HandSHeadRun.getT s)
theorem ob_eq (s : PySem.W.SharedT) : ob s = hk.obs s.abs := He.obsX_eq (HandSHeadRun.getT_eq s)
def loose0 : List Str := ["FlashError", "NoWord", "NoFields", "is_whole", "is_within", "MASKS", "FOLDS", "checks_for", "is_odd", "wrong_of", "runs_of", "seal_by", "number_in", "opened_by", "KINDS", "MOST_PLACE", "MOST_NUMBER", "MOST_DATA", "WIDTH", "WORD_BITS", "MOST", "is_fields", "number_of", "fields_of", "word_by", "fields_by", "need_word", "word_of", "fields_in", "_law_cell_at"]
def loose1 : List Str := ["_law_state", "_law_choice", "_law_parity", "_law_wrong", "_law_spots", "_law_sealed", "_law_number_of", "_law_word", "_law_fields_of", "_law_opened", "_law_same", "_law_fields_any", "_law_in_right", "_law_right"]
def loose : List Str := loose0 ++ loose1
theorem run (w : World) : HandSHeadRun.RunEq R (PySem.W.view R.prog [49]) hk ob 20000 loose w := by
  intro os
  kernel_rfl
theorem facts {P : Program} {w : World} {K : PySem.W.Frag} {h : Heap} {mg : Str → Option Value} {f : Addr} (X : K.In h) (G : h.Ns mainGlobals mg) (hfa : mg ("law" : Str) = some (.ref f)) (c : He.SaysX fa fn [] [] ex w h K) :
    Pu K ∧ ∃ fd : FuncData, (∀ (s : Shared) (v : Value), BindsTo s fd ⟨[v], []⟩ [("_law_script", v)]) ∧ ∀ base : Heap, K.In base → base.Ns mainGlobals mg → FnG P w K mg base 9 f fd ["_law_script"] (sp_law K) := by
  have cD : He.SaysD fa fn K := congrArg (fun z : He.AlT => z.1) c.t
  have B : Bs K mg := {
    n_all := He.free_ok X G (cD.fact 0 (f := .free "all") rfl)
    n_bool := He.free_ok X G (cD.fact 1 (f := .free "bool") rfl)
    n_enumerate := He.free_ok X G (cD.fact 2 (f := .free "enumerate") rfl)
    n_int := He.free_ok X G (cD.fact 3 (f := .free "int") rfl)
    n_isinstance := He.free_ok X G (cD.fact 4 (f := .free "isinstance") rfl)
    n_len := He.free_ok X G (cD.fact 5 (f := .free "len") rfl)
    n_max := He.free_ok X G (cD.fact 6 (f := .free "max") rfl)
    n_min := He.free_ok X G (cD.fact 7 (f := .free "min") rfl)
    n_range := He.free_ok X G (cD.fact 8 (f := .free "range") rfl)
    n_repr := He.free_ok X G (cD.fact 9 (f := .free "repr") rfl)
    n_str := He.free_ok X G (cD.fact 10 (f := .free "str") rfl)
    n_sum := He.free_ok X G (cD.fact 11 (f := .free "sum") rfl)
    n_tuple := He.free_ok X G (cD.fact 12 (f := .free "tuple") rfl)
    n_zip := He.free_ok X G (cD.fact 13 (f := .free "zip") rfl)
    r_FOLDS := He.glo_ok X G (cD.fact 14 (f := .glo "FOLDS") rfl)
    r_KINDS := He.glo_ok X G (cD.fact 15 (f := .glo "KINDS") rfl)
    r_MASKS := He.glo_ok X G (cD.fact 16 (f := .glo "MASKS") rfl)
    r_MOST := He.glo_ok X G (cD.fact 17 (f := .glo "MOST") rfl)
    c_WIDTH := He.int_ok X G (cD.fact 18 (f := .int "WIDTH" 40) rfl)
    c_WORD_BITS := He.int_ok X G (cD.fact 19 (f := .int "WORD_BITS" 47) rfl)
    x_NoFields := by
      have q := He.exc_ok (x := "NoFields") (cD.fact 21 (f := .exc "NoFields") rfl)
      exact ⟨He.glo_ok X G (cD.fact 20 (f := .glo "NoFields") rfl), q.1, q.2.1, q.2.2.1, q.2.2.2⟩
    x_NoWord := by
      have q := He.exc_ok (x := "NoWord") (cD.fact 23 (f := .exc "NoWord") rfl)
      exact ⟨He.glo_ok X G (cD.fact 22 (f := .glo "NoWord") rfl), q.1, q.2.1, q.2.2.1, q.2.2.2⟩
  }
  have mo := c.more
  simp only [ex, Bool.and_eq_true] at mo
  obtain ⟨⟨⟨⟨⟨m0, n0⟩, ⟨m1, n1⟩⟩, ⟨m2, n2⟩⟩, ⟨m3, n3⟩⟩, _⟩ := mo
  refine ⟨⟨fun H => He.tupB_ok m0 H, fun H => plainT_ok n0 H, fun H => He.tupB_ok m1 H, fun H => plainT_ok n1 H, fun H => He.tupB_ok m2 H, fun H => plainT_ok n2 H, fun H => He.tupB_ok m3 H, fun H => plainT_ok n3 H⟩, ?_⟩
  obtain ⟨fd_is_whole, F_is_whole⟩ := cD.def_ 0 (d := dd_is_whole) rfl
  obtain ⟨fd_is_within, F_is_within⟩ := cD.def_ 1 (d := dd_is_within) rfl
  obtain ⟨fd_checks_for, F_checks_for⟩ := cD.def_ 2 (d := dd_checks_for) rfl
  obtain ⟨fd_is_odd, F_is_odd⟩ := cD.def_ 3 (d := dd_is_odd) rfl
  obtain ⟨fd_wrong_of, F_wrong_of⟩ := cD.def_ 4 (d := dd_wrong_of) rfl
  obtain ⟨fd_runs_of, F_runs_of⟩ := cD.def_ 5 (d := dd_runs_of) rfl
  obtain ⟨fd_seal_by, F_seal_by⟩ := cD.def_ 6 (d := dd_seal_by) rfl
  obtain ⟨fd_number_in, F_number_in⟩ := cD.def_ 7 (d := dd_number_in) rfl
  obtain ⟨fd_opened_by, F_opened_by⟩ := cD.def_ 8 (d := dd_opened_by) rfl
  obtain ⟨fd_is_fields, F_is_fields⟩ := cD.def_ 9 (d := dd_is_fields) rfl
  obtain ⟨fd_number_of, F_number_of⟩ := cD.def_ 10 (d := dd_number_of) rfl
  obtain ⟨fd_fields_of, F_fields_of⟩ := cD.def_ 11 (d := dd_fields_of) rfl
  obtain ⟨fd_word_by, F_word_by⟩ := cD.def_ 12 (d := dd_word_by) rfl
  obtain ⟨fd_fields_by, F_fields_by⟩ := cD.def_ 13 (d := dd_fields_by) rfl
  obtain ⟨fd_need_word, F_need_word⟩ := cD.def_ 14 (d := dd_need_word) rfl
  obtain ⟨fd_word_of, F_word_of⟩ := cD.def_ 15 (d := dd_word_of) rfl
  obtain ⟨fd_fields_in, F_fields_in⟩ := cD.def_ 16 (d := dd_fields_in) rfl
  obtain ⟨fd__law_cell_at, F__law_cell_at⟩ := cD.def_ 17 (d := dd__law_cell_at) rfl
  obtain ⟨fd__law_state, F__law_state⟩ := cD.def_ 18 (d := dd__law_state) rfl
  obtain ⟨fd__law_choice, F__law_choice⟩ := cD.def_ 19 (d := dd__law_choice) rfl
  obtain ⟨fd__law_parity, F__law_parity⟩ := cD.def_ 20 (d := dd__law_parity) rfl
  obtain ⟨fd__law_wrong, F__law_wrong⟩ := cD.def_ 21 (d := dd__law_wrong) rfl
  obtain ⟨fd__law_spots, F__law_spots⟩ := cD.def_ 22 (d := dd__law_spots) rfl
  obtain ⟨fd__law_sealed, F__law_sealed⟩ := cD.def_ 23 (d := dd__law_sealed) rfl
  obtain ⟨fd__law_number_of, F__law_number_of⟩ := cD.def_ 24 (d := dd__law_number_of) rfl
  obtain ⟨fd__law_word, F__law_word⟩ := cD.def_ 25 (d := dd__law_word) rfl
  obtain ⟨fd__law_fields_of, F__law_fields_of⟩ := cD.def_ 26 (d := dd__law_fields_of) rfl
  obtain ⟨fd__law_opened, F__law_opened⟩ := cD.def_ 27 (d := dd__law_opened) rfl
  obtain ⟨fd__law_same, F__law_same⟩ := cD.def_ 28 (d := dd__law_same) rfl
  obtain ⟨fd__law_fields_any, F__law_fields_any⟩ := cD.def_ 29 (d := dd__law_fields_any) rfl
  obtain ⟨fd__law_in_right, F__law_in_right⟩ := cD.def_ 30 (d := dd__law_in_right) rfl
  obtain ⟨fd__law_right, F__law_right⟩ := cD.def_ 31 (d := dd__law_right) rfl
  obtain ⟨fd_law, F_law⟩ := cD.def_ 32 (d := dd_law) rfl
  have e := hfa.symm.trans (He.glo_ok X G (cD.fact 56 (f := .glo "law") rfl))
  cases e
  have b := FunD.bindsA (ps := ["_law_script"]) F_law fun _ _ _ _ _ _ us hl => match us, hl with | [_], _ => rfl
  refine ⟨fd_law, fun s v => b s [v] rfl, fun base _ _ => ?_⟩
  have C_is_whole : Cal P w K mg base 1 "is_whole" ["thing"] [] (sp_is_whole K) := ⟨_, _, _, ok_is_whole F_is_whole B , He.glo_ok X G (cD.fact 24 (f := .glo "is_whole") rfl), F_is_whole.kp, F_is_whole.bindsN (fun _ _ _ _ _ _ us hl => match us, hl with | [_], _ => rfl), .nil⟩
  have C_is_within : Cal P w K mg base 2 "is_within" ["thing", "least", "most"] [] (sp_is_within K) := ⟨_, _, _, ok_is_within F_is_within B C_is_whole, He.glo_ok X G (cD.fact 25 (f := .glo "is_within") rfl), F_is_within.kp, F_is_within.bindsN (fun _ _ _ _ _ _ us hl => match us, hl with | [_, _, _], _ => rfl), .nil⟩
  have C_checks_for : Cal P w K mg base 1 "checks_for" ["width"] [] (sp_checks_for K) := ⟨_, _, _, ok_checks_for F_checks_for B , He.glo_ok X G (cD.fact 26 (f := .glo "checks_for") rfl), F_checks_for.kp, F_checks_for.bindsN (fun _ _ _ _ _ _ us hl => match us, hl with | [_], _ => rfl), .nil⟩
  have C_is_odd : Cal P w K mg base 1 "is_odd" ["word"] [] (sp_is_odd K) := ⟨_, _, _, ok_is_odd F_is_odd B , He.glo_ok X G (cD.fact 27 (f := .glo "is_odd") rfl), F_is_odd.kp, F_is_odd.bindsN (fun _ _ _ _ _ _ us hl => match us, hl with | [_], _ => rfl), .nil⟩
  have C_wrong_of : Cal P w K mg base 2 "wrong_of" ["word"] [] (sp_wrong_of K) := ⟨_, _, _, ok_wrong_of F_wrong_of B C_is_odd, He.glo_ok X G (cD.fact 28 (f := .glo "wrong_of") rfl), F_wrong_of.kp, F_wrong_of.bindsN (fun _ _ _ _ _ _ us hl => match us, hl with | [_], _ => rfl), .nil⟩
  have C_runs_of : Cal P w K mg base 1 "runs_of" ["width"] [] (sp_runs_of K) := ⟨_, _, _, ok_runs_of F_runs_of B , He.glo_ok X G (cD.fact 29 (f := .glo "runs_of") rfl), F_runs_of.kp, F_runs_of.bindsN (fun _ _ _ _ _ _ us hl => match us, hl with | [_], _ => rfl), .nil⟩
  have C_seal_by : Cal P w K mg base 3 "seal_by" ["number", "width"] [] (sp_seal_by K) := ⟨_, _, _, ok_seal_by F_seal_by B C_checks_for C_is_odd C_runs_of C_wrong_of, He.glo_ok X G (cD.fact 30 (f := .glo "seal_by") rfl), F_seal_by.kp, F_seal_by.bindsN (fun _ _ _ _ _ _ us hl => match us, hl with | [_, _], _ => rfl), .nil⟩
  have C_number_in : Cal P w K mg base 2 "number_in" ["word", "width"] [] (sp_number_in K) := ⟨_, _, _, ok_number_in F_number_in B C_runs_of, He.glo_ok X G (cD.fact 31 (f := .glo "number_in") rfl), F_number_in.kp, F_number_in.bindsN (fun _ _ _ _ _ _ us hl => match us, hl with | [_, _], _ => rfl), .nil⟩
  have C_opened_by : Cal P w K mg base 3 "opened_by" ["word", "width"] [] (sp_opened_by K) := ⟨_, _, _, ok_opened_by F_opened_by B C_checks_for C_is_odd C_number_in C_wrong_of, He.glo_ok X G (cD.fact 32 (f := .glo "opened_by") rfl), F_opened_by.kp, F_opened_by.bindsN (fun _ _ _ _ _ _ us hl => match us, hl with | [_, _], _ => rfl), .nil⟩
  have C_is_fields : Cal P w K mg base 3 "is_fields" ["thing"] [] (sp_is_fields K) := ⟨_, _, _, ok_is_fields F_is_fields B C_is_within, He.glo_ok X G (cD.fact 33 (f := .glo "is_fields") rfl), F_is_fields.kp, F_is_fields.bindsN (fun _ _ _ _ _ _ us hl => match us, hl with | [_], _ => rfl), .nil⟩
  have C_number_of : Cal P w K mg base 1 "number_of" ["fields"] [] (sp_number_of K) := ⟨_, _, _, ok_number_of F_number_of B , He.glo_ok X G (cD.fact 34 (f := .glo "number_of") rfl), F_number_of.kp, F_number_of.bindsN (fun _ _ _ _ _ _ us hl => match us, hl with | [_], _ => rfl), .nil⟩
  have C_fields_of : Cal P w K mg base 4 "fields_of" ["number"] [] (sp_fields_of K) := ⟨_, _, _, ok_fields_of F_fields_of B C_is_fields, He.glo_ok X G (cD.fact 35 (f := .glo "fields_of") rfl), F_fields_of.kp, F_fields_of.bindsN (fun _ _ _ _ _ _ us hl => match us, hl with | [_], _ => rfl), .nil⟩
  have C_word_by : Cal P w K mg base 4 "word_by" ["fields", "sealed"] [] (sp_word_by K) := ⟨_, _, _, ok_word_by F_word_by B C_number_of C_seal_by, He.glo_ok X G (cD.fact 36 (f := .glo "word_by") rfl), F_word_by.kp, F_word_by.bindsN (fun _ _ _ _ _ _ us hl => match us, hl with | [_, _], _ => rfl), .nil⟩
  have C_fields_by : Cal P w K mg base 5 "fields_by" ["word", "sealed"] [] (sp_fields_by K) := ⟨_, _, _, ok_fields_by F_fields_by B C_fields_of C_opened_by, He.glo_ok X G (cD.fact 37 (f := .glo "fields_by") rfl), F_fields_by.kp, F_fields_by.bindsN (fun _ _ _ _ _ _ us hl => match us, hl with | [_, _], _ => rfl), .nil⟩
  have C_need_word : Cal P w K mg base 3 "need_word" ["word"] [] (sp_need_word K) := ⟨_, _, _, ok_need_word F_need_word B C_is_within, He.glo_ok X G (cD.fact 38 (f := .glo "need_word") rfl), F_need_word.kp, F_need_word.bindsN (fun _ _ _ _ _ _ us hl => match us, hl with | [_], _ => rfl), .nil⟩
  obtain ⟨dsC_word_of, dvC_word_of, biC_word_of⟩ := FunD.binds1 (ps := ["fields", "sealed"]) F_word_of 2 1 (fun h => nomatch h) rfl (fun T kV doc pm an cdv ct us its hl hl2 => match us, hl, its, hl2 with | [_, _], _, [_], _ => ⟨_, rfl, rfl⟩)
  have C_word_of : Cal P w K mg base 5 "word_of" ["fields", "sealed"] [] (sp_word_of K) := ⟨_, _, _, ok_word_of F_word_of B C_is_fields C_word_by, He.glo_ok X G (cD.fact 39 (f := .glo "word_of") rfl), F_word_of.kp, biC_word_of, dvC_word_of⟩
  obtain ⟨dsC_word_of_1, dvC_word_of_1, biC_word_of_1⟩ := FunD.binds1 (ps := ["fields", "sealed"]) F_word_of 1 0 (fun h => nomatch h) rfl (fun T kV doc pm an cdv ct us its hl hl2 => match us, hl, its, hl2 with | [_], _, [_], _ => ⟨_, rfl, rfl⟩)
  have C_word_of_1 : Cal P w K mg base 5 "word_of" ["fields", "sealed"] [(.bl true)] (sp_word_of K) := ⟨_, _, _, ok_word_of F_word_of B C_is_fields C_word_by, He.glo_ok X G (cD.fact 39 (f := .glo "word_of") rfl), F_word_of.kp, biC_word_of_1, dvC_word_of_1⟩
  obtain ⟨dsC_fields_in, dvC_fields_in, biC_fields_in⟩ := FunD.binds1 (ps := ["word", "sealed"]) F_fields_in 2 1 (fun h => nomatch h) rfl (fun T kV doc pm an cdv ct us its hl hl2 => match us, hl, its, hl2 with | [_, _], _, [_], _ => ⟨_, rfl, rfl⟩)
  have C_fields_in : Cal P w K mg base 6 "fields_in" ["word", "sealed"] [] (sp_fields_in K) := ⟨_, _, _, ok_fields_in F_fields_in B C_fields_by C_need_word, He.glo_ok X G (cD.fact 40 (f := .glo "fields_in") rfl), F_fields_in.kp, biC_fields_in, dvC_fields_in⟩
  obtain ⟨dsC_fields_in_1, dvC_fields_in_1, biC_fields_in_1⟩ := FunD.binds1 (ps := ["word", "sealed"]) F_fields_in 1 0 (fun h => nomatch h) rfl (fun T kV doc pm an cdv ct us its hl hl2 => match us, hl, its, hl2 with | [_], _, [_], _ => ⟨_, rfl, rfl⟩)
  have C_fields_in_1 : Cal P w K mg base 6 "fields_in" ["word", "sealed"] [(.bl true)] (sp_fields_in K) := ⟨_, _, _, ok_fields_in F_fields_in B C_fields_by C_need_word, He.glo_ok X G (cD.fact 40 (f := .glo "fields_in") rfl), F_fields_in.kp, biC_fields_in_1, dvC_fields_in_1⟩
  have C__law_cell_at : Cal P w K mg base 1 "_law_cell_at" ["_law_script", "_law_k"] [] (sp__law_cell_at K) := ⟨_, _, _, ok__law_cell_at F__law_cell_at B , He.glo_ok X G (cD.fact 41 (f := .glo "_law_cell_at") rfl), F__law_cell_at.kp, F__law_cell_at.bindsN (fun _ _ _ _ _ _ us hl => match us, hl with | [_, _], _ => rfl), .nil⟩
  have C__law_state : Cal P w K mg base 2 "_law_state" ["_law_script", "_law_k"] [] (sp__law_state K) := ⟨_, _, _, ok__law_state F__law_state B C__law_cell_at, He.glo_ok X G (cD.fact 42 (f := .glo "_law_state") rfl), F__law_state.kp, F__law_state.bindsN (fun _ _ _ _ _ _ us hl => match us, hl with | [_, _], _ => rfl), .nil⟩
  have C__law_choice : Cal P w K mg base 1 "_law_choice" ["_law_state_here", "_law_many"] [] (sp__law_choice K) := ⟨_, _, _, ok__law_choice F__law_choice B , He.glo_ok X G (cD.fact 43 (f := .glo "_law_choice") rfl), F__law_choice.kp, F__law_choice.bindsN (fun _ _ _ _ _ _ us hl => match us, hl with | [_, _], _ => rfl), .nil⟩
  have C__law_parity : Cal P w K mg base 1 "_law_parity" ["_law_word_here"] [] (sp__law_parity K) := ⟨_, _, _, ok__law_parity F__law_parity B , He.glo_ok X G (cD.fact 44 (f := .glo "_law_parity") rfl), F__law_parity.kp, F__law_parity.bindsN (fun _ _ _ _ _ _ us hl => match us, hl with | [_], _ => rfl), .nil⟩
  have C__law_wrong : Cal P w K mg base 1 "_law_wrong" ["_law_word_here"] [] (sp__law_wrong K) := ⟨_, _, _, ok__law_wrong F__law_wrong B , He.glo_ok X G (cD.fact 45 (f := .glo "_law_wrong") rfl), F__law_wrong.kp, F__law_wrong.bindsN (fun _ _ _ _ _ _ us hl => match us, hl with | [_], _ => rfl), .nil⟩
  have C__law_spots : Cal P w K mg base 1 "_law_spots" ["_law_width"] [] (sp__law_spots K) := ⟨_, _, _, ok__law_spots F__law_spots B , He.glo_ok X G (cD.fact 46 (f := .glo "_law_spots") rfl), F__law_spots.kp, F__law_spots.bindsN (fun _ _ _ _ _ _ us hl => match us, hl with | [_], _ => rfl), .nil⟩
  have C__law_sealed : Cal P w K mg base 2 "_law_sealed" ["_law_number", "_law_width"] [] (sp__law_sealed K) := ⟨_, _, _, ok__law_sealed F__law_sealed B C__law_parity C__law_spots C__law_wrong, He.glo_ok X G (cD.fact 47 (f := .glo "_law_sealed") rfl), F__law_sealed.kp, F__law_sealed.bindsN (fun _ _ _ _ _ _ us hl => match us, hl with | [_, _], _ => rfl), .nil⟩
  have C__law_number_of : Cal P w K mg base 1 "_law_number_of" ["_law_fields"] [] (sp__law_number_of K) := ⟨_, _, _, ok__law_number_of F__law_number_of B , He.glo_ok X G (cD.fact 48 (f := .glo "_law_number_of") rfl), F__law_number_of.kp, F__law_number_of.bindsN (fun _ _ _ _ _ _ us hl => match us, hl with | [_], _ => rfl), .nil⟩
  have C__law_word : Cal P w K mg base 3 "_law_word" ["_law_fields", "_law_sealed_here"] [] (sp__law_word K) := ⟨_, _, _, ok__law_word F__law_word B C__law_number_of C__law_sealed, He.glo_ok X G (cD.fact 49 (f := .glo "_law_word") rfl), F__law_word.kp, F__law_word.bindsN (fun _ _ _ _ _ _ us hl => match us, hl with | [_, _], _ => rfl), .nil⟩
  have C__law_fields_of : Cal P w K mg base 1 "_law_fields_of" ["_law_number"] [] (sp__law_fields_of K) := ⟨_, _, _, ok__law_fields_of F__law_fields_of B , He.glo_ok X G (cD.fact 50 (f := .glo "_law_fields_of") rfl), F__law_fields_of.kp, F__law_fields_of.bindsN (fun _ _ _ _ _ _ us hl => match us, hl with | [_], _ => rfl), .nil⟩
  have C__law_opened : Cal P w K mg base 2 "_law_opened" ["_law_word_here", "_law_sealed_here"] [] (sp__law_opened K) := ⟨_, _, _, ok__law_opened F__law_opened B C__law_fields_of C__law_parity C__law_spots C__law_wrong, He.glo_ok X G (cD.fact 51 (f := .glo "_law_opened") rfl), F__law_opened.kp, F__law_opened.bindsN (fun _ _ _ _ _ _ us hl => match us, hl with | [_, _], _ => rfl), .nil⟩
  have C__law_same : CalG P w K mg base 1 "_law_same" ["_law_found", "_law_owed"] [] (sp__law_same K) := ⟨_, _, _, ok__law_same F__law_same B , He.glo_ok X G (cD.fact 52 (f := .glo "_law_same") rfl), F__law_same.kp, F__law_same.bindsN (fun _ _ _ _ _ _ us hl => match us, hl with | [_, _], _ => rfl), .nil⟩
  have C__law_fields_any : Cal P w K mg base 2 "_law_fields_any" ["_law_state_here"] [] (sp__law_fields_any K) := ⟨_, _, _, ok__law_fields_any F__law_fields_any B C__law_choice, He.glo_ok X G (cD.fact 53 (f := .glo "_law_fields_any") rfl), F__law_fields_any.kp, F__law_fields_any.bindsN (fun _ _ _ _ _ _ us hl => match us, hl with | [_], _ => rfl), .nil⟩
  have C__law_in_right : CalG P w K mg base 7 "_law_in_right" ["_law_word_here"] [] (sp__law_in_right K) := ⟨_, _, _, ok__law_in_right F__law_in_right B C__law_opened C__law_same C_fields_in C_fields_in_1, He.glo_ok X G (cD.fact 54 (f := .glo "_law_in_right") rfl), F__law_in_right.kp, F__law_in_right.bindsN (fun _ _ _ _ _ _ us hl => match us, hl with | [_], _ => rfl), .nil⟩
  have C__law_right : CalG P w K mg base 8 "_law_right" ["_law_state_here"] [] (sp__law_right K) := ⟨_, _, _, ok__law_right F__law_right B C__law_choice C__law_fields_any C__law_in_right C__law_sealed C__law_word C_word_of C_word_of_1, He.glo_ok X G (cD.fact 55 (f := .glo "_law_right") rfl), F__law_right.kp, F__law_right.bindsN (fun _ _ _ _ _ _ us hl => match us, hl with | [_], _ => rfl), .nil⟩
  exact ok_law F_law B C__law_right C__law_state
end Fk
namespace Fk
open PySem PySem.Spec PyProof.Rows L2
local macro_rules
  | `(tactic| walk_at "g1") => `(tactic| first
    | (with_reducible refine' r_setNx ?ns ?_; (case ns => repeat constructor))
    | with_reducible refine r_seq ?_
    | with_reducible refine r_asg ?_
    | (with_reducible refine' r_var ?gs ?_; (case gs => repeat constructor))
    | with_reducible refine r_c ?_
    | with_reducible refine r_op ?_
    | with_reducible refine r_nil ?_
    | with_reducible refine r_cons ?_
    | with_reducible refine r_cb ?_
    | with_reducible refine r_call ?_
    | (with_reducible refine' r_gn ?ns ?_; (case ns => repeat constructor))
    | with_reducible refine r_nx ?_
    | with_reducible refine r_rt ?_
    | with_reducible refine r_ret ?_
    | with_reducible refine r_retN ?_
    | with_reducible refine r_drop ?_
    | with_reducible refine r_next ?_
    | with_reducible refine r_if ?_
    | with_reducible refine r_ife ?_
    | with_reducible refine r_test ?_
    | with_reducible refine r_tB ?_
    | with_reducible refine r_bl ?_
    | with_reducible refine r_not ?_
    | with_reducible refine r_and ?_
    | with_reducible refine r_or ?_
    | with_reducible refine r_andV ?_
    | with_reducible refine r_orV ?_
    | with_reducible refine r_notV ?_
    | with_reducible refine r_chain ?_
    | with_reducible refine r_parS ?_
    | (with_reducible refine' r_par ?n1 ?n2 ?_; (case n1 => repeat constructor); (case n2 => repeat constructor))
    | with_reducible refine r_par3S ?_
    | (with_reducible refine' r_par3 ?n1 ?n2 ?n3 ?_; (case n1 => repeat constructor); (case n2 => repeat constructor); (case n3 => repeat constructor))
    | (with_reducible refine' r_aug ?gs ?_; (case gs => repeat constructor))
    | with_reducible refine r_ipI ?_
    | with_reducible refine r_add ?_
    | with_reducible refine r_sub ?_
    | with_reducible refine r_band ?_
    | with_reducible refine r_bxor ?_
    | with_reducible refine r_lt ?_
    | with_reducible refine r_le ?_
    | with_reducible refine r_gt ?_
    | with_reducible refine r_ge ?_
    | with_reducible refine r_eqI ?_
    | with_reducible refine r_neI ?_
    | with_reducible refine r_int ?_
    | with_reducible refine r_intB ?_
    | with_reducible refine r_max2 ?_
    | with_reducible refine r_min2 ?_
    | with_reducible refine r_tup ?_
    | with_reducible refine r_lst ?_
    | with_reducible refine r_gSub ?_
    | with_reducible refine r_gCons ?_
    | with_reducible refine r_gNil ?_
    | with_reducible refine r_bm ?_
    | with_reducible refine r_sl ?_
    | with_reducible refine r_part ?_
    | with_reducible refine r_pint ?_
    | with_reducible refine r_nopart ?_
    | with_reducible refine r_yes ?_
    | with_reducible refine r_NT ?_
    | with_reducible refine r_NF ?_
    | with_reducible refine r_isN ?_
    | with_reducible refine r_nisN ?_
    | with_reducible refine r_nisB ?_
    | with_reducible refine r_neB ?_
    | with_reducible refine r_eqB ?_
    | with_reducible refine r_eqS ?_
    | with_reducible refine r_neS ?_
    | with_reducible refine r_T ?_
    | with_reducible refine r_F ?_)
local macro_rules
  | `(tactic| walk_at "go") => `(tactic| repeat (walk_at "g1"))


/-! ## the program's seals, run -/
section
variable {K : PySem.W.Frag} {H : Hp} {Q : VK} {E : XK}
theorem run_is_whole {i : Int} (h : Q (.bl true) H) : sp_is_whole K [.int i] H Q E := by
  refine ⟨rfl, ?_⟩
  show t_is_whole K E _ [some (.int i)] H
  unfold t_is_whole
  walk_at "go"
  refine r_isi (.ty _) (.base (.int i)) (b := true) (kit_ty (by decide +kernel)) ?_
  walk_at "go"
  refine r_isi (.ty _) (.base (.int i)) (b := false) (kit_ty (by decide +kernel)) ?_
  walk_at "go"
  exact h
theorem run_is_within {i a b : Int} (h : Q (.bl (decide (a ≤ i ∧ i ≤ b))) H) : sp_is_within K [.int i, .int a, .int b] H Q E := by
  refine ⟨rfl, ?_⟩
  show t_is_within K E _ [some (.int i), some (.int a), some (.int b)] H
  unfold t_is_within
  walk_at "go"
  refine run_is_whole ?_
  walk_at "go"
  refine r_iteD (fun h1 => ?_) (fun h1 => ?_)
  · walk_at "go"
    have e : decide (i ≤ b) = decide (a ≤ i ∧ i ≤ b) := by simp [h1]
    rw [e]; exact h
  · have e : false = decide (a ≤ i ∧ i ≤ b) := by simp [h1]
    rw [e]; exact h
theorem run_checks_for {w : Nat} (hw : w ≤ 57) (h : Q (.int (chk w : Nat)) H) : sp_checks_for K [.int (w : Int)] H Q E := by
  refine ⟨rfl, ?_⟩
  show t_checks_for K E _ [some (.int w), none] H
  unfold t_checks_for
  walk_at "go"
  refine r_while (fun m σ H' => ∃ f : Nat, σ = [some (.int (w : Int)), some (.int (f : Int))] ∧ H' = H ∧ m + f = 10 ∧ chkGo w m f = chk w) 10 ⟨0, rfl, rfl, rfl, rfl⟩ ?_
  rintro m _ _ ⟨f, rfl, rfl, hm, hc⟩
  walk_at "go"
  refine n_shl1 (by omega) ?_
  walk_at "go"
  refine r_iteD (fun h1 => ?_) (fun h1 => ?_)
  · refine r_body ?_
    walk_at "go"
    cases m with
    | zero =>
      have e : f = 10 := by omega
      subst e
      exfalso
      have e2 : ((2 ^ 10 : Nat) : Int) = 1024 := by decide
      rw [e2] at h1
      omega
    | succ m =>
      refine ⟨m, by omega, f + 1, rfl, rfl, by omega, ?_⟩
      have h2 : 2 ^ f < w + f + 1 := by omega
      rw [← hc]
      show chkGo w m (f + 1) = if 2 ^ f < w + f + 1 then chkGo w m (f + 1) else f
      rw [if_pos h2]
  · walk_at "go"
    have h2 : ¬ 2 ^ f < w + f + 1 := by omega
    have e : f = chk w := by
      rw [← hc]
      cases m with
      | zero => rfl
      | succ m =>
        show f = if 2 ^ f < w + f + 1 then chkGo w m (f + 1) else f
        rw [if_neg h2]
    rw [e]
    exact h
/-- the folds, one behind the other -/
def foldK : List Nat → Nat → Nat
  | [], w => w
  | f :: r, w => foldK r (w ^^^ w / 2 ^ f)
theorem foldK_eq (w : Nat) : foldK [32, 16, 8, 4, 2, 1] w = foldX w := by
  simp only [foldK, foldX, Nat.shiftRight_eq_div_pow]
def natV (l : List Nat) : List V := l.map fun (n : Nat) => V.int (n : Int)
theorem run_is_odd (pu : Pu K) {w : Nat} (h : Q (.bl (decide (parN w = 1))) H) : sp_is_odd K [.int (w : Int)] H Q E := by
  refine ⟨rfl, ?_⟩
  show t_is_odd K E _ [some (.int w), none] H
  unfold t_is_odd
  refine r_seq (r_for (r_iTup (r_c (f_tup (pu.t_FOLDS H) (fun r σ H' => ∃ (l : List Nat) (a : Nat) (o : Option V), r = natV l ∧ σ = [some (.int (a : Int)), o] ∧ H' = H ∧ foldK l a = foldX w)
    ⟨[32, 16, 8, 4, 2, 1], w, none, rfl, rfl, rfl, foldK_eq w⟩ (fun _ _ _ _ => pu.t_FOLDS _) ?_ ?_))))
  · rintro x r _ _ ⟨l, a, o, hr, rfl, rfl, hf⟩
    cases l with
    | nil => cases hr
    | cons f l =>
      cases hr
      walk_at "go"
      refine n_shr ?_
      walk_at "go"
      rw [bitXor_nat]
      exact ⟨l, a ^^^ a / 2 ^ f, _, rfl, rfl, rfl, hf⟩
  · rintro _ _ ⟨l, a, o, hr, rfl, rfl, hf⟩
    cases l with
    | cons f l => cases hr
    | nil =>
      have e : a = foldX w := hf
      walk_at "go"
      refine n_mod2 ?_
      walk_at "go"
      have e2 : decide (((a % 2 : Nat) : Int) = 1) = decide (parN w = 1) := by
        rw [e]
        show decide (((parN w : Nat) : Int) = 1) = _
        by_cases q : parN w = 1
        · rw [q]; rfl
        · rw [decide_eq_false q, decide_eq_false (by omega)]
      rw [e2]
      exact h
theorem if_par (w : Nat) : (if decide (parN w = 1) = true then (1 : Int) else 0) = ((parN w : Nat) : Int) := by
  have := par_lt w
  by_cases q : parN w = 1
  · rw [q]; rfl
  · have e : parN w = 0 := by omega
    rw [e]; rfl
def wrongL (w : Nat) : List Nat := [parN (w &&& 12297829382473034410), parN (w &&& 14757395258967641292) * 2, parN (w &&& 17361641481138401520) * 4, parN (w &&& 18374966859414961920) * 8, parN (w &&& 18446462603027742720) * 16, parN (w &&& 18446744069414584320) * 32]
theorem wrongL_at (w i : Nat) (m : Nat) (h : masks[i]? = some m) : (wrongL w)[i]? = some (parN (w &&& m) * 2 ^ i) ∧ i < 6 := by
  match i, h with
  | 0, h => cases h; exact ⟨by rw [Nat.pow_zero, Nat.mul_one]; rfl, by decide⟩
  | 1, h => cases h; exact ⟨rfl, by decide⟩
  | 2, h => cases h; exact ⟨rfl, by decide⟩
  | 3, h => cases h; exact ⟨rfl, by decide⟩
  | 4, h => cases h; exact ⟨rfl, by decide⟩
  | 5, h => cases h; exact ⟨rfl, by decide⟩
  | i + 6, h => simp [masks] at h
theorem run_wrong_of (pu : Pu K) {w : Nat} (h : ∀ H', Ex H H' → Q (.int (wrongN w : Nat)) H') : sp_wrong_of K [.int (w : Int)] H Q E := by
  refine ⟨rfl, ?_⟩
  show t_wrong_of K E _ [some (.int w), none, none] H
  unfold t_wrong_of
  walk_at "go"
  refine r_lc (r_iEnumT ?_)
  walk_at "go"
  refine ⟨_, _, rfl, pu.t_MASKS _, fun D hD => ?_⟩
  refine lc_enumT (xs := natV masks) [some (.int (w : Int)), none, none] rfl (fun i H' => Ex H H' ∧ H' D = some (.lst (natV ((wrongL w).take i)))) ⟨Ex.rf.up hD, upd_same⟩ (fun _ _ _ _ => pu.t_MASKS _) ?_ ?_
  · rintro i x T H1 hx ⟨e1, hd⟩ hT
    obtain ⟨m, hm, rfl⟩ : ∃ m, masks[i]? = some m ∧ x = V.int (m : Nat) := by
      rw [natV, List.getElem?_map] at hx
      cases q : masks[i]? with
      | none => rw [q] at hx; cases hx
      | some m => rw [q] at hx; exact ⟨m, rfl, (Option.some.inj hx).symm⟩
    obtain ⟨hv, hi⟩ := wrongL_at w i m hm
    refine r_gTup (xs := [.int (i : Nat), .int (m : Nat)]) (SqT.of upd_same) rfl ?_
    walk_at "go"
    refine ⟨rfl, ?_⟩
    show tYes _ _ _
    unfold tYes
    walk_at "go"
    rw [bitAnd_nat]
    refine run_is_odd pu ?_
    walk_at "go"
    rw [if_par]
    refine n_shl (by omega) (Nat.lt_of_lt_of_le (par_lt _) (by decide)) ?_
    have ne : T ≠ D := fun z => by rw [z, hd] at hT; cases hT
    refine ⟨_, by rw [upd_ne (Ne.symm ne)]; exact hd, ?_, (e1.up hT).up2 hD, ?_⟩
    · rw [natV, List.length_map, List.length_take]
      exact Nat.lt_of_le_of_lt (Nat.min_le_left _ _) (Nat.lt_of_lt_of_le hi (by decide))
    · rw [upd_same]
      have e : (wrongL w).take (i + 1) = (wrongL w).take i ++ [parN (w &&& m) * 2 ^ i] := by
        obtain ⟨hl, e⟩ := List.getElem?_eq_some_iff.mp hv
        rw [List.take_succ_eq_append_getElem hl, e]
      rw [e, natV, natV, List.map_append]
      rfl
  · rintro H1 ⟨e1, hd⟩
    walk_at "go"
    refine r_sum (ns := (wrongL w).map fun (n : Nat) => (n : Int)) ?_ ?_
    · refine SqL.of (hd.trans ?_)
      rw [List.map_map]
      rfl
    · walk_at "go"
      have e : ((wrongL w).map fun (n : Nat) => (n : Int)).sum = ((wrongN w : Nat) : Int) := by
        unfold wrongN
        simp only [wrongL, List.map_cons, List.map_nil, List.sum_cons, List.sum_nil]
        omega
      rw [e]
      exact h H1 e1

/-- tuples of two numbers, one behind the other -/
def RA (H : Hp) : List V → List (Nat × Nat) → Prop
  | [], [] => True
  | v :: vs, fm :: l => (∃ t, v = .ref t ∧ H t = some (.tup [.int (fm.1 : Int), .int (fm.2 : Int)])) ∧ RA H vs l
  | _, _ => False
theorem RA.tx {H H' : Hp} (e : Tx H H') : ∀ {vs : List V} {l : List (Nat × Nat)}, RA H vs l → RA H' vs l
  | [], [], _ => trivial
  | _ :: _, _ :: _, ⟨⟨t, h1, h2⟩, r⟩ => ⟨⟨t, h1, e _ _ h2⟩, RA.tx e r⟩
theorem RA.snoc {H : Hp} {t : Addr} {f m : Nat} (h : H t = some (.tup [.int (f : Int), .int (m : Int)])) : ∀ {vs : List V} {l : List (Nat × Nat)}, RA H vs l → RA H (vs ++ [.ref t]) (l ++ [(f, m)])
  | [], [], _ => ⟨⟨t, rfl, h⟩, trivial⟩
  | _ :: _, _ :: _, ⟨a, r⟩ => ⟨a, RA.snoc h r⟩
theorem RA.len {H : Hp} : ∀ {vs : List V} {l : List (Nat × Nat)}, RA H vs l → vs.length = l.length
  | [], [], _ => rfl
  | _ :: _, _ :: _, ⟨_, r⟩ => congrArg (· + 1) (RA.len r)
theorem runs_len : ∀ w, w < 58 → (runs w).length ≤ 8 := by decide +kernel
theorem run_runs_of {w : Nat} (hw : w ≤ 57) (h : ∀ H' p vs, Ex H H' → H p = none → H' p = some (.lst vs) → RA H' vs (runs w) → Q (.ref p) H') : sp_runs_of K [.int (w : Int)] H Q E := by
  refine ⟨rfl, ?_⟩
  show t_runs_of K E _ [some (.int w), none, none, none, none] H
  unfold t_runs_of
  walk_at "go"
  refine r_new (by simp) fun p hp => ?_
  walk_at "go"
  refine r_while (fun m σ H' => ∃ (left check : Nat) (o : Option V) (vs : List V) (l : List (Nat × Nat)), σ = [some (.int (w : Int)), some (.ref p), some (.int (left : Int)), some (.int (check : Int)), o] ∧ Ex H H' ∧ H' p = some (.lst vs) ∧ RA H' vs l ∧
    l ++ runsGo m left check = runs w ∧ l.length + m = 8 ∧ check * 2 ^ m = 512 ∧ 2 ≤ check ∧ (left = 0 ∨ left + check = w + 2 + (8 - m))) 8
    ⟨w, 2, none, [], [], rfl, Ex.rf.up hp, upd_same, trivial, rfl, rfl, by decide, by decide, .inr (by omega)⟩ ?_
  rintro m _ H1 ⟨left, check, o, vs, l, rfl, e1, hv, ra, hr, hlm, hc, h2, hl⟩
  walk_at "go"
  refine r_iteD (fun h1 => ?_) (fun h1 => ?_)
  · refine r_body ?_
    walk_at "go"
    cases m with
    | zero =>
      exfalso
      rw [Nat.pow_zero] at hc
      omega
    | succ m =>
      have em : (if (left : Int) < (check : Int) - 1 then (left : Int) else (check : Int) - 1) = ((min (check - 1) left : Nat) : Int) := by
        by_cases q : (left : Int) < (check : Int) - 1
        · rw [if_pos q]; omega
        · rw [if_neg q]; omega
      rw [em]
      refine ⟨ty_list hv, ?_⟩
      walk_at "go"
      refine r_new (by simp) fun t ht => ?_
      walk_at "go"
      have npt : p ≠ t := fun z => by rw [← z, hv] at ht; cases ht
      refine r_app (xs := vs) (by rw [upd_ne npt]; exact hv) (by rw [ra.len]; omega) ?_
      walk_at "go"
      refine r_mul (.inl (by decide)) ?_
      walk_at "go"
      have e2 : ((left : Int) - ((min (check - 1) left : Nat) : Int)) = ((left - min (check - 1) left : Nat) : Int) := by omega
      have e3 : ((check : Int) + 1) = ((check + 1 : Nat) : Int) := rfl
      have e4 : ((2 : Int) * (check : Int)) = ((2 * check : Nat) : Int) := by omega
      rw [e2, e3, e4]
      have et : upd (upd H1 t (.tup [.int ((check + 1 : Nat) : Int), .int ((min (check - 1) left : Nat) : Int)])) p (.lst (vs ++ [.ref t])) t = some (.tup [.int ((check + 1 : Nat) : Int), .int ((min (check - 1) left : Nat) : Int)]) := by
        rw [upd_ne (Ne.symm npt)]; exact upd_same
      have ex2 : Tx H1 (upd (upd H1 t (.tup [.int ((check + 1 : Nat) : Int), .int ((min (check - 1) left : Nat) : Int)])) p (.lst (vs ++ [.ref t]))) := (Tx.rf.new ht).lst (by rw [upd_ne npt]; exact hv)
      refine ⟨m, by omega, left - min (check - 1) left, 2 * check, _, vs ++ [.ref t], l ++ [(check + 1, min (check - 1) left)], rfl, (e1.up ht).up2 hp, upd_same, (ra.tx ex2).snoc et, ?_, ?_, ?_, by omega, ?_⟩
      · rw [← hr, List.append_assoc]
        have hl0 : 0 < left := by omega
        show l ++ ((check + 1, min (check - 1) left) :: runsGo m (left - min (check - 1) left) (2 * check)) = l ++ (if 0 < left then (check + 1, min (check - 1) left) :: runsGo m (left - min (check - 1) left) (2 * check) else [])
        rw [if_pos hl0]
      · rw [List.length_append]
        show l.length + 1 + m = 8
        omega
      · rw [Nat.pow_succ, ← Nat.mul_assoc, Nat.mul_comm (check * 2 ^ m) 2, ← Nat.mul_assoc] at hc
        exact hc
      · rcases hl with hl | hl
        · omega
        · omega
  · walk_at "go"
    have h0 : left = 0 := by omega
    have e : l = runs w := by
      rw [← hr, h0]
      cases m with
      | zero => exact (List.append_nil l).symm
      | succ m =>
        show l = l ++ (if 0 < 0 then _ else [])
        rw [if_neg (by omega), List.append_nil]
    rw [e] at ra
    exact h H1 p vs e1 hp hv ra
theorem runs_bound : ((List.range 58).all fun w => (runs w).all fun fm => decide (fm.1 ≤ 64) && decide (fm.2 ≤ 57)) = true := by decide +kernel
theorem runs_le {w : Nat} (hw : w ≤ 57) : ∀ fm ∈ runs w, fm.1 ≤ 64 ∧ fm.2 ≤ 57 := fun fm h => by
  have q := List.all_eq_true.mp (List.all_eq_true.mp runs_bound w (List.mem_range.mpr (by omega))) fm h
  simpa using q
theorem mod_lt64 {n m : Nat} (hm : m ≤ 57) : n % 2 ^ m < 2 ^ 64 := Nat.lt_of_lt_of_le (Nat.mod_lt _ (Nat.two_pow_pos m)) (Nat.pow_le_pow_right (by omega) (by omega))
theorem run_seal_by (pu : Pu K) {w n : Nat} (h1 : 1 ≤ w) (hw : w ≤ 57) (h : ∀ H', Ex H H' → Q (.int (sealS n w : Nat)) H') : sp_seal_by K [.int (n : Int), .int (w : Int)] H Q E := by
  refine ⟨rfl, ?_⟩
  show t_seal_by K E _ [some (.int n), some (.int w), none, none, none, none, none] H
  unfold t_seal_by
  walk_at "go"
  refine r_for (r_iterL ?_)
  walk_at "go"
  refine run_runs_of hw fun H1 p vs e1 hp hv ra => ?_
  refine f_lst (SqL.of hv) (fun r σ H' => ∃ (l : List (Nat × Nat)) (a m : Nat) (o3 o4 : Option V), σ = [some (.int (m : Int)), some (.int (w : Int)), some (.int (a : Int)), o3, o4, none, none] ∧ H' = H1 ∧ RA H1 r l ∧ (∀ fm ∈ l, fm.1 ≤ 64 ∧ fm.2 ≤ 57) ∧ layS l a m = layS (runs w) 0 n)
    ⟨runs w, 0, n, none, none, rfl, rfl, ra, runs_le hw, rfl⟩ (fun r σ H' ⟨_, _, _, _, _, _, e, _⟩ => by rw [e]; exact SqL.of hv) ?_ ?_
  · rintro x r _ _ ⟨l, a, m, o3, o4, rfl, rfl, ra, hb, hy⟩
    cases l with
    | nil => exact ra.elim
    | cons fm l =>
      obtain ⟨⟨t, rfl, ht⟩, ra⟩ := ra
      obtain ⟨b1, b2⟩ := hb fm (List.mem_cons_self ..)
      refine r_gTup (SqT.of ht) rfl ?_
      walk_at "go"
      refine n_shl1 (by omega) ?_
      refine n_mod (Nat.two_pow_pos _) ?_
      walk_at "go"
      refine n_shl (by omega) (mod_lt64 b2) ?_
      refine n_aug ?_
      walk_at "go"
      refine n_shr ?_
      walk_at "go"
      exact ⟨l, _, _, _, _, rfl, rfl, ra, fun z hz => hb z (List.mem_cons_of_mem _ hz), hy⟩
  · rintro _ _ ⟨l, a, m, o3, o4, rfl, rfl, ra, hb, hy⟩
    cases l with
    | cons fm l => exact ra.elim
    | nil =>
      have ea : a = layS (runs w) 0 n := hy
      walk_at "go"
      refine run_wrong_of pu fun H2 e2 => ?_
      walk_at "go"
      refine r_for (r_iRng ?_)
      walk_at "go"
      refine run_checks_for hw ?_
      walk_at "go"
      have hc6 := (look w (by omega) h1).2.1
      refine f_rng ⟨by omega, by omega⟩ (fun i σ H' => ∃ (b : Nat) (o : Option V), σ = [some (.int (m : Int)), some (.int (w : Int)), some (.int (b : Int)), o3, o4, some (.int ((wrongN a : Nat) : Int)), o] ∧ H' = H2 ∧ i ≤ chk w ∧ putS (chk w - i) i b (wrongN a) = putS (chk w) 0 a (wrongN a))
        ⟨a, none, rfl, rfl, by omega, rfl⟩ ?_ ?_
      · rintro i _ _ hi ⟨b, o, rfl, rfl, hi2, hb⟩
        walk_at "go"
        refine n_shr ?_
        walk_at "go"
        refine n_mod2 ?_
        walk_at "go"
        refine n_shl1 (by omega) ?_
        have hp6 : 2 ^ i ≤ 64 := Nat.pow_le_pow_right (n := 2) (by omega) (show i ≤ 6 by omega)
        refine n_shl (by omega) (Nat.lt_of_lt_of_le (Nat.mod_lt _ (by omega)) (by decide)) ?_
        refine n_aug ?_
        walk_at "go"
        refine ⟨_, _, rfl, rfl, by omega, ?_⟩
        rw [← hb]
        have e : chk w - i = (chk w - (i + 1)) + 1 := by omega
        rw [e]
        rfl
      · rintro _ _ ⟨b, o, rfl, rfl, hi2, hb⟩
        have eb : b = putS (chk w) 0 a (wrongN a) := by
          rw [← hb]
          have e : ((chk w : Nat) : Int).toNat = chk w := rfl
          rw [e, Nat.sub_self]
          rfl
        walk_at "go"
        refine run_is_odd pu ?_
        walk_at "go"
        rw [if_par, ← Int.natCast_add]
        have e : b + parN b = sealS n w := by rw [eb, ea]; rfl
        rw [e]
        exact h _ (e1.trans e2)
end

section
variable {K : PySem.W.Frag} {H : Hp} {Q : VK} {E : XK}
theorem run_number_in {w n : Nat} (hw : w ≤ 57) (h : ∀ H', Ex H H' → Q (.int (numN n w : Nat)) H') : sp_number_in K [.int (n : Int), .int (w : Int)] H Q E := by
  refine ⟨rfl, ?_⟩
  show t_number_in K E _ [some (.int n), some (.int w), none, none, none, none] H
  unfold t_number_in
  walk_at "go"
  refine r_new (by simp) fun q hq => ?_
  refine r_gTup (SqT.of upd_same) rfl ?_
  walk_at "go"
  refine r_for (r_iterL ?_)
  walk_at "go"
  refine run_runs_of hw fun H1 p vs e1 hp hv ra => ?_
  have e0 : Ex H H1 := (Ex.rf.up hq).trans e1
  refine f_lst (SqL.of hv) (fun r σ H' => ∃ (l : List (Nat × Nat)) (a pl : Nat) (o3 o4 : Option V), σ = [some (.int (n : Int)), some (.int (w : Int)), some (.int (a : Int)), some (.int (pl : Int)), o3, o4] ∧ H' = H1 ∧ RA H1 r l ∧ (∀ fm ∈ l, fm.1 ≤ 64 ∧ fm.2 ≤ 57) ∧ pl + 57 * l.length ≤ 1000 ∧ numS l a pl n = numN n w)
    ⟨runs w, 0, 0, none, none, rfl, rfl, ra, runs_le hw, by have := runs_len w (by omega); omega, rfl⟩ (fun r σ H' ⟨_, _, _, _, _, _, e, _⟩ => by rw [e]; exact SqL.of hv) ?_ ?_
  · rintro x r _ _ ⟨l, a, pl, o3, o4, rfl, rfl, ra, hb, hpl, hy⟩
    cases l with
    | nil => exact ra.elim
    | cons fm l =>
      obtain ⟨⟨t, rfl, ht⟩, ra⟩ := ra
      obtain ⟨b1, b2⟩ := hb fm (List.mem_cons_self ..)
      rw [List.length_cons] at hpl
      refine r_gTup (SqT.of ht) rfl ?_
      walk_at "go"
      refine n_shr ?_
      walk_at "go"
      refine n_shl1 (by omega) ?_
      refine n_mod (Nat.two_pow_pos _) ?_
      walk_at "go"
      refine n_shl (by omega) (mod_lt64 b2) ?_
      refine n_aug ?_
      walk_at "go"
      exact ⟨l, _, pl + fm.2, _, _, rfl, rfl, ra, fun z hz => hb z (List.mem_cons_of_mem _ hz), by omega, hy⟩
  · rintro _ _ ⟨l, a, pl, o3, o4, rfl, rfl, ra, hb, hpl, hy⟩
    cases l with
    | cons fm l => exact ra.elim
    | nil =>
      have ea : a = numN n w := hy
      walk_at "go"
      rw [ea]
      exact h _ e0

/-- what opened_by tells, as data -/
def opD : Op → PyData
  | .good n => .tuple [.str "good", .int (n : Int)]
  | .mended n b => .tuple [.str "mended", .int (n : Int), .int (b : Int)]
  | .spoilt => .tuple [.str "spoilt"]
theorem run_opened_by (pu : Pu K) {w n : Nat} (h1 : 1 ≤ w) (hw : w ≤ 57) (h : ∀ H' v, Ex H H' → Dp K H' v (opD (openN n w)) → Q v H') : sp_opened_by K [.int (n : Int), .int (w : Int)] H Q E := by
  have hpar := par_lt n
  refine ⟨rfl, ?_⟩
  show t_opened_by K E _ [some (.int n), some (.int w), none, none] H
  unfold t_opened_by
  walk_at "go"
  refine run_wrong_of pu fun H1 e1 => ?_
  walk_at "go"
  refine run_is_odd pu ?_
  walk_at "go"
  refine r_iteD (fun c1 => ?_) (fun c1 => ?_)
  · walk_at "go"
    refine r_iteN (fun c2 => ?_) (fun c2 => ?_)
    · walk_at "go"
      refine run_number_in hw fun H2 e2 => ?_
      walk_at "go"
      refine r_new (by simp) fun p hp => ?_
      walk_at "go"
      refine h _ _ ((e1.trans e2).up hp) ?_
      have eo : openN n w = .good (numN n w) := by unfold openN; rw [if_pos ⟨by omega, by omega⟩]
      rw [eo]
      exact dp_tup upd_same (.cons (.str _) (.cons (.int _) .nil))
    · walk_at "go"
      refine r_iteN (fun c3 => absurd c2 c3) (fun c3 => ?_)
      walk_at "go"
      refine run_checks_for hw ?_
      walk_at "go"
      refine r_iteD (fun c4 => by omega) (fun c4 => ?_)
      walk_at "go"
      refine n_shl1 (by have := wrong_lt n; omega) ?_
      walk_at "go"
      rw [bitXor_nat]
      refine run_number_in hw fun H2 e2 => ?_
      walk_at "go"
      refine r_new (by simp) fun p hp => ?_
      walk_at "go"
      refine h _ _ ((e1.trans e2).up hp) ?_
      have eo : openN n w = .mended (numN (n ^^^ 2 ^ wrongN n) w) (wrongN n) := by unfold openN; rw [if_neg (by omega), if_neg (by omega)]
      rw [eo]
      exact dp_tup upd_same (.cons (.str _) (.cons (.int _) (.cons (.int _) .nil)))
  · walk_at "go"
    refine r_iteN (fun c2 => ?_) (fun c2 => ?_)
    · walk_at "go"
      refine r_new (by simp) fun p hp => ?_
      walk_at "go"
      refine h _ _ (e1.up hp) ?_
      have eo : openN n w = .spoilt := by unfold openN; rw [if_neg (by omega), if_pos (.inl (by omega))]
      rw [eo]
      exact dp_tup upd_same (.cons (.str _) .nil)
    · walk_at "go"
      refine run_checks_for hw ?_
      walk_at "go"
      refine r_iteD (fun c4 => ?_) (fun c4 => ?_)
      · walk_at "go"
        refine r_new (by simp) fun p hp => ?_
        walk_at "go"
        refine h _ _ (e1.up hp) ?_
        have eo : openN n w = .spoilt := by unfold openN; rw [if_neg (by omega), if_pos (.inr (by omega))]
        rw [eo]
        exact dp_tup upd_same (.cons (.str _) .nil)
      · walk_at "go"
        refine n_shl1 (by have := wrong_lt n; omega) ?_
        walk_at "go"
        rw [bitXor_nat]
        refine run_number_in hw fun H2 e2 => ?_
        walk_at "go"
        refine r_new (by simp) fun p hp => ?_
        walk_at "go"
        refine h _ _ ((e1.trans e2).up hp) ?_
        have eo : openN n w = .mended (numN (n ^^^ 2 ^ wrongN n) w) (wrongN n) := by unfold openN; rw [if_neg (by omega), if_neg (by omega)]
        rw [eo]
        exact dp_tup upd_same (.cons (.str _) (.cons (.int _) (.cons (.int _) .nil)))
end

/-! ## the law's draws -/
section
variable {K : PySem.W.Frag} {H : Hp} {Q : VK} {E : XK}
theorem log64 {m : Int} (h1 : 1 ≤ m) (h2 : m < 2 ^ 100) : CDivW 0 m := by
  refine ⟨by omega, ?_⟩
  have : m.natAbs < 2 ^ 100 := by omega
  exact Nat.lt_of_lt_of_le ((Nat.log2_lt (by omega)).mpr this) (by decide)
theorem run__law_choice {a : Addr} {x y z many : Int} (hs : H a = some (.lst [.int x, .int y, .int z])) (h1 : 1 ≤ many) (h2 : many < 2 ^ 100)
    (h : ∀ v x y z : Int, 0 ≤ v → v < many → Q (.int v) (upd H a (.lst [.int x, .int y, .int z]))) : sp__law_choice K [.ref a, .int many] H Q E := by
  refine ⟨rfl, ?_⟩
  show t__law_choice K E _ [some (.ref a), some (.int many), none, none] H
  unfold t__law_choice
  walk_at "go"
  refine r_ixL (SqL.of hs) rfl ?_
  walk_at "go"
  refine r_iteD (fun c => ?_) (fun c => ?_)
  · walk_at "go"
    refine r_ixL (SqL.of hs) rfl ?_
    walk_at "go"
    refine r_mod (by omega) ?_
    walk_at "go"
    refine r_ixL (SqL.of hs) rfl ?_
    walk_at "go"
    refine r_fdvW (log64 h1 h2) ?_
    walk_at "go"
    refine r_setL hs rfl ?_
    walk_at "go"
    exact h _ _ _ _ (Int.emod_nonneg _ (by omega)) (Int.emod_lt_of_pos _ (by omega))
  · walk_at "go"
    refine r_ixL (SqL.of hs) rfl ?_
    walk_at "go"
    refine r_setL hs rfl ?_
    walk_at "go"
    refine r_ixL (SqL.of upd_same) rfl ?_
    walk_at "go"
    refine r_mul (.inr (by decide)) ?_
    walk_at "go"
    refine r_ixL (SqL.of upd_same) rfl ?_
    walk_at "go"
    refine r_mod (by decide) ?_
    walk_at "go"
    refine r_setL upd_same rfl ?_
    walk_at "go"
    rw [upd_upd]
    have b0 : ∀ q : Int, 0 ≤ q % 2147483647 ∧ q % 2147483647 < 2147483647 := fun q => ⟨Int.emod_nonneg _ (by decide), Int.emod_lt_of_pos _ (by decide)⟩
    have b1 := b0 (y * 48271 + 29 + (z + 1))
    generalize hy : (y * 48271 + 29 + (z + 1)) % 2147483647 = y' at b1
    refine r_ixL (SqL.of upd_same) rfl ?_
    walk_at "go"
    refine r_ixL (SqL.of upd_same) rfl ?_
    walk_at "go"
    refine r_mul (.inl ?_) ?_
    · omega
    walk_at "go"
    refine r_ixL (SqL.of upd_same) rfl ?_
    walk_at "go"
    refine r_mul (.inl (by decide)) ?_
    walk_at "go"
    refine r_mod (by decide) ?_
    walk_at "go"
    refine r_mul (.inl ?_) ?_
    · have := Int.emod_nonneg (y' * y' + 39373 * y' + 7) (show (2147483629 : Int) ≠ 0 by decide)
      have := Int.emod_lt_of_pos (y' * y' + 39373 * y' + 7) (show (0 : Int) < 2147483629 by decide)
      omega
    walk_at "go"
    refine r_mul (.inl (by decide)) ?_
    walk_at "go"
    refine r_mod (by decide) ?_
    walk_at "go"
    refine r_fdv (by decide) ?_
    walk_at "go"
    refine r_mod (by omega) ?_
    walk_at "go"
    exact h _ _ _ _ (Int.emod_nonneg _ (by omega)) (Int.emod_lt_of_pos _ (by omega))

/-- the list of draws stands at a -/
def St3 (H : Hp) (a : Addr) : Prop := ∃ x y z : Int, H a = some (.lst [.int x, .int y, .int z])
/-- from H to H': all but the list at a stays, that one stands -/
structure Fr (a : Addr) (H H' : Hp) : Prop where
  keep : ∀ b o, b ≠ a → H b = some o → H' b = some o
  st : St3 H' a
theorem Fr.rf {a : Addr} (h : St3 H a) : Fr a H H := ⟨fun _ _ _ h => h, h⟩
theorem Fr.trans {a : Addr} {H1 H2 : Hp} (x : Fr a H H1) (y : Fr a H1 H2) : Fr a H H2 := ⟨fun b o n h => y.keep b o n (x.keep b o n h), y.st⟩
theorem Fr.ex {a : Addr} {H1 H2 : Hp} (x : Fr a H H1) (e : Ex H1 H2) : Fr a H H2 :=
  ⟨fun b o n h => e b o (x.keep b o n h), let ⟨x, y, z, h⟩ := x.st; ⟨x, y, z, e _ _ h⟩⟩
theorem Fr.up {a : Addr} {H1 : Hp} {p : Addr} {o : HO} (x : Fr a H H1) (h : H1 p = none) : Fr a H (upd H1 p o) := x.ex (Ex.rf.up h)
theorem Fr.put {a : Addr} {H1 : Hp} {x y z : Int} (f : Fr a H H1) : Fr a H (upd H1 a (.lst [.int x, .int y, .int z])) :=
  ⟨fun b o n h => by rw [upd_ne n]; exact f.keep b o n h, ⟨x, y, z, upd_same⟩⟩
theorem Fr.ne {a : Addr} {H1 : Hp} {p : Addr} (f : Fr a H H1) (h : H1 p = none) : p ≠ a := fun e => by
  obtain ⟨x, y, z, q⟩ := f.st
  rw [e, q] at h
  cases h
theorem Fr.fresh {a : Addr} {H1 : Hp} {p : Addr} (f : Fr a H H1) (h : H1 p = none) : H p = none := by
  cases q : H p with
  | none => rfl
  | some o =>
    have := f.keep p o (f.ne h) q
    rw [h] at this
    cases this
theorem Fr.mut {a : Addr} {H1 : Hp} {p : Addr} {o : HO} (f : Fr a H H1) (h : H p = none) (n : p ≠ a) : Fr a H (upd H1 p o) := by
  refine ⟨fun b u hn hb => ?_, ?_⟩
  · rw [upd_ne]
    · exact f.keep b u hn hb
    · rintro rfl
      rw [h] at hb
      cases hb
  · obtain ⟨x, y, z, w⟩ := f.st
    exact ⟨x, y, z, by rw [upd_ne (Ne.symm n)]; exact w⟩
theorem Fr.sqT {a b : Addr} {H1 : Hp} {xs : List V} (f : Fr a H H1) (st : St3 H a) (h : SqT K H b xs) : SqT K H1 b xs := by
  obtain ⟨x, y, z, w⟩ := st
  rcases h with (e | ⟨o, e⟩) | e
  · exact .inl (.inl (f.keep b _ (fun q => by rw [q, w] at e; cases e) e))
  · exact .inl (.inr ⟨o, f.keep b _ (fun q => by rw [q, w] at e; cases e) e⟩)
  · exact .inr e
/-- behind what H0 didn't know -/
theorem Fr.out {a : Addr} {H0 H1 : Hp} (f : Fr a H H1) (e : Ex H0 H) (n : H0 a = none) : Ex H0 H1 := fun b o h => f.keep b o (fun z => by rw [z, n] at h; cases h) (e b o h)
theorem draw {a : Addr} {many : Int} {H0 : Hp} (f : Fr a H0 H) (h1 : 1 ≤ many) (h2 : many < 2 ^ 100) (h : ∀ v H', 0 ≤ v → v < many → Fr a H0 H' → Fr a H H' → Q (.int v) H') : sp__law_choice K [.ref a, .int many] H Q E := by
  obtain ⟨x, y, z, hs⟩ := f.st
  exact run__law_choice hs h1 h2 fun v x' y' z' b1 b2 => h v _ b1 b2 f.put (Fr.rf f.st).put
theorem run__law_cell_at {s : Addr} {ns : List Int} {k : Nat} (hS : SqL K H s (ns.map V.int)) (h : ∀ c, (c ∈ ns ∨ c = 0) → Q (.int c) H) : sp__law_cell_at K [.ref s, .int (k : Int)] H Q E := by
  refine ⟨rfl, ?_⟩
  show t__law_cell_at K E _ [some (.ref s), some (.int k)] H
  unfold t__law_cell_at
  walk_at "go"
  refine r_lenL hS ?_
  walk_at "go"
  rw [List.length_map]
  refine r_iteD (fun c => ?_) (fun c => ?_)
  · have hk : k < ns.length := by omega
    walk_at "go"
    refine r_ixL (v := .int (ns[k])) hS ?_ ?_
    · unfold atI ixN
      rw [if_pos (by omega), List.length_map, if_pos (by omega)]
      show (ns.map V.int)[(k : Int).toNat]? = _
      rw [Int.toNat_natCast, List.getElem?_map, List.getElem?_eq_getElem hk]
      rfl
    · walk_at "go"
      exact h _ (.inl (List.getElem_mem hk))
  · walk_at "go"
    exact h 0 (.inr rfl)
theorem run__law_state {s : Addr} {ns : List Int} {k : Nat} (hS : SqL K H s (ns.map V.int)) (h : ∀ a H', H a = none → Ex H H' → St3 H' a → Q (.ref a) H') : sp__law_state K [.ref s, .int (k : Int)] H Q E := by
  refine ⟨rfl, ?_⟩
  show t__law_state K E _ [some (.ref s), some (.int k), none] H
  unfold t__law_state
  walk_at "go"
  refine run__law_cell_at hS fun c hc => ?_
  walk_at "go"
  refine r_pow ⟨by decide, by decide, by decide⟩ ?_
  walk_at "go"
  refine r_mod (by decide) ?_
  walk_at "go"
  refine r_new (by simp) fun a ha => ?_
  walk_at "go"
  exact h a _ ha (Ex.rf.up ha) ⟨_, _, _, upd_same⟩
end

/-! ## loops amid draws -/
section
variable {K : PySem.W.Frag} {D : Ends} {σ : L2.St} {H : Hp} {g : TG} {tb : TS} {a p : Addr} {xs : List V}
theorem f_lstF (hp : H p = some (.lst xs)) (hs : St3 H a) (hne : p ≠ a) (Pv : List V → L2.St → Prop) (h0 : Pv xs σ)
    (step : ∀ x r σ H', Pv (x :: r) σ → Fr a H H' → g x σ H' fun σ2 H2 => tb { D with nx := fun σ3 H3 => Pv r σ3 ∧ Fr a H H3, ct := fun σ3 H3 => Pv r σ3 ∧ Fr a H H3, bk := D.nx } σ2 H2) (done : ∀ σ H', Pv [] σ → Fr a H H' → D.nx σ H') :
    ∃ a', V.ref p = .ref a' ∧ (∃ xs, SqL K H a' xs) ∧ ∃ W : Nat → Nat → L2.St → Hp → Prop, (∃ m, W 0 m σ H) ∧ ∀ i m σ H, W i m σ H →
      ((Itl K a').stop i H ∧ D.nx σ H) ∨ ((Itl K a').go i H ∧ ∃ N : L2.St → Hp → Prop, (∀ σ' H', N σ' H' → ∃ m', m' < m ∧ W (i + 1) m' σ' H') ∧ ∀ x H', (Itl K a').yld i H x H' → g x σ H' fun σ2 H2 => tb { D with nx := N, ct := N, bk := D.nx } σ2 H2) :=
  f_lst (SqL.of hp) (fun r σ H' => Pv r σ ∧ Fr a H H') ⟨h0, Fr.rf hs⟩ (fun r σ H' q => SqL.of (q.2.keep p _ hne hp)) (fun x r σ H' q => step x r σ H' q.1 q.2) (fun σ H' q => done σ H' q.1 q.2)
end

section
variable {K : PySem.W.Frag} {H : Hp} {Q : VK} {E : XK}
theorem run__law_same {v u : V} {d : PyData} {k n : Nat} (hv : Dp K H v d) (hu : Dp K H u d) (hs : Sw k n d) (hk : k ≤ 60) (hn : n ≤ 16000000) (h : Q (.bl true) H) : sp__law_same K [v, u] H Q E := by
  refine ⟨rfl, ?_⟩
  show t__law_same K E _ [some v, some u] H
  unfold t__law_same
  walk_at "go"
  refine r_repr hv hs hk hn ?_
  walk_at "go"
  refine r_repr hu hs hk hn ?_
  refine r_eqS ?_
  rw [decide_eq_true rfl]
  exact h
end

section
variable {K : PySem.W.Frag} {H : Hp} {Q : VK} {E : XK}
theorem xor_bit {x y : Nat} (hx : x < 2) (hy : y < 2) : x ^^^ y = (x + y) % 2 := by
  rcases (by omega : x = 0 ∨ x = 1) with rfl | rfl <;> rcases (by omega : y = 0 ∨ y = 1) with rfl | rfl <;> rfl
theorem run__law_parity {n : Nat} (h : Q (.int (cnt n % 2 : Nat)) H) : sp__law_parity K [.int (n : Int)] H Q E := by
  refine ⟨rfl, ?_⟩
  show t__law_parity K E _ [some (.int n), none, none] H
  unfold t__law_parity
  walk_at "go"
  refine r_while (fun m σ H' => ∃ f : Nat, σ = [some (.int (n : Int)), some (.int (f : Int)), some (.int (m : Int))] ∧ H' = H ∧ f < 2 ∧ (f + cnt m) % 2 = cnt n % 2) n ⟨0, rfl, rfl, by omega, by omega⟩ ?_
  rintro m _ _ ⟨f, rfl, rfl, hf, hm⟩
  walk_at "go"
  refine r_iteD (fun h1 => ?_) (fun h1 => ?_)
  · refine r_body ?_
    walk_at "go"
    rw [show (1 : Int) = ((1 : Nat) : Int) from rfl, bitAnd_nat, Nat.and_one_is_mod, bitXor_nat]
    refine n_shr1 ?_
    walk_at "go"
    have e := xor_bit hf (Nat.mod_lt m (by omega : 2 > 0))
    have c := cnt_step m
    exact ⟨m / 2, by omega, f ^^^ m % 2, rfl, rfl, by omega, by omega⟩
  · walk_at "go"
    have e : m = 0 := by omega
    rw [e, cnt_zero] at hm
    rw [show f = cnt n % 2 by omega]
    exact h
theorem run__law_wrong {n : Nat} (h : Q (.int (wr n 0 : Nat)) H) : sp__law_wrong K [.int (n : Int)] H Q E := by
  refine ⟨rfl, ?_⟩
  show t__law_wrong K E _ [some (.int n), none, none, none] H
  unfold t__law_wrong
  walk_at "go"
  refine r_while (fun m σ H' => ∃ f b : Nat, σ = [some (.int (n : Int)), some (.int (f : Int)), some (.int (m : Int)), some (.int (b : Int))] ∧ H' = H ∧ f ^^^ wr m b = wr n 0) n ⟨0, 0, rfl, rfl, Nat.zero_xor _⟩ ?_
  rintro m _ _ ⟨f, b, rfl, rfl, hm⟩
  rw [wr_step, ← Nat.xor_assoc] at hm
  walk_at "go"
  refine r_iteD (fun h1 => ?_) (fun h1 => ?_)
  · refine r_body ?_
    walk_at "go"
    rw [show (1 : Int) = ((1 : Nat) : Int) from rfl, bitAnd_nat, Nat.and_one_is_mod]
    refine r_iteD (fun h2 => ?_) (fun h2 => ?_)
    · have h3 : m % 2 = 1 := by omega
      rw [if_pos h3] at hm
      walk_at "go"
      rw [bitXor_nat]
      refine n_shr1 ?_
      walk_at "go"
      exact ⟨m / 2, by omega, _, b + 1, rfl, rfl, hm⟩
    · have h3 : ¬ m % 2 = 1 := by omega
      rw [if_neg h3, Nat.xor_zero] at hm
      walk_at "go"
      refine n_shr1 ?_
      walk_at "go"
      exact ⟨m / 2, by omega, _, b + 1, rfl, rfl, hm⟩
  · walk_at "go"
    have e : m = 0 := by omega
    subst e
    rw [if_neg (by decide), Nat.xor_zero, wr_zero, Nat.xor_zero] at hm
    rw [hm]
    exact h
theorem run__law_spots {w : Nat} (h1 : 1 ≤ w) (hw : w ≤ 57) (h : ∀ H' p, Ex H H' → H p = none → H' p = some (.lst (natV (spots w))) → Q (.ref p) H') : sp__law_spots K [.int (w : Int)] H Q E := by
  have hlen := (look2 w (by omega) h1).2.1
  refine ⟨rfl, ?_⟩
  show t__law_spots K E _ [some (.int w), none, none, none] H
  unfold t__law_spots
  walk_at "go"
  refine r_new (by simp) fun p hp => ?_
  walk_at "go"
  refine r_while (fun m σ H' => ∃ (bit check : Nat) (l : List Nat), σ = [some (.int (w : Int)), some (.ref p), some (.int (bit : Int)), some (.int (check : Int))] ∧ Ex H H' ∧ H' p = some (.lst (natV l)) ∧ l.length ≤ w ∧ l ++ spGo m bit check (w - l.length) = spots w) 70
    ⟨1, 1, [], rfl, Ex.rf.up hp, upd_same, Nat.zero_le _, rfl⟩ ?_
  rintro m _ H1 ⟨bit, check, l, rfl, e1, hl, hle, hr⟩
  walk_at "go"
  refine r_lenL (SqL.of hl) ?_
  walk_at "go"
  rw [natV, List.length_map]
  refine r_iteD (fun c => ?_) (fun c => ?_)
  · refine r_body ?_
    cases m with
    | zero =>
      exfalso
      rw [show spGo 0 bit check (w - l.length) = [] from rfl, List.append_nil] at hr
      rw [← hr] at hlen
      omega
    | succ m =>
      have hr2 : l ++ (if w - l.length = 0 then [] else if bit = check then spGo m (bit + 1) (2 * check) (w - l.length) else bit :: spGo m (bit + 1) check (w - l.length - 1)) = spots w := hr
      rw [if_neg (by omega)] at hr2
      walk_at "go"
      refine r_iteD (fun c2 => ?_) (fun c2 => ?_)
      · rw [if_pos (by omega)] at hr2
        walk_at "go"
        refine r_mul (.inl (by decide)) ?_
        walk_at "go"
        exact ⟨m, by omega, bit + 1, 2 * check, l, by rw [Int.natCast_mul]; rfl, e1, hl, hle, hr2⟩
      · rw [if_neg (by omega)] at hr2
        walk_at "go"
        refine ⟨ty_list hl, ?_⟩
        walk_at "go"
        refine r_app hl (by rw [natV, List.length_map]; omega) ?_
        walk_at "go"
        refine ⟨m, by omega, bit + 1, check, l ++ [bit], rfl, e1.up2 hp, by rw [upd_same, natV, natV, List.map_append]; rfl, by rw [List.length_append]; show l.length + 1 ≤ w; omega, ?_⟩
        rw [List.append_assoc, List.length_append]
        exact hr2
  · walk_at "go"
    have e : l = spots w := by
      rw [← hr, show w - l.length = 0 by omega]
      cases m with
      | zero => exact (List.append_nil l).symm
      | succ m =>
        show l = l ++ (if 0 = 0 then [] else _)
        rw [if_pos rfl, List.append_nil]
    rw [e] at hl
    exact h H1 p e1 hp hl
theorem run__law_sealed {w n : Nat} (h1 : 1 ≤ w) (hw : w ≤ 57) (hn : n < 2 ^ w) (h : ∀ H', Ex H H' → Q (.int (sealX w n : Nat)) H') : sp__law_sealed K [.int (n : Int), .int (w : Int)] H Q E := by
  obtain ⟨_, hlen, hb, _⟩ := look2 w (by omega) h1
  have hc6 := (look w (by omega) h1).2.1
  refine ⟨rfl, ?_⟩
  show t__law_sealed K E _ [some (.int n), some (.int w), none, none, none, none, none] H
  unfold t__law_sealed
  walk_at "go"
  refine r_for (r_iEnumL ?_)
  walk_at "go"
  refine run__law_spots h1 hw fun H1 p e1 hp hl => ?_
  walk_at "go"
  refine f_enumL (SqL.of hl) (fun i r σ H' => ∃ (l : List Nat) (b : Nat) (o3 o4 : Option V), r = natV l ∧ σ = [some (.int (n : Int)), some (.int (w : Int)), some (.int (b : Int)), o3, o4, none, none] ∧ Ex H1 H' ∧ (∀ z ∈ l, z ≤ 64) ∧ lpS l i b n = lpS (spots w) 0 0 n)
    ⟨spots w, 0, none, none, rfl, rfl, Ex.rf, hb, rfl⟩ (fun i r σ H' ⟨_, _, _, _, _, _, e, _⟩ => SqL.of (e _ _ hl)) ?_ ?_
  · rintro i x r T _ H2 ⟨l, b, o3, o4, hr, rfl, e2, hb, hy⟩ hT
    cases l with
    | nil => cases hr
    | cons z l =>
      cases hr
      have hz := hb z (List.mem_cons_self ..)
      refine r_gTup (SqT.of upd_same) rfl ?_
      walk_at "go"
      refine n_shr ?_
      walk_at "go"
      rw [show (1 : Int) = ((1 : Nat) : Int) from rfl, bitAnd_nat, Nat.and_one_is_mod]
      refine n_shl (by omega) (Nat.lt_of_lt_of_le (Nat.mod_lt _ (by omega)) (by decide)) ?_
      walk_at "go"
      exact ⟨l, _, _, _, rfl, by rw [← Int.natCast_add], e2.up hT, fun q hq => hb q (List.mem_cons_of_mem _ hq), hy⟩
  · rintro i _ H2 ⟨l, b, o3, o4, hr, rfl, e2, hb, hy⟩
    cases l with
    | cons z l => cases hr
    | nil =>
      have eb : b = layS (runs w) 0 n := by rw [← lp_lay h1 hw hn]; exact hy
      have hlt := lay_lt h1 hw hn
      rw [← eb] at hlt
      walk_at "go"
      refine run__law_wrong ?_
      rw [wr_wrong hlt]
      walk_at "go"
      have hx := layw_lt h1 hw hn
      rw [← eb] at hx
      have hpx : 2 ^ chk w ≤ 64 := Nat.pow_le_pow_right (n := 2) (by omega) hc6
      refine r_while (fun m σ H' => ∃ (c d : Nat), σ = [some (.int (n : Int)), some (.int (w : Int)), some (.int (d : Int)), o3, o4, some (.int ((wrongN b : Nat) : Int)), some (.int ((2 ^ c : Nat) : Int))] ∧ H' = H2 ∧ m + c = 10 ∧ putL m c d (wrongN b) = putL 10 0 b (wrongN b)) 10 ⟨0, b, rfl, rfl, rfl, rfl⟩ ?_
      rintro m _ _ ⟨c, d, rfl, rfl, hmc, hpl⟩
      walk_at "go"
      refine r_iteD (fun c1 => ?_) (fun c1 => ?_)
      · refine r_body ?_
        have c2 : 2 ^ c ≤ wrongN b := by omega
        have hc : c < 6 := by
          have : 2 ^ c < 2 ^ 6 := by omega
          exact (Nat.pow_lt_pow_iff_right (a := 2) (by omega)).mp this
        cases m with
        | zero => omega
        | succ m =>
          walk_at "go"
          rw [bitAnd_nat]
          refine n_shl1 (b := 2 ^ c) (by omega) ?_
          refine r_mul (.inl (by split <;> decide)) ?_
          walk_at "go"
          refine r_mul (.inl (by decide)) ?_
          walk_at "go"
          refine ⟨m, by omega, c + 1, d + (if 0 < wrongN b &&& 2 ^ c then 1 else 0) * 2 ^ (2 ^ c), ?_, rfl, by omega, ?_⟩
          · have e1 : (2 : Int) * ((2 ^ c : Nat) : Int) = ((2 ^ (c + 1) : Nat) : Int) := by rw [← pow_half]; omega
            have e2 : (d : Int) + (if decide ((0 : Int) < ((wrongN b &&& 2 ^ c : Nat) : Int)) = true then 1 else 0) * ((2 ^ (2 ^ c) : Nat) : Int) = ((d + (if 0 < wrongN b &&& 2 ^ c then 1 else 0) * 2 ^ (2 ^ c) : Nat) : Int) := by
              by_cases q : 0 < wrongN b &&& 2 ^ c
              · rw [if_pos q, if_pos (decide_eq_true (by omega)), Nat.one_mul, Int.one_mul]; omega
              · rw [if_neg q, if_neg (by rw [decide_eq_false (by omega)]; exact Bool.false_ne_true), Nat.zero_mul, Int.zero_mul]; omega
            rw [e1, e2]
          · rw [← hpl]
            show _ = if 2 ^ c ≤ wrongN b then putL m (c + 1) (d + (if 0 < wrongN b &&& 2 ^ c then 1 else 0) * 2 ^ (2 ^ c)) (wrongN b) else d
            rw [if_pos c2]
      · have ed : d = putL 10 0 b (wrongN b) := by
          rw [← hpl]
          cases m with
          | zero => rfl
          | succ m =>
            show d = if 2 ^ c ≤ wrongN b then _ else d
            rw [if_neg (by omega)]
        rw [put_law (chk w) 0 b (wrongN b) 10 (by rw [Nat.zero_add]; exact hx) (by omega), eb, put_pre h1 hw hn] at ed
        walk_at "go"
        refine run__law_parity ?_
        walk_at "go"
        rw [← Int.natCast_add]
        have pl := pre_lt h1 hw hn
        have es : d + cnt d % 2 = sealX w n := by
          rw [← seal_eq h1 hw hn]
          show _ = putS (chk w) 0 (layS (runs w) 0 n) (wrongN (layS (runs w) 0 n)) + parN (putS (chk w) 0 (layS (runs w) 0 n) (wrongN (layS (runs w) 0 n)))
          rw [put_pre h1 hw hn, ed, par_cnt pl]
        rw [es]
        exact h _ (e1.trans e2)
end

section
variable {K : PySem.W.Frag} {H : Hp} {Q : VK} {E : XK}
def kS : Nat → Str
  | 0 => "write"
  | 1 => "trim"
  | 2 => "member"
  | _ => "commit"
def f5V (f : F5) : List V := [.str (kS f.k), .int (f.p : Int), .int (f.n : Int), .int (f.g : Int), .int (f.d : Int)]
def f5D (f : F5) : PyData := .tuple [.str (kS f.k), .int (f.p : Int), .int (f.n : Int), .int (f.g : Int), .int (f.d : Int)]
theorem f5_dp {f : F5} {a : Addr} (h : SqT K H a (f5V f)) : Dp K H (.ref a) (f5D f) := .tup h (.cons (.str _) (.cons (.int _) (.cons (.int _) (.cons (.int _) (.cons (.int _) .nil)))))
theorem f5_sw {f : F5} (h : okF f) : Sw 1 1000 (f5D f) := by
  obtain ⟨h1, h2, h3, h4, h5, _⟩ := h
  have up : ∀ {d : PyData} {m : Nat}, Sw 1 m d → m ≤ 1000 → Sw 1 1000 d := fun h q => ⟨h.lay, h.dep, h.shw, Nat.le_trans h.len q⟩
  have sk : Sw 0 (10 * 6 + 2) (.str (kS f.k)) := by
    have q : PyData.strOk (kS f.k) = true ∧ (kS f.k).length ≤ 6 := by
      rcases (by omega : f.k = 0 ∨ f.k = 1 ∨ f.k = 2 ∨ f.k = 3) with e | e | e | e <;> rw [e] <;> decide +kernel
    have s := sw_str (k := 0) q.1
    exact ⟨s.lay, s.dep, s.shw, Nat.le_trans s.len (by omega)⟩
  have si : ∀ n : Nat, n ≤ 16383 → Sw 0 129 (.int (n : Int)) := fun n hn => sw_int (by rw [Int.natAbs_natCast]; exact Nat.lt_of_le_of_lt hn (by decide))
  exact up (sw_tup (k := 0) (swa_cons sk (swa_cons (si _ (by omega)) (swa_cons (si _ (by omega)) (swa_cons (si _ (by omega)) (swa_cons (si _ (by omega)) swa_nil)))))) (by decide)
theorem f5_eqv {f g : F5} (h : okF f) (h2 : okF g) : PyData.eqv (f5D f) (f5D g) = decide (f = g) := by
  obtain ⟨k, p, n, gg, d⟩ := f
  obtain ⟨k', p', n', g', d'⟩ := g
  have hk : k < 4 := h.1
  have hk' : k' < 4 := h2.1
  have e : (kS k == kS k') = decide (k = k') := by
    rcases (by omega : k = 0 ∨ k = 1 ∨ k = 2 ∨ k = 3) with rfl | rfl | rfl | rfl <;> rcases (by omega : k' = 0 ∨ k' = 1 ∨ k' = 2 ∨ k' = 3) with rfl | rfl | rfl | rfl <;> decide +kernel
  have ei : ∀ a b : Nat, ((a : Int) == (b : Int)) = decide (a = b) := fun a b => by
    by_cases c : a = b
    · subst c; simp
    · rw [decide_eq_false c]; exact beq_eq_false_iff_ne.mpr (fun z => c (Int.ofNat.inj z))
  simp only [f5D, PyData.eqv, PyData.eqvAll, e, ei, Bool.and_true]
  by_cases c : (⟨k, p, n, gg, d⟩ : F5) = ⟨k', p', n', g', d'⟩
  · cases c
    simp
  · rw [decide_eq_false c]
    simp only [F5.mk.injEq] at c
    simp only [← Bool.decide_and]
    exact decide_eq_false c
theorem run_is_fields (pu : Pu K) {f : F5} {a : Addr} (hk : f.k < 4) (hs : SqT K H a (f5V f)) (h : ∀ H', Ex H H' → Q (.bl (decide (okF f))) H') : sp_is_fields K [.ref a] H Q E := by
  have kc : (f.k = 3 ↔ kS f.k = "commit") ∧ (f.k = 2 ↔ kS f.k = "member") ∧ (f.k = 1 ↔ kS f.k = "trim") ∧ inV (.str (kS f.k)) [.str "write", .str "trim", .str "member", .str "commit"] = true := by
    rcases (by omega : f.k = 0 ∨ f.k = 1 ∨ f.k = 2 ∨ f.k = 3) with e | e | e | e <;> rw [e] <;> decide +kernel
  refine ⟨rfl, ?_⟩
  show t_is_fields K E _ [some (.ref a), none, none, none, none, none, none, none] H
  unfold t_is_fields
  walk_at "go"
  refine r_isi (.ty _) (ty_tup hs) (b := true) (kit_ty (by decide +kernel)) ?_
  walk_at "go"
  refine r_lenT hs ?_
  walk_at "go"
  refine r_lenT (pu.t_MOST _) ?_
  walk_at "go"
  refine r_iteN (fun c => absurd rfl c) (fun _ => ?_)
  walk_at "go"
  refine r_gTup hs rfl ?_
  unfold f5V
  walk_at "go"
  refine r_isi (.ty _) (.base (.str _)) (b := true) (kit_ty (by decide +kernel)) ?_
  walk_at "go"
  refine r_nin (pu.t_KINDS _) rfl rfl ?_
  rw [kc.2.2.2]
  walk_at "go"
  refine r_lc (r_iZip ?_)
  walk_at "go"
  refine r_slT (ys := [.int (f.p : Int), .int (f.n : Int), .int (f.g : Int), .int (f.d : Int)]) hs (fun z => Nat.one_ne_zero z.1) rfl fun q hq => ?_
  walk_at "go"
  have ht := SqT.of (K := K) (upd_same (H := H) (a := q) (o := .tup [.int (f.p : Int), .int (f.n : Int), .int (f.g : Int), .int (f.d : Int)]))
  refine ⟨q, He.ga K "MOST", _, _, rfl, .inr ⟨ht, pu.t_MOST _, ?_⟩⟩
  intro D hD
  refine lc_zipT (zs := [(.int (f.p : Int), .int 15), (.int (f.n : Int), .int 16383), (.int (f.g : Int), .int 16383), (.int (f.d : Int), .int 63)]) [some (.ref a), some (.str (kS f.k)), some (.int (f.p : Int)), some (.int (f.n : Int)), some (.int (f.g : Int)), some (.int (f.d : Int)), none, none] rfl
    (fun z => match z with | (.int i, .int m) => .bl (decide (0 ≤ i ∧ i ≤ m)) | _ => .non) hD (by simp) ht (pu.t_MOST _) ?_ ?_
  · intro z hz T H1 Qy e1 hT hQ
    have two : ∃ i m : Int, z = (.int i, .int m) := by
      simp only [List.mem_cons, List.not_mem_nil, or_false] at hz
      rcases hz with rfl | rfl | rfl | rfl <;> exact ⟨_, _, rfl⟩
    obtain ⟨i, m, rfl⟩ := two
    refine r_gTup (SqT.of upd_same) rfl ?_
    walk_at "go"
    refine ⟨rfl, ?_⟩
    walk_at "go"
    refine run_is_within ?_
    exact hQ _ (Ex.rf.up hT)
  · intro H1 e1 hl
    walk_at "go"
    refine r_all (bs := [decide (0 ≤ (f.p : Int) ∧ (f.p : Int) ≤ 15), decide (0 ≤ (f.n : Int) ∧ (f.n : Int) ≤ 16383), decide (0 ≤ (f.g : Int) ∧ (f.g : Int) ≤ 16383), decide (0 ≤ (f.d : Int) ∧ (f.d : Int) ≤ 63)]) (SqL.of hl) ?_
    have ea : (List.all [decide (0 ≤ (f.p : Int) ∧ (f.p : Int) ≤ 15), decide (0 ≤ (f.n : Int) ∧ (f.n : Int) ≤ 16383), decide (0 ≤ (f.g : Int) ∧ (f.g : Int) ≤ 16383), decide (0 ≤ (f.d : Int) ∧ (f.d : Int) ≤ 63)] id) = decide (f.p ≤ 15 ∧ f.n ≤ 16383 ∧ f.g ≤ 16383 ∧ f.d ≤ 63) := by
      simp only [List.all_cons, List.all_nil, id, Bool.and_true, ← Bool.decide_and]
      exact decide_eq_decide.mpr (by omega)
    rw [ea]
    have e2 : Ex H H1 := (Ex.rf.up hq).trans e1
    walk_at "go"
    refine r_iteN (fun c => ?_) (fun c => ?_)
    · walk_at "go"
      have := h _ e2
      rw [decide_eq_false (fun z : okF f => c ⟨z.2.1, z.2.2.1, z.2.2.2.1, z.2.2.2.2.1⟩)] at this
      exact this
    · walk_at "go"
      refine r_iteD (fun c1 => ?_) (fun c1 => ?_)
      · have k3 := kc.1.mpr c1
        walk_at "go"
        refine r_iteD (fun c2 => ?_) (fun c2 => ?_)
        · walk_at "go"
          have := h _ e2
          rw [show decide (okF f) = decide ((f.d : Int) = 0) from decide_eq_decide.mpr ⟨fun z => by have := z.2.2.2.2.2.1 k3; omega, fun z => ⟨by omega, by omega, by omega, by omega, by omega, fun _ => ⟨by omega, by omega⟩, fun z => absurd k3 z⟩⟩] at this
          exact this
        · have := h _ e2
          rw [decide_eq_false (fun z : okF f => c2 (by have := z.2.2.2.2.2.1 k3; omega))] at this
          exact this
      · have k3 : f.k ≠ 3 := fun z => c1 (kc.1.mp z)
        have last : ∀ H', H' = H1 → ((f.g = 0 ∨ f.k = 2)) → tOrV (tOp (uEq K) (tVar 5) (tC (.int 0))) (tOp (uNe K) (tVar 1) (tC (.str "trim"))) [some (.ref a), some (.str (kS f.k)), some (.int (f.p : Int)), some (.int (f.n : Int)), some (.int (f.g : Int)), some (.int (f.d : Int)), none, none] H' Q := by
          rintro _ rfl hg
          walk_at "go"
          refine r_iteD (fun c2 => ?_) (fun c2 => ?_)
          · have := h _ e2
            rw [decide_eq_true (show okF f from ⟨by omega, by omega, by omega, by omega, by omega, fun z => absurd z k3, fun _ => ⟨hg, .inl (by omega)⟩⟩)] at this
            exact this
          · walk_at "go"
            have := h _ e2
            rw [show decide (okF f) = !decide (kS f.k = "trim") from by
              by_cases q : f.k = 1
              · rw [decide_eq_true (kc.2.2.1.mp q), decide_eq_false]
                · rfl
                · intro z
                  have := (z.2.2.2.2.2.2 k3).2
                  omega
              · rw [decide_eq_false (fun z => q (kc.2.2.1.mpr z)), decide_eq_true]
                · rfl
                · exact ⟨by omega, by omega, by omega, by omega, by omega, fun z => absurd z k3, fun _ => ⟨hg, .inr q⟩⟩] at this
            exact this
        walk_at "go"
        refine r_iteD (fun c2 => ?_) (fun c2 => ?_)
        · refine r_bl (r_T ?_)
          exact last _ rfl (.inl (by omega))
        · walk_at "go"
          refine r_iteD (fun c3 => ?_) (fun c3 => ?_)
          · exact last _ rfl (.inr (kc.2.1.mpr c3))
          · have := h _ e2
            rw [decide_eq_false (fun z : okF f => by
              have := (z.2.2.2.2.2.2 k3).1
              rcases this with w | w
              · omega
              · exact c3 (kc.2.1.mp w))] at this
            exact this
def nGo : List (Nat × Nat) → Nat → Nat
  | [], a => a
  | z :: r, a => nGo r (a * (z.2 + 1) + z.1)
def pV (l : List (Nat × Nat)) : List (V × V) := l.map fun z => (.int (z.1 : Int), .int (z.2 : Int))
theorem run_number_of (pu : Pu K) {f : F5} {a : Addr} (hk : f.k < 4) (hs : SqT K H a (f5V f)) (h : ∀ H', Ex H H' → Q (.int (numF f : Nat)) H') : sp_number_of K [.ref a] H Q E := by
  refine ⟨rfl, ?_⟩
  show t_number_of K E _ [some (.ref a), none, none, none] H
  unfold t_number_of
  walk_at "go"
  refine ⟨pu.p_KINDS _, ?_⟩
  walk_at "go"
  refine r_ixT (v := .str (kS f.k)) hs rfl ?_
  walk_at "go"
  refine ⟨_, ["write", "trim", "member", "commit"], kS f.k, f.k, rfl, rfl, pu.t_KINDS _, ?_, ?_, ?_⟩
  · rcases (by omega : f.k = 0 ∨ f.k = 1 ∨ f.k = 2 ∨ f.k = 3) with e | e | e | e <;> rw [e] <;> rfl
  · intro m hm
    rcases (by omega : f.k = 0 ∨ f.k = 1 ∨ f.k = 2 ∨ f.k = 3) with e | e | e | e <;> rw [e] at hm ⊢
    · omega
    · have : m = 0 := by omega
      subst this
      decide +kernel
    · rcases (by omega : m = 0 ∨ m = 1) with rfl | rfl <;> decide +kernel
    · rcases (by omega : m = 0 ∨ m = 1 ∨ m = 2) with rfl | rfl | rfl <;> decide +kernel
  walk_at "go"
  refine r_for (r_iZip ?_)
  walk_at "go"
  refine r_slT (ys := [.int (f.p : Int), .int (f.n : Int), .int (f.g : Int), .int (f.d : Int)]) hs (fun z => Nat.one_ne_zero z.1) rfl fun q hq => ?_
  walk_at "go"
  have ht := SqT.of (K := K) (upd_same (H := H) (a := q) (o := .tup [.int (f.p : Int), .int (f.n : Int), .int (f.g : Int), .int (f.d : Int)]))
  refine f_zipT (zs := pV [(f.p, 15), (f.n, 16383), (f.g, 16383), (f.d, 63)]) ht (pu.t_MOST _) (fun r σ H' => ∃ (l : List (Nat × Nat)) (t : Nat) (o2 o3 : Option V), r = pV l ∧ σ = [some (.ref a), some (.int (t : Int)), o2, o3] ∧ Ex (upd H q (.tup [.int (f.p : Int), .int (f.n : Int), .int (f.g : Int), .int (f.d : Int)])) H' ∧ (∀ z ∈ l, z.2 ≤ 16383) ∧ nGo l t = numF f)
    ⟨_, f.k, _, _, rfl, rfl, Ex.rf, by simp, rfl⟩ (fun r σ H' ⟨_, _, _, _, _, _, e, _⟩ => e) ?_ ?_
  · rintro x y r T _ H1 ⟨l, t, o2, o3, hr, rfl, e1, hb, hy⟩ hT
    cases l with
    | nil => cases hr
    | cons z l =>
      cases hr
      have hz := hb z (List.mem_cons_self ..)
      refine r_gTup (SqT.of upd_same) rfl ?_
      walk_at "go"
      refine r_mul (.inr (by omega)) ?_
      walk_at "go"
      exact ⟨l, t * (z.2 + 1) + z.1, _, _, rfl, rfl, e1.up hT, fun q hq => hb q (List.mem_cons_of_mem _ hq), hy⟩
  · rintro _ H1 ⟨l, t, o2, o3, hr, rfl, e1, hb, hy⟩
    cases l with
    | cons z l => cases hr
    | nil =>
      have et : t = numF f := hy
      walk_at "go"
      rw [et]
      exact h _ ((Ex.rf.up hq).trans e1)
def sGo : List Nat → Nat → List Nat → Nat × List Nat
  | [], N, ys => (N, ys)
  | m :: l, N, ys => sGo l (N / (m + 1)) (N % (m + 1) :: ys)
/-- fields or None -/
def FdV (K : PySem.W.Frag) (H : Hp) : Option F5 → V → Prop
  | none, u => u = .non
  | some f, u => ∃ b, u = .ref b ∧ SqT K H b (f5V f)
theorem natV_len (l : List Nat) : (natV l).length = l.length := by rw [natV, List.length_map]
theorem run_fields_of (pu : Pu K) {N : Nat} (h : ∀ H' u, Ex H H' → FdV K H' (fldN N) u → Q u H') : sp_fields_of K [.int (N : Int)] H Q E := by
  refine ⟨rfl, ?_⟩
  show t_fields_of K E _ [some (.int N), none, none, none] H
  unfold t_fields_of
  walk_at "go"
  refine r_new (by simp) fun q hq => ?_
  walk_at "go"
  refine r_for (r_iterT ?_)
  refine r_revT ?_
  walk_at "go"
  refine ⟨_, _, rfl, pu.t_MOST _, fun q2 hq2 => ?_⟩
  have e0 := (Ex.rf.up (o := .tup []) hq).up (o := .tup [V.int 15, V.int 16383, V.int 16383, V.int 63].reverse) hq2
  refine f_tup (xs := natV [63, 16383, 16383, 15]) (SqT.of upd_same) (fun r σ H' => ∃ (l : List Nat) (M : Nat) (ys : List Nat) (b : Addr) (o2 : Option V), r = natV l ∧ σ = [some (.int (M : Int)), some (.ref b), o2, none] ∧ Ex (upd (upd H q (.tup [])) q2 (.tup [V.int 15, V.int 16383, V.int 16383, V.int 63].reverse)) H' ∧ SqT K H' b (natV ys) ∧ (∀ z ∈ l, z ≤ 16383) ∧ ys.length + l.length = 4 ∧ sGo l M ys = sGo [63, 16383, 16383, 15] N [])
    ⟨_, N, [], q, _, rfl, rfl, Ex.rf, SqT.of ((Ex.rf.up hq2) _ _ upd_same), by simp, rfl, rfl⟩ (fun r σ H' ⟨_, _, _, _, _, _, _, e, _⟩ => SqT.of (e _ _ upd_same)) ?_ ?_
  · rintro x r _ H1 ⟨l, M, ys, b, o2, hr, rfl, e1, hys, hb, hlen, hy⟩
    cases l with
    | nil => cases hr
    | cons z l =>
      cases hr
      have hz := hb z (List.mem_cons_self ..)
      rw [List.length_cons] at hlen
      walk_at "go"
      refine r_mod (by omega) ?_
      walk_at "go"
      refine r_new (by simp) fun q3 hq3 => ?_
      walk_at "go"
      refine r_catT (SqT.of upd_same) (Evl.ex_t (Ex.rf.up hq3) hys) (by rw [natV_len]; omega) fun H2 p e2 hp => ?_
      walk_at "go"
      refine r_fdv (by omega) ?_
      walk_at "go"
      refine ⟨l, M / (z + 1), M % (z + 1) :: ys, p, _, rfl, rfl, (e1.up hq3).trans e2, ?_, fun q hq => hb q (List.mem_cons_of_mem _ hq), by rw [List.length_cons]; omega, hy⟩
      exact hp
  · rintro _ H1 ⟨l, M, ys, b, o2, hr, rfl, e1, hys, hb, hlen, hy⟩
    cases l with
    | cons z l => cases hr
    | nil =>
      have em : (M, ys) = ((splitN N).k, [(splitN N).p, (splitN N).n, (splitN N).g, (splitN N).d]) := hy
      obtain ⟨rfl, rfl⟩ : M = (splitN N).k ∧ ys = [(splitN N).p, (splitN N).n, (splitN N).g, (splitN N).d] := by
        cases em
        exact ⟨rfl, rfl⟩
      walk_at "go"
      refine r_lenT (pu.t_KINDS _) ?_
      walk_at "go"
      have hf : ¬ (splitN N).k < 4 → fldN N = none := fun c => by
        unfold fldN
        rw [if_neg (fun z => c z.1)]
      refine r_iteD (fun c => ?_) (fun c => ?_)
      · walk_at "go"
        have c' : ((4 : Nat) : Int) ≤ ((splitN N).k : Int) := c
        refine h _ _ (e0.trans e1) ?_
        rw [hf (by omega)]
        rfl
      · have c' : ¬ ((4 : Nat) : Int) ≤ ((splitN N).k : Int) := c
        have k4 : (splitN N).k < 4 := by omega
        walk_at "go"
        refine r_ixT (v := .str (kS (splitN N).k)) (pu.t_KINDS _) ?_ ?_
        · rcases (by omega : (splitN N).k = 0 ∨ (splitN N).k = 1 ∨ (splitN N).k = 2 ∨ (splitN N).k = 3) with e | e | e | e <;> rw [e] <;> rfl
        walk_at "go"
        refine r_new (by simp) fun q3 hq3 => ?_
        walk_at "go"
        refine r_catT (SqT.of upd_same) (Evl.ex_t (Ex.rf.up hq3) hys) (by rw [natV_len]; simp) fun H2 p e2 hp => ?_
        walk_at "go"
        refine run_is_fields pu (f := splitN N) k4 hp fun H3 e3 => ?_
        walk_at "go"
        have e4 : Ex H H3 := ((((e0.trans e1).up hq3).trans e2).trans e3)
        refine r_iteD (fun c2 => ?_) (fun c2 => ?_)
        · walk_at "go"
          refine h _ _ e4 ?_
          unfold fldN
          rw [if_pos c2]
          exact ⟨p, rfl, Evl.ex_t e3 hp⟩
        · walk_at "go"
          refine h _ _ e4 ?_
          unfold fldN
          rw [if_neg c2]
          rfl
theorem run_word_by (pu : Pu K) {f : F5} {a : Addr} {s : Bool} (hf : okF f) (hs : SqT K H a (f5V f)) (h : ∀ H', Ex H H' → Q (.int (wordN f s : Nat)) H') : sp_word_by K [.ref a, .bl s] H Q E := by
  refine ⟨rfl, ?_⟩
  show t_word_by K E _ [some (.ref a), some (.bl s), none] H
  unfold t_word_by
  walk_at "go"
  refine run_number_of pu hf.1 hs fun H1 e1 => ?_
  walk_at "go"
  cases s with
  | true =>
    walk_at "go"
    refine run_seal_by pu (w := 40) (by decide) (by decide) fun H2 e2 => ?_
    rw [seal_eq (by decide) (by decide) (numF_lt hf)]
    exact h _ (e1.trans e2)
  | false =>
    walk_at "go"
    exact h _ e1
/-- what fields_by tells -/
def mS : Bool → Str
  | false => "good"
  | true => "mended"
def stS : Option (Bool × F5) → Str
  | none => "spoilt"
  | some (m, _) => mS m
structure Told (K : PySem.W.Frag) (H : Hp) (o : Option (Bool × F5)) (b : Addr) (u : V) : Prop where
  sq : SqT K H b [.str (stS o), u]
  fd : FdV K H (o.map (·.2)) u
theorem run_fields_by (pu : Pu K) {n : Nat} {s : Bool} (h : ∀ H' b u, Ex H H' → Told K H' (fbN n s) b u → Q (.ref b) H') : sp_fields_by K [.int (n : Int), .bl s] H Q E := by
  refine ⟨rfl, ?_⟩
  show t_fields_by K E _ [some (.int n), some (.bl s), none, none] H
  unfold t_fields_by
  walk_at "go"
  rw [show decide (V.int (n : Int) = V.non) = false from decide_eq_false (fun z => nomatch z)]
  walk_at "go"
  -- behind told: its first item, its number
  have tail : ∀ (H1 : Hp) (c : Addr) (xs : List V) (m : Bool) (N : Nat), Ex H H1 → SqT K H1 c (.str (mS m) :: .int (N : Int) :: xs) → fbN n s = (fldN N).map (fun f => (m, f)) →
      (tSeq (tAsg (tIf (tTest (tOp (uNe K) (tOp (rIx K) (tVar 2) (tC (.int 0))) (tC (.str "spoilt")))) (tCall (sp_fields_of K) [] E (tCons (tOp (rIx K) (tVar 2) (tC (.int 1))) tNil)) (tC .non)) (gName 3))
    (tRet (tIf (tTest (tOp uIsN (tVar 3) (tC .non))) (tTup (tCons (tC (.str "spoilt")) (tCons (tC .non) tNil))) (tTup (tCons (tOp (rIx K) (tVar 2) (tC (.int 0))) (tCons (tVar 3) tNil)))))) { nx := fun _ H' => Q .non H', rt := Q } [some (.int n), some (.bl s), some (.ref c), none] H1 := by
    intro H1 c xs m N e1 hc hf
    have two : mS m ≠ "spoilt" := by cases m <;> decide +kernel
    walk_at "go"
    refine r_ixT (v := .str (mS m)) hc (by rw [show atI (V.str (mS m) :: V.int (N : Int) :: xs) 0 = some (V.str (mS m)) from by unfold atI ixN; rw [if_pos (by decide), if_pos (by rw [List.length_cons]; omega)]; rfl]) ?_
    walk_at "go"
    refine r_iteN (fun _ => ?_) (fun z => absurd z two)
    walk_at "go"
    refine r_ixT (v := .int (N : Int)) hc (by unfold atI ixN; rw [if_pos (by decide), if_pos (by rw [List.length_cons, List.length_cons]; omega)]; rfl) ?_
    walk_at "go"
    refine run_fields_of pu fun H2 u e2 hu => ?_
    walk_at "go"
    have hc2 := Evl.ex_t e2 hc
    cases ef : fldN N with
    | none =>
      rw [ef] at hu hf
      have hu' : u = .non := hu
      subst hu'
      rw [decide_eq_true rfl]
      walk_at "go"
      refine r_new (by simp) fun q hq => ?_
      walk_at "go"
      refine h _ q .non ((e1.trans e2).up hq) ?_
      rw [hf]
      exact ⟨SqT.of upd_same, rfl⟩
    | some f =>
      rw [ef] at hu hf
      obtain ⟨b, rfl, hb⟩ := hu
      rw [show decide (V.ref b = V.non) = false from decide_eq_false (fun z => nomatch z)]
      walk_at "go"
      refine r_ixT (v := .str (mS m)) hc2 (by unfold atI ixN; rw [if_pos (by decide), if_pos (by rw [List.length_cons]; omega)]; rfl) ?_
      walk_at "go"
      refine r_new (by simp) fun q hq => ?_
      walk_at "go"
      refine h _ q (.ref b) ((e1.trans e2).up hq) ?_
      rw [hf]
      refine ⟨?_, b, rfl, Evl.ex_t (Ex.rf.up hq) hb⟩
      have es : stS ((some f).map fun f => (m, f)) = mS m := rfl
      rw [es]
      exact SqT.of upd_same
  cases s with
  | false =>
    walk_at "go"
    refine r_new (by simp) fun q hq => ?_
    walk_at "g1"
    walk_at "g1"
    exact tail _ q [] false n (Ex.rf.up hq) (SqT.of upd_same) rfl
  | true =>
    walk_at "go"
    refine run_opened_by pu (w := 40) (by decide) (by decide) fun H1 v e1 hd => ?_
    cases eo : openN n 40 with
    | good m =>
      rw [eo] at hd
      cases hd with
      | tup sq al =>
        cases al with
        | cons d1 al =>
          cases d1
          cases al with
          | cons d2 al =>
            cases d2
            cases al
            walk_at "g1"
            walk_at "g1"
            exact tail _ _ [] false m e1 sq (by unfold fbN; simp only [eo])
    | mended m b =>
      rw [eo] at hd
      cases hd with
      | tup sq al =>
        cases al with
        | cons d1 al =>
          cases d1
          cases al with
          | cons d2 al =>
            cases d2
            cases al with
            | cons d3 al =>
              cases d3
              cases al
              walk_at "g1"
              walk_at "g1"
              exact tail _ _ [.int (b : Int)] true m e1 sq (by unfold fbN; simp only [eo])
    | spoilt =>
      rw [eo] at hd
      cases hd with
      | tup sq al =>
        cases al with
        | cons d1 al =>
          cases d1
          cases al
          walk_at "go"
          refine r_ixT (v := .str "spoilt") sq rfl ?_
          walk_at "go"
          refine r_iteN (fun z => absurd rfl z) (fun _ => ?_)
          walk_at "go"
          rw [decide_eq_true rfl]
          walk_at "go"
          refine r_new (by simp) fun q hq => ?_
          walk_at "go"
          refine h _ q .non (e1.up hq) ?_
          have ef : fbN n true = none := by unfold fbN; simp only [eo]
          rw [ef]
          exact ⟨SqT.of upd_same, rfl⟩
theorem run_need_word {n : Nat} (hn : n < 2 ^ 47) (h : Q .non H) : sp_need_word K [.int (n : Int)] H Q E := by
  refine ⟨rfl, ?_⟩
  show t_need_word K E _ [some (.int n)] H
  unfold t_need_word
  walk_at "go"
  refine n_shl1 (b := 47) (by decide) ?_
  walk_at "go"
  refine run_is_within ?_
  walk_at "go"
  refine r_iteN (fun c => absurd ⟨by omega, by omega⟩ c) (fun c => ?_)
  walk_at "go"
  exact h
theorem run_word_of (pu : Pu K) {f : F5} {a : Addr} {s : Bool} (hf : okF f) (hs : SqT K H a (f5V f)) (h : ∀ H', Ex H H' → Q (.int (wordN f s : Nat)) H') : sp_word_of K [.ref a, .bl s] H Q E := by
  refine ⟨rfl, ?_⟩
  show t_word_of K E _ [some (.ref a), some (.bl s)] H
  unfold t_word_of
  walk_at "go"
  refine run_is_fields pu hf.1 hs fun H1 e1 => ?_
  walk_at "go"
  refine r_iteN (fun c => absurd hf c) (fun c => ?_)
  walk_at "go"
  exact run_word_by pu hf (Evl.ex_t e1 hs) fun H2 e2 => h _ (e1.trans e2)
theorem run_fields_in (pu : Pu K) {n : Nat} {s : Bool} (hn : n < 2 ^ 47) (h : ∀ H' b u, Ex H H' → Told K H' (fbN n s) b u → Q (.ref b) H') : sp_fields_in K [.int (n : Int), .bl s] H Q E := by
  refine ⟨rfl, ?_⟩
  show t_fields_in K E _ [some (.int n), some (.bl s)] H
  unfold t_fields_in
  walk_at "go"
  refine run_need_word hn ?_
  walk_at "go"
  exact run_fields_by pu h
end

section
variable {K : PySem.W.Frag} {H : Hp} {Q : VK} {E : XK}
/-- [x, y, .., drawn][drawn]: an item -/
theorem run__law_fields_any {a : Addr} (hs : St3 H a) (h : ∀ H' b f, Fr a H H' → H b = none → okF f → SqT K H' b (f5V f) → Q (.ref b) H') : sp__law_fields_any K [.ref a] H Q E := by
  refine ⟨rfl, ?_⟩
  show t__law_fields_any K E _ [some (.ref a), none, none, none, none, none] H
  unfold t__law_fields_any
  walk_at "go"
  refine r_new (by simp) fun p hp => ?_
  walk_at "go"
  have f1 := (Fr.rf hs).up (o := .lst [V.str "write", V.str "trim", V.str "member", V.str "commit"]) hp
  refine draw f1 (by decide) (by decide) fun k0 H2 k1 k2 f2 g2 => ?_
  obtain ⟨k, rfl⟩ : ∃ k : Nat, k0 = (k : Int) := ⟨k0.toNat, by omega⟩
  have k4 : k < 4 := by omega
  refine r_ixL (v := .str (kS k)) (SqL.of (g2.keep p _ ((Fr.rf hs).ne hp) upd_same)) ?_ ?_
  · rcases (by omega : k = 0 ∨ k = 1 ∨ k = 2 ∨ k = 3) with rfl | rfl | rfl | rfl <;> rfl
  walk_at "go"
  refine r_lc (r_iRng ?_)
  walk_at "go"
  refine ⟨2, rfl, by decide, by decide, ?_⟩
  intro D hD
  have nD := f2.ne hD
  refine lc_rng (n := 2) [some (.ref a), some (.str (kS k)), none, none, none, none] rfl (fun i H' => Fr a H H' ∧ ∃ l : List Nat, l.length = i ∧ (∀ z ∈ l, z ≤ 16383) ∧ H' D = some (.lst (natV l))) ⟨f2.up hD, [], rfl, by simp, upd_same⟩ ?_ ?_
  · rintro i H3 hi ⟨f3, l, hl, hb, hD3⟩
    walk_at "go"
    refine ⟨rfl, ?_⟩
    walk_at "go"
    refine draw f3 (by decide) (by decide) fun n0 H4 n1 n2 f4 g4 => ?_
    walk_at "go"
    refine r_new (by simp) fun q hq => ?_
    walk_at "go"
    have f5 := f4.up (o := .lst [V.int 0, V.int 1, V.int 16383, V.int n0]) hq
    refine draw f5 (by decide) (by decide) fun i0 H6 i1 i2 f6 g6 => ?_
    obtain ⟨x, hx, x1⟩ : ∃ x : Nat, atI [V.int 0, V.int 1, V.int 16383, V.int n0] i0 = some (.int (x : Int)) ∧ x ≤ 16383 := by
      rcases (by omega : i0 = 0 ∨ i0 = 1 ∨ i0 = 2 ∨ i0 = 3) with rfl | rfl | rfl | rfl
      · exact ⟨0, rfl, by decide⟩
      · exact ⟨1, rfl, by decide⟩
      · exact ⟨16383, rfl, by decide⟩
      · exact ⟨n0.toNat, by rw [Int.toNat_of_nonneg (by omega)]; rfl, by omega⟩
    refine r_ixL (SqL.of (g6.keep q _ (f4.ne hq) upd_same)) hx ?_
    have hD6 := g6.keep D _ nD ((Ex.rf.up hq) _ _ (g4.keep D _ nD hD3))
    refine ⟨natV l, hD6, by rw [natV_len]; exact Nat.lt_of_le_of_lt (by omega : l.length ≤ 2) (by decide), ?_, l ++ [x], by rw [List.length_append, hl]; rfl, ?_, by rw [upd_same, natV, natV, List.map_append]; rfl⟩
    · exact f6.mut (f2.fresh hD) nD
    · intro z hz
      rcases List.mem_append.mp hz with w | w
      · exact hb z w
      · rw [List.mem_singleton.mp w]; exact x1
  · rintro H3 ⟨f3, l, hl, hb, hD3⟩
    obtain ⟨n, g, rfl⟩ : ∃ n g, l = [n, g] := by
      match l, hl with
      | [n, g], _ => exact ⟨n, g, rfl⟩
    have hn := hb n (by simp)
    have hg := hb g (by simp)
    walk_at "go"
    refine draw f3 (by decide) (by decide) fun p0 H4 p1 p2 f4 g4 => ?_
    walk_at "go"
    refine r_new (by simp) fun q hq => ?_
    walk_at "go"
    refine draw (f4.up hq) (by decide) (by decide) fun i0 H5 i1 i2 f5 g5 => ?_
    obtain ⟨x, hx, x1⟩ : ∃ x : Nat, atI [V.int 0, V.int 15, V.int p0] i0 = some (.int (x : Int)) ∧ x ≤ 15 := by
      rcases (by omega : i0 = 0 ∨ i0 = 1 ∨ i0 = 2) with rfl | rfl | rfl
      · exact ⟨0, rfl, by decide⟩
      · exact ⟨15, rfl, by decide⟩
      · exact ⟨p0.toNat, by rw [Int.toNat_of_nonneg (by omega)]; rfl, by omega⟩
    refine r_ixL (SqL.of (g5.keep q _ (f4.ne hq) upd_same)) hx ?_
    walk_at "go"
    refine draw f5 (by decide) (by decide) fun d0 H6 d1 d2 f6 g6 => ?_
    walk_at "go"
    refine r_new (by simp) fun q2 hq2 => ?_
    walk_at "go"
    refine draw (f6.up hq2) (by decide) (by decide) fun j0 H7 j1 j2 f7 g7 => ?_
    obtain ⟨y, hy, y1⟩ : ∃ x : Nat, atI [V.int 0, V.int 63, V.int d0] j0 = some (.int (x : Int)) ∧ x ≤ 63 := by
      rcases (by omega : j0 = 0 ∨ j0 = 1 ∨ j0 = 2) with rfl | rfl | rfl
      · exact ⟨0, rfl, by decide⟩
      · exact ⟨63, rfl, by decide⟩
      · exact ⟨d0.toNat, by rw [Int.toNat_of_nonneg (by omega)]; rfl, by omega⟩
    refine r_ixL (SqL.of (g7.keep q2 _ (f6.ne hq2) upd_same)) hy ?_
    have hD7 : H7 D = some (.lst (natV [n, g])) := g7.keep D _ nD ((Ex.rf.up hq2) _ _ (g6.keep D _ nD (g5.keep D _ nD ((Ex.rf.up hq) _ _ (g4.keep D _ nD hD3)))))
    walk_at "go"
    have kc : (k = 3 ↔ kS k = "commit") ∧ (k = 2 ↔ kS k = "member") ∧ (k = 1 ↔ kS k = "trim") := by
      rcases (by omega : k = 0 ∨ k = 1 ∨ k = 2 ∨ k = 3) with e | e | e | e <;> rw [e] <;> decide +kernel
    refine r_iteD (fun c => ?_) (fun c => ?_)
    · walk_at "go"
      refine r_ixL (v := .int (n : Int)) (SqL.of hD7) rfl ?_
      walk_at "go"
      refine r_ixL (v := .int (g : Int)) (SqL.of hD7) rfl ?_
      walk_at "go"
      refine r_new (by simp) fun b hb => ?_
      walk_at "go"
      have k3 := kc.1.mpr c
      exact h _ b ⟨k, 0, n, g, 0⟩ (f7.up hb) (f7.fresh hb) ⟨k4, Nat.zero_le _, hn, hg, Nat.zero_le _, fun _ => ⟨rfl, rfl⟩, fun z => absurd k3 z⟩ (SqT.of upd_same)
    · have k3 : k ≠ 3 := fun z => c (kc.1.mp z)
      walk_at "go"
      refine r_ixL (v := .int (n : Int)) (SqL.of hD7) rfl ?_
      walk_at "go"
      refine r_ixL (v := .int (g : Int)) (SqL.of hD7) rfl ?_
      walk_at "go"
      refine r_mul (.inr (by split <;> decide)) ?_
      walk_at "go"
      refine r_mul (.inr (by split <;> decide)) ?_
      walk_at "go"
      refine r_new (by simp) fun b hb => ?_
      walk_at "go"
      have eg : (g : Int) * (if decide (kS k = "member") = true then 1 else 0) = ((if k = 2 then g else 0 : Nat) : Int) := by
        by_cases w : k = 2
        · rw [if_pos (decide_eq_true (kc.2.1.mp w)), if_pos w, Int.mul_one]
        · rw [if_neg (fun z => w (kc.2.1.mpr (of_decide_eq_true z))), if_neg w, Int.mul_zero]; rfl
      have ed : (y : Int) * (if (!decide (kS k = "trim")) = true then 1 else 0) = ((if k = 1 then 0 else y : Nat) : Int) := by
        by_cases w : k = 1
        · rw [decide_eq_true (kc.2.2.mp w), if_pos w]; rfl
        · rw [decide_eq_false (fun z => w (kc.2.2.mpr z)), if_neg w]; exact Int.mul_one _
      rw [eg, ed]
      refine h _ b ⟨k, x, n, if k = 2 then g else 0, if k = 1 then 0 else y⟩ (f7.up hb) (f7.fresh hb) ⟨k4, x1, hn, ?_, ?_, fun z => absurd z k3, fun _ => ⟨?_, ?_⟩⟩ (SqT.of upd_same)
      · show (if k = 2 then g else 0) ≤ 16383
        split <;> omega
      · show (if k = 1 then 0 else y) ≤ 63
        split <;> omega
      · show (if k = 2 then g else 0) = 0 ∨ k = 2
        split <;> omega
      · show (if k = 1 then 0 else y) = 0 ∨ k ≠ 1
        split <;> omega
end

section
variable {K : PySem.W.Frag} {H : Hp} {Q : VK} {E : XK}
def tD : Option (Bool × F5) → PyData
  | none => .tuple [.str "spoilt", .none]
  | some (m, f) => .tuple [.str (mS m), f5D f]
theorem told_D {o : Option (Bool × F5)} {b : Addr} {u : V} (t : Told K H o b u) : Dp K H (.ref b) (tD o) := by
  obtain ⟨sq, fd⟩ := t
  cases o with
  | none =>
    have e : u = .non := fd
    subst e
    exact .tup sq (.cons (.str _) (.cons .non .nil))
  | some z =>
    obtain ⟨m, f⟩ := z
    obtain ⟨c, rfl, hc⟩ := fd
    exact .tup sq (.cons (.str _) (.cons (f5_dp hc) .nil))
theorem tD_sw {o : Option (Bool × F5)} (h : ∀ m f, o = some (m, f) → okF f) : Sw 2 2000 (tD o) := by
  cases o with
  | none =>
    have s := sw_tup (k := 1) (swa_cons (sw_str (k := 1) (x := "spoilt") (by decide +kernel)) (swa_cons (sw_none (k := 1)) swa_nil))
    exact ⟨s.lay, s.dep, s.shw, Nat.le_trans s.len (by decide +kernel)⟩
  | some z =>
    obtain ⟨m, f⟩ := z
    have sm : Sw 1 (10 * 6 + 2) (.str (mS m)) := by
      have q : PyData.strOk (mS m) = true ∧ (mS m).length ≤ 6 := by cases m <;> decide +kernel
      have s := sw_str (k := 1) q.1
      exact ⟨s.lay, s.dep, s.shw, Nat.le_trans s.len (by omega)⟩
    have s := sw_tup (k := 1) (swa_cons sm (swa_cons (f5_sw (h m f rfl)) swa_nil))
    exact ⟨s.lay, s.dep, s.shw, Nat.le_trans s.len (by omega)⟩
theorem fb_ok {n : Nat} {s : Bool} : ∀ m f, fbN n s = some (m, f) → okF f := by
  have q : ∀ N (mm : Bool) m f, (fldN N).map (fun f => (mm, f)) = some (m, f) → okF f := by
    intro N mm m f e
    cases ef : fldN N with
    | none => rw [ef] at e; cases e
    | some g => rw [ef] at e; cases e; exact (num_fld ef).2
  intro m f e
  cases s with
  | false => exact q n false m f e
  | true =>
    unfold fbN at e
    simp only at e
    cases eo : openN n 40 with
    | good N => rw [eo] at e; exact q N false m f e
    | mended N b => rw [eo] at e; exact q N true m f e
    | spoilt => rw [eo] at e; cases e
end

section
variable {K : PySem.W.Frag} {H : Hp} {Q : VK} {E : XK}
theorem kinds_at {k : Nat} (h : k < 4) : (["write", "trim", "member", "commit"] : List Str)[k]? = some (kS k) ∧ atI [V.str "write", V.str "trim", V.str "member", V.str "commit"] (k : Int) = some (.str (kS k)) ∧ SeqAt.shaped (.str (kS k)) = true ∧
    ∀ (m : Nat) (z : Str), m < k → (["write", "trim", "member", "commit"] : List Str)[m]? = some z → (z == kS k) = false := by
  rcases (by omega : k = 0 ∨ k = 1 ∨ k = 2 ∨ k = 3) with rfl | rfl | rfl | rfl
  · exact ⟨rfl, rfl, by decide +kernel, fun m z hm => absurd hm (Nat.not_lt_zero m)⟩
  · refine ⟨rfl, rfl, by decide +kernel, fun m z hm hz => ?_⟩
    have : m = 0 := by omega
    subst this
    cases hz
    decide +kernel
  · refine ⟨rfl, rfl, by decide +kernel, fun m z hm hz => ?_⟩
    rcases (by omega : m = 0 ∨ m = 1) with rfl | rfl <;> cases hz <;> decide +kernel
  · refine ⟨rfl, rfl, by decide +kernel, fun m z hm hz => ?_⟩
    rcases (by omega : m = 0 ∨ m = 1 ∨ m = 2) with rfl | rfl | rfl <;> cases hz <;> decide +kernel
theorem run__law_number_of {f : F5} {a : Addr} (hk : f.k < 4) (hs : SqT K H a (f5V f)) (h : ∀ H', Ex H H' → Q (.int (numF f : Nat)) H') : sp__law_number_of K [.ref a] H Q E := by
  refine ⟨rfl, ?_⟩
  show t__law_number_of K E _ [some (.ref a), none, none, none, none, none, none] H
  unfold t__law_number_of
  walk_at "go"
  refine r_gTup hs rfl ?_
  unfold f5V
  walk_at "go"
  refine r_new (by simp) fun p hp => ?_
  refine ⟨ty_list upd_same, ?_⟩
  walk_at "go"
  obtain ⟨k1, _, k2, k3⟩ := kinds_at hk
  refine r_indexS (ks := ["write", "trim", "member", "commit"]) (SqL.of upd_same) (by decide +kernel) k2 k1 k3 ?_
  walk_at "go"
  refine r_mul (.inr (by decide)) ?_
  walk_at "go"
  refine r_mul (.inr (by decide)) ?_
  walk_at "go"
  refine r_mul (.inr (by decide)) ?_
  walk_at "go"
  refine r_mul (.inr (by decide)) ?_
  walk_at "go"
  exact h _ (Ex.rf.up hp)
theorem run__law_word {f : F5} {a : Addr} {s : Bool} (hf : okF f) (hs : SqT K H a (f5V f)) (h : ∀ H', Ex H H' → Q (.int (wordN f s : Nat)) H') : sp__law_word K [.ref a, .bl s] H Q E := by
  refine ⟨rfl, ?_⟩
  show t__law_word K E _ [some (.ref a), some (.bl s)] H
  unfold t__law_word
  walk_at "go"
  cases s with
  | true =>
    walk_at "go"
    refine run__law_number_of hf.1 hs fun H1 e1 => ?_
    walk_at "go"
    refine run__law_sealed (w := 40) (by decide) (by decide) (numF_lt hf) fun H2 e2 => ?_
    exact h _ (e1.trans e2)
  | false =>
    walk_at "go"
    exact run__law_number_of hf.1 hs h
theorem in13 (k : Nat) : inV (.int (k : Int)) [.int 1, .int 3] = decide (k = 1 ∨ k = 3) := by
  show ((((1 : Int) == (k : Int)) || ((3 : Int) == (k : Int) || false))) = _
  by_cases h1 : k = 1
  · subst h1; rfl
  · by_cases h3 : k = 3
    · subst h3; rfl
    · rw [beq_eq_false_iff_ne.mpr (by omega), beq_eq_false_iff_ne.mpr (by omega), decide_eq_false (by omega)]; rfl
theorem r_in13 {p : Addr} {k : Nat} (hs : H p = some (.tup [.int 1, .int 3])) (h : Q (.bl (decide (k = 1 ∨ k = 3))) H) : rIn K false (.int (k : Int)) (.ref p) H Q := by
  refine r_in (SqT.of hs) rfl rfl ?_
  rw [in13]
  exact h
theorem dec_QB {QB : Bool → Hp → Prop} {A : Prop} [Decidable A] (h1 : A → QB true H) (h2 : ¬ A → QB false H) : QB (decide A) H := by
  by_cases c : A
  · rw [decide_eq_true c]; exact h1 c
  · rw [decide_eq_false c]; exact h2 c
theorem test_fields {k g d p : Nat} {o0 o2 o3 o6 : Option V} {QB : Bool → Hp → Prop} (hT : (3 < k ∨ (k < 2 ∧ 0 < g) ∨ ((k = 1 ∨ k = 3) ∧ 0 < d) ∨ (k = 3 ∧ 0 < p)) → ∀ H', Ex H H' → QB true H')
    (hF : ¬ (3 < k ∨ (k < 2 ∧ 0 < g) ∨ ((k = 1 ∨ k = 3) ∧ 0 < d) ∨ (k = 3 ∧ 0 < p)) → ∀ H', Ex H H' → QB false H') :
    (tOr (tTest (tOp uGt (tVar 1) (tC (.int 3)))) (tOr (tAnd (tTest (tOp uLt (tVar 1) (tC (.int 2)))) (tTest (tOp uGt (tVar 5) (tC (.int 0))))) (tOr (tAnd (tTest (tOp (rIn K false) (tVar 1) (tTup (tCons (tC (.int 1)) (tCons (tC (.int 3)) tNil))))) (tTest (tOp uGt (tVar 4) (tC (.int 0))))) (tAnd (tTest (tOp (uEq K) (tVar 1) (tC (.int 3)))) (tTest (tOp uGt (tVar 7) (tC (.int 0)))))))) [o0, some (.int (k : Int)), o2, o3, some (.int (d : Int)), some (.int (g : Int)), o6, some (.int (p : Int))] H QB := by
  walk_at "go"
  repeat' (first
    | (refine r_iteD (fun _ => ?_) (fun _ => ?_); all_goals walk_at "go")
    | (refine r_new (by simp) fun p hp => ?_; walk_at "go"; refine r_in13 upd_same ?_; walk_at "go"))
  all_goals first
    | exact hT (by omega) _ Ex.rf
    | exact hF (by omega) _ Ex.rf
    | exact hT (by omega) _ (Ex.rf.up (by assumption))
    | exact hF (by omega) _ (Ex.rf.up (by assumption))
    | exact dec_QB (fun _ => hT (by omega) _ (Ex.rf.up (by assumption))) (fun _ => hF (by omega) _ (Ex.rf.up (by assumption)))
theorem fld_bad {N : Nat} (h : ¬ okF (splitN N)) : fldN N = none := by unfold fldN; rw [if_neg h]
theorem fld_ok {N : Nat} (h : okF (splitN N)) : fldN N = some (splitN N) := by unfold fldN; rw [if_pos h]
theorem split_bd (N : Nat) : (splitN N).p ≤ 15 ∧ (splitN N).n ≤ 16383 ∧ (splitN N).g ≤ 16383 ∧ (splitN N).d ≤ 63 := by
  unfold splitN
  simp only
  omega
def sGo2 : List Nat → Nat → List Nat → Nat × List Nat
  | [], N, ys => (N, ys)
  | m :: l, N, ys => sGo2 l (N / m) (ys ++ [N % m])
theorem run__law_fields_of {N : Nat} (h : ∀ H' u, Ex H H' → FdV K H' (fldN N) u → Q u H') : sp__law_fields_of K [.int (N : Int)] H Q E := by
  refine ⟨rfl, ?_⟩
  show t__law_fields_of K E _ [some (.int N), none, none, none, none, none, none, none] H
  unfold t__law_fields_of
  walk_at "go"
  refine r_new (by simp) fun q hq => ?_
  walk_at "go"
  refine r_for (r_iterT ?_)
  walk_at "go"
  refine r_new (by simp) fun q2 hq2 => ?_
  have e0 := (Ex.rf.up (o := .lst []) hq).up (o := .tup [V.int 64, V.int 16384, V.int 16384, V.int 16]) hq2
  have n2 : q2 ≠ q := fun z => by rw [z, upd_same] at hq2; cases hq2
  refine f_tup (xs := natV [64, 16384, 16384, 16]) (SqT.of upd_same) (fun r σ H' => ∃ (l : List Nat) (M : Nat) (ys : List Nat) (o3 : Option V), r = natV l ∧ σ = [some (.int (N : Int)), some (.int (M : Int)), some (.ref q), o3, none, none, none, none] ∧ Ex H H' ∧ H' q2 = some (.tup [V.int 64, V.int 16384, V.int 16384, V.int 16]) ∧ H' q = some (.lst (natV ys)) ∧ (∀ z ∈ l, 1 ≤ z ∧ z ≤ 16384) ∧ ys.length + l.length = 4 ∧ sGo2 l M ys = sGo2 [64, 16384, 16384, 16] N [])
    ⟨_, N, [], _, rfl, rfl, e0, upd_same, (Ex.rf.up hq2) _ _ upd_same, by simp, rfl, rfl⟩ (fun r σ H' ⟨_, _, _, _, _, _, _, e, _⟩ => SqT.of e) ?_ ?_
  · rintro x r _ H1 ⟨l, M, ys, o3, hr, rfl, e1, h2, hys, hb, hlen, hy⟩
    cases l with
    | nil => cases hr
    | cons z l =>
      cases hr
      have hz := hb z (List.mem_cons_self ..)
      rw [List.length_cons] at hlen
      walk_at "go"
      refine ⟨ty_list hys, ?_⟩
      walk_at "go"
      refine n_mod (by omega) ?_
      walk_at "go"
      refine r_app hys (by rw [natV_len]; omega) ?_
      walk_at "go"
      refine r_fdv (by omega) ?_
      walk_at "go"
      refine ⟨l, M / z, ys ++ [M % z], _, rfl, rfl, e1.up2 hq, by rw [upd_ne n2]; exact h2, by rw [upd_same, natV, natV, List.map_append]; rfl, fun q hq => hb q (List.mem_cons_of_mem _ hq), by rw [List.length_append]; show ys.length + 1 + l.length = 4; omega, hy⟩
  · rintro _ H1 ⟨l, M, ys, o3, hr, rfl, e1, h2, hys, hb, hlen, hy⟩
    cases l with
    | cons z l => cases hr
    | nil =>
      have em : (M, ys) = ((splitN N).k, [(splitN N).d, (splitN N).g, (splitN N).n, (splitN N).p]) := hy
      obtain ⟨rfl, rfl⟩ : M = (splitN N).k ∧ ys = [(splitN N).d, (splitN N).g, (splitN N).n, (splitN N).p] := by
        cases em
        exact ⟨rfl, rfl⟩
      obtain ⟨b1, b2, b3, b4⟩ := split_bd N
      have bad : ¬ okF (splitN N) → ∀ H', Ex H H' → Q .non H' := fun c H' e => h _ _ e (by rw [fld_bad c]; rfl)
      walk_at "go"
      refine r_gLst (SqL.of hys) rfl ?_
      unfold natV
      simp only [List.map_cons, List.map_nil]
      have good : ∀ H', Ex H H' → okF (splitN N) → tRet (tTup (tCons (tOp (rIx K) (tLst (tCons (tC (.str "write")) (tCons (tC (.str "trim")) (tCons (tC (.str "member")) (tCons (tC (.str "commit")) tNil))))) (tVar 1)) (tCons (tVar 7) (tCons (tVar 6) (tCons (tVar 5) (tCons (tVar 4) tNil)))))) { nx := fun _ H' => Q .non H', rt := Q }
          [some (.int (N : Int)), some (.int ((splitN N).k : Int)), some (.ref q), o3, some (.int ((splitN N).d : Int)), some (.int ((splitN N).g : Int)), some (.int ((splitN N).n : Int)), some (.int ((splitN N).p : Int))] H' := by
        intro H' e' c
        walk_at "go"
        refine r_new (by simp) fun p hp => ?_
        walk_at "go"
        refine r_ixL (SqL.of upd_same) (kinds_at c.1).2.1 ?_
        walk_at "go"
        refine r_new (by simp) fun p2 hp2 => ?_
        walk_at "go"
        refine h _ _ ((e'.up hp).up hp2) ?_
        rw [fld_ok c]
        exact ⟨p2, rfl, SqT.of upd_same⟩
      iterate 10 walk_at "g1"
      refine r_if ?_
      refine test_fields (k := (splitN N).k) (g := (splitN N).g) (d := (splitN N).d) (p := (splitN N).p) (fun c H' e' => ?_) (fun c H' e' => ?_)
      · walk_at "go"
        refine bad (fun z => ?_) _ (e1.trans e')
        obtain ⟨z1, _, _, _, _, z6, z7⟩ := z
        omega
      · walk_at "g1"
        walk_at "g1"
        walk_at "g1"
        exact good _ (e1.trans e') ⟨by omega, b1, b2, b3, b4, fun w => by omega, fun w => by omega⟩
theorem run__law_opened {n : Nat} {s : Bool} (hn : n < 2 ^ 47) (h : ∀ H' b u, Ex H H' → Told K H' (fbN n s) b u → Q (.ref b) H') : sp__law_opened K [.int (n : Int), .bl s] H Q E := by
  obtain ⟨_, hlen, hb, _⟩ := look2 40 (by decide) (by decide)
  have n64 : n < 2 ^ 64 := Nat.lt_of_lt_of_le hn (by decide)
  have hpar := par_lt n
  have hwr := wrong_lt n
  have c46 : 40 + chk 40 = 46 := by rw [chk40]
  have spoilt : fbN n s = none → ∀ H', Ex H H' → (tRet (tTup (tCons (tC (.str "spoilt")) (tCons (tC .non) tNil)))) { nx := fun _ H' => Q .non H', rt := Q } [some (.int (n : Int)), some (.bl s), none, some (.int (wrongN n : Nat)), some (.int (parN n : Nat)), some (.str "good"), none, none, none] H' := by
    intro eo H' e'
    walk_at "go"
    refine r_new (by simp) fun q hq => ?_
    walk_at "go"
    refine h _ q .non (e'.up hq) ?_
    rw [eo]
    exact ⟨SqT.of upd_same, rfl⟩
  have loop : ∀ (m : Nat) (mm : Bool), m < 2 ^ 47 → fbN n s = (fldN (numN m 40)).map (fun f => (mm, f)) →
      (tSeq (tAsg (tC (.int 0)) (gName 6))
    (tSeq (tFor (iEnumA K (tCons (tCall (sp__law_spots K) [] E (tCons (tC (.int 40)) tNil)) tNil)) (gTup K 2 (gCons (gName 7) (gCons (gName 8) gNil))) (tAsg (tOp (uAdd K) (tVar 6) (tOp uShl (tOp uAnd (tOp uShr (tVar 0) (tVar 8)) (tC (.int 1))) (tVar 7))) (gName 6)))
    (tSeq (tAsg (tCall (sp__law_fields_of K) [] E (tCons (tVar 6) tNil)) (gName 2))
    (tRet (tIf (tTest (tOp uIsN (tVar 2) (tC .non))) (tTup (tCons (tC (.str "spoilt")) (tCons (tC .non) tNil))) (tTup (tCons (tVar 5) (tCons (tVar 2) tNil)))))))) { nx := fun _ H' => Q .non H', rt := Q }
        [some (.int (m : Int)), some (.bl s), none, some (.int (wrongN n : Nat)), some (.int (parN n : Nat)), some (.str (mS mm)), none, none, none] H := by
    intro m mm hm hf
    walk_at "go"
    refine r_for (r_iEnumL ?_)
    walk_at "go"
    refine run__law_spots (w := 40) (by decide) (by decide) fun H1 p e1 hp hl => ?_
    walk_at "go"
    refine f_enumL (SqL.of hl) (fun i r σ H' => ∃ (l : List Nat) (a : Nat) (o7 o8 : Option V), r = natV l ∧ σ = [some (.int (m : Int)), some (.bl s), none, some (.int (wrongN n : Nat)), some (.int (parN n : Nat)), some (.str (mS mm)), some (.int (a : Int)), o7, o8] ∧ Ex H1 H' ∧ i + l.length = 40 ∧ npS l i a m = numN m 40)
      ⟨spots 40, 0, _, _, rfl, rfl, Ex.rf, by omega, np_num (by decide) (by decide) (by rw [c46]; exact hm)⟩ (fun i r σ H' ⟨_, _, _, _, _, _, e, _⟩ => SqL.of (e _ _ hl)) ?_ ?_
    · rintro i x r T _ H2 ⟨l, a, o7, o8, hr, rfl, e2, hil, hy⟩ hT
      cases l with
      | nil => cases hr
      | cons z l =>
        cases hr
        rw [List.length_cons] at hil
        refine r_gTup (SqT.of upd_same) rfl ?_
        walk_at "go"
        refine n_shr ?_
        walk_at "go"
        rw [show (1 : Int) = ((1 : Nat) : Int) from rfl, bitAnd_nat, Nat.and_one_is_mod]
        refine n_shl (by omega) (Nat.lt_of_lt_of_le (Nat.mod_lt _ (by omega)) (by decide)) ?_
        walk_at "go"
        exact ⟨l, _, _, _, rfl, by rw [← Int.natCast_add], e2.up hT, by omega, hy⟩
    · rintro i _ H2 ⟨l, a, o7, o8, hr, rfl, e2, hil, hy⟩
      cases l with
      | cons z l => cases hr
      | nil =>
        have ea : a = numN m 40 := hy
        walk_at "go"
        rw [ea]
        refine run__law_fields_of fun H3 u e3 hu => ?_
        walk_at "go"
        have e03 := (e1.trans e2).trans e3
        cases ef : fldN (numN m 40) with
        | none =>
          rw [ef] at hu hf
          have hu' : u = .non := hu
          subst hu'
          rw [decide_eq_true rfl]
          walk_at "go"
          refine r_new (by simp) fun q hq => ?_
          walk_at "go"
          refine h _ q .non (e03.up hq) ?_
          rw [hf]
          exact ⟨SqT.of upd_same, rfl⟩
        | some f =>
          rw [ef] at hu hf
          obtain ⟨b, rfl, hb⟩ := hu
          rw [show decide (V.ref b = V.non) = false from decide_eq_false (fun z => nomatch z)]
          walk_at "go"
          refine r_new (by simp) fun q hq => ?_
          walk_at "go"
          refine h _ q (.ref b) (e03.up hq) ?_
          rw [hf]
          exact ⟨SqT.of upd_same, b, rfl, Evl.ex_t (Ex.rf.up hq) hb⟩
  refine ⟨rfl, ?_⟩
  show t__law_opened K E _ [some (.int n), some (.bl s), none, none, none, none, none, none, none] H
  unfold t__law_opened
  walk_at "go"
  cases s with
  | false =>
    walk_at "go"
    refine run__law_fields_of fun H3 u e3 hu => ?_
    walk_at "go"
    cases ef : fldN n with
    | none =>
      rw [ef] at hu
      have hu' : u = .non := hu
      subst hu'
      rw [decide_eq_true rfl]
      walk_at "go"
      refine r_new (by simp) fun q hq => ?_
      walk_at "go"
      refine h _ q .non (e3.up hq) ?_
      unfold fbN
      rw [ef]
      exact ⟨SqT.of upd_same, rfl⟩
    | some f =>
      rw [ef] at hu
      obtain ⟨b, rfl, hb⟩ := hu
      rw [show decide (V.ref b = V.non) = false from decide_eq_false (fun z => nomatch z)]
      walk_at "go"
      refine r_new (by simp) fun q hq => ?_
      walk_at "go"
      refine h _ q (.ref b) (e3.up hq) ?_
      unfold fbN
      rw [ef]
      exact ⟨SqT.of upd_same, b, rfl, Evl.ex_t (Ex.rf.up hq) hb⟩
  | true =>
    walk_at "go"
    refine run__law_wrong ?_
    walk_at "go"
    refine run__law_parity ?_
    rw [wr_wrong n64, ← par_cnt n64]
    walk_at "go"
    refine r_iteD (fun c1 => ?_) (fun c1 => ?_)
    · walk_at "go"
      refine r_iteD (fun c2 => ?_) (fun c2 => ?_)
      · walk_at "go"
        refine n_shl1 (by omega) ?_
        refine n_xor ?_
        walk_at "g1"
        walk_at "g1"
        walk_at "g1"
        walk_at "g1"
        have eo : openN n 40 = .mended (numN (n ^^^ 2 ^ wrongN n) 40) (wrongN n) := by unfold openN; rw [c46, if_neg (by omega), if_neg (by omega)]
        refine loop _ true (Nat.xor_lt_two_pow hn (Nat.pow_lt_pow_right (by omega) (by omega))) ?_
        unfold fbN
        simp only [eo]
      · walk_at "go"
        have eo : openN n 40 = .spoilt := by unfold openN; rw [c46, if_neg (by omega), if_pos (.inr (by omega))]
        refine r_iteD (fun c3 => ?_) (fun c3 => by omega)
        exact spoilt (by unfold fbN; simp only [eo]) _ Ex.rf
    · walk_at "go"
      refine r_iteD (fun c3 => ?_) (fun c3 => ?_)
      · have eo : openN n 40 = .spoilt := by unfold openN; rw [c46, if_neg (by omega), if_pos (.inl (by omega))]
        exact spoilt (by unfold fbN; simp only [eo]) _ Ex.rf
      · walk_at "go"
        refine r_iteD (fun c4 => absurd c4 c1) (fun c4 => ?_)
        walk_at "g1"
        walk_at "g1"
        have eo : openN n 40 = .good (numN n 40) := by unfold openN; rw [c46, if_pos ⟨by omega, by omega⟩]
        refine loop _ false hn ?_
        unfold fbN
        simp only [eo]
end
section
variable {K : PySem.W.Frag} {H : Hp} {Q : VK} {E : XK}
theorem run__law_in_right (pu : Pu K) {n : Nat} (hn : n < 2 ^ 47) (h : ∀ H', Ex H H' → Q (.bl true) H') : sp__law_in_right K [.int (n : Int)] H Q E := by
  refine ⟨rfl, ?_⟩
  show t__law_in_right K E _ [some (.int n), none, none] H
  unfold t__law_in_right
  walk_at "go"
  refine r_for (r_iList ?_)
  walk_at "go"
  refine r_new (by simp) fun p hp => ?_
  refine f_lst (SqL.of upd_same) (fun r σ H' => ∃ o1 o2 : Option V, σ = [some (.int (n : Int)), o1, o2] ∧ Ex (upd H p (.lst [V.bl true, V.bl false])) H' ∧ (∀ v ∈ r, ∃ s, v = V.bl s)) ⟨_, _, rfl, Ex.rf, by simp⟩ (fun r σ H' ⟨_, _, _, e, _⟩ => SqL.of (e _ _ upd_same)) ?_ ?_
  · rintro x r _ H3 ⟨o1, o2, rfl, e3, hr⟩
    obtain ⟨s, rfl⟩ := hr x (List.mem_cons_self ..)
    walk_at "go"
    refine run__law_opened hn fun H4 b u e4 td => ?_
    walk_at "go"
    refine run_fields_in pu hn fun H5 b2 u2 e5 td2 => ?_
    walk_at "go"
    refine run_fields_in pu hn fun H6 b3 u3 e6 td3 => ?_
    walk_at "go"
    refine r_new (by simp) fun q1 hq1 => ?_
    walk_at "go"
    refine r_new (by simp) fun q2 hq2 => ?_
    walk_at "go"
    have s2 := tD_sw (o := fbN n s) fb_ok
    have x6 := (Ex.rf.up (o := .lst [.ref b2, .ref b3]) hq1).up (o := .lst [.ref b, .ref b]) hq2
    refine run__law_same (d := .list [tD (fbN n s), tD (fbN n s)]) (.lst (SqL.of ((Ex.rf.up hq2) _ _ upd_same)) (.cons (dp_mono (e6.trans x6) (told_D td2)) (.cons (dp_mono x6 (told_D td3)) .nil)))
      (.lst (SqL.of upd_same) (.cons (dp_mono ((e5.trans e6).trans x6) (told_D td)) (.cons (dp_mono ((e5.trans e6).trans x6) (told_D td)) .nil))) (sw_lst (k := 2) (swa_cons s2 (swa_cons s2 swa_nil))) (by decide) (by decide) ?_
    walk_at "go"
    exact ⟨_, _, rfl, (((e3.trans e4).trans e5).trans e6).trans x6, fun v hv => hr v (List.mem_cons_of_mem _ hv)⟩
  · rintro _ H3 ⟨o1, o2, rfl, e3, _⟩
    walk_at "go"
    refine r_callD ?_
    walk_at "go"
    refine run_fields_in pu (s := true) hn fun H4 b u e4 td => ?_
    walk_at "go"
    refine run_fields_in pu (s := true) hn fun H5 b2 u2 e5 td2 => ?_
    refine r_eqSame (dp_mono e5 (told_D td)) (told_D td2) ((tD_sw (o := fbN n true) fb_ok).shaped (by decide)) ?_
    exact h _ ((((Ex.rf.up hp).trans e3).trans e4).trans e5)
theorem run__law_right (pu : Pu K) {a : Addr} (hs : St3 H a) (h : ∀ H', Fr a H H' → Q (.bl true) H') : sp__law_right K [.ref a] H Q E := by
  refine ⟨rfl, ?_⟩
  show t__law_right K E _ [some (.ref a), none, none, none, none, none, none, none, none] H
  unfold t__law_right
  walk_at "go"
  refine run__law_fields_any hs fun H1 b1 f g1 hb1 okf s1 => ?_
  walk_at "go"
  obtain ⟨sh, hsh⟩ : ∃ sh, sh = (f5D f).shown := ⟨_, rfl⟩
  refine r_repr (f5_dp s1) (f5_sw okf) (by decide) (by decide) ?_
  rw [← hsh]
  walk_at "go"
  refine run_word_of pu (s := true) okf s1 fun H2 e2 => ?_
  walk_at "go"
  refine run_word_of pu (s := false) okf (Evl.ex_t e2 s1) fun H3 e3 => ?_
  walk_at "go"
  refine r_callD ?_
  walk_at "go"
  refine run_word_of pu (s := true) okf (Evl.ex_t (e2.trans e3) s1) fun H4 e4 => ?_
  walk_at "go"
  refine r_new (by simp) fun p hp => ?_
  walk_at "go"
  have x4 := ((e2.trans e3).trans e4).up (o := .lst [.int (wordN f true : Nat), .int (wordN f false : Nat), .int (wordN f true : Nat)]) hp
  refine run__law_word (s := true) okf (Evl.ex_t x4 s1) fun H5 e5 => ?_
  walk_at "go"
  refine run__law_word (s := false) okf (Evl.ex_t (x4.trans e5) s1) fun H6 e6 => ?_
  walk_at "go"
  refine run__law_word (s := true) okf (Evl.ex_t ((x4.trans e5).trans e6) s1) fun H7 e7 => ?_
  walk_at "go"
  refine r_new (by simp) fun q hq => ?_
  have e57 := ((e5.trans e6).trans e7).up (o := .lst [.int (wordN f true : Nat), .int (wordN f false : Nat), .int (wordN f true : Nat)]) hq
  have dl : ∀ {H : Hp} {p : Addr}, SqL K H p [.int (wordN f true : Nat), .int (wordN f false : Nat), .int (wordN f true : Nat)] → Dp K H (.ref p) (.list [.int (wordN f true : Nat), .int (wordN f false : Nat), .int (wordN f true : Nat)]) := fun h => .lst h (.cons (.int _) (.cons (.int _) (.cons (.int _) .nil)))
  refine r_neSame (dl (SqL.of (e57 _ _ upd_same))) (dl (SqL.of upd_same)) (by kernel_rfl) ?_
  walk_at "go"
  have x7 := x4.trans e57
  refine r_repr (f5_dp (Evl.ex_t x7 s1)) (f5_sw okf) (by decide) (by decide) ?_
  rw [← hsh]
  clear hsh
  walk_at "go"
  refine r_iteN (fun z => absurd rfl z) (fun _ => ?_)
  walk_at "go"
  have g7 := g1.ex x7
  have w1 := word_lt okf true
  have w2 := word_lt okf false
  have np : p ≠ a := ((((g1.ex e2).ex e3).ex e4).ne hp)
  refine draw g7 (by decide) (by decide) fun i0 H8 i1 i2 g8 g8' => ?_
  walk_at "go"
  refine draw g8 (by decide) (by decide) fun j0 H9 j1 j2 g9 g9' => ?_
  obtain ⟨i, rfl⟩ : ∃ i : Nat, i0 = (i : Int) := ⟨i0.toNat, by omega⟩
  obtain ⟨j, rfl⟩ : ∃ j : Nat, j0 = (j : Int) := ⟨j0.toNat, by omega⟩
  have pi : 2 ^ i < 2 ^ 47 := Nat.pow_lt_pow_right (by omega) (by omega)
  have pj : 2 ^ j < 2 ^ 47 := Nat.pow_lt_pow_right (by omega) (by omega)
  have hp9 := g9'.keep p _ np (g8'.keep p _ np (e57 _ _ upd_same))
  walk_at "go"
  refine r_ixL (v := .int (wordN f true : Nat)) (SqL.of hp9) rfl ?_
  walk_at "go"
  refine n_shl1 (by omega) ?_
  refine n_xor ?_
  walk_at "go"
  refine r_ixL (v := .int (wordN f true : Nat)) (SqL.of hp9) rfl ?_
  walk_at "go"
  refine n_shl1 (by omega) ?_
  refine n_xor ?_
  walk_at "go"
  refine n_shl1 (by omega) ?_
  refine n_xor ?_
  walk_at "go"
  refine r_ixL (v := .int (wordN f false : Nat)) (SqL.of hp9) rfl ?_
  walk_at "go"
  refine n_shl1 (by omega) ?_
  refine n_xor ?_
  walk_at "go"
  refine n_shl1 (b := 47) (by decide) ?_
  walk_at "go"
  refine r_new (by simp) fun q1 hq1 => ?_
  walk_at "go"
  refine r_cat ((Ex.rf.up hq1) _ _ hp9) upd_same (by simp) fun q2 hq2 => ?_
  walk_at "go"
  have n1 := g9.ne hq1
  refine n_shl1 (b := 40) (by decide) ?_
  walk_at "go"
  have g11 := (g9.up hq1).up (o := .lst ([V.int (wordN f true : Nat), V.int (wordN f false : Nat), V.int (wordN f true : Nat)] ++ [V.int (wordN f true ^^^ 2 ^ i : Nat), V.int (wordN f true ^^^ 2 ^ i ^^^ 2 ^ j : Nat), V.int (wordN f false ^^^ 2 ^ i : Nat), V.int 0, V.int (((2 ^ 47 : Nat) : Int) - 1)])) hq2
  have n2 := (g9.up hq1).ne hq2
  refine draw g11 (by omega) (by omega) fun m0 H12 m1 m2 g12 g12' => ?_
  obtain ⟨m, rfl⟩ : ∃ m : Nat, m0 = (m : Int) := ⟨m0.toNat, by omega⟩
  walk_at "go"
  refine n_shl1 (b := 47) (by decide) ?_
  walk_at "go"
  refine draw g12 (by omega) (by omega) fun k0 H13 k1 k2 g13 g13' => ?_
  obtain ⟨k, rfl⟩ : ∃ k : Nat, k0 = (k : Int) := ⟨k0.toNat, by omega⟩
  walk_at "go"
  refine run__law_sealed (w := 40) (n := m) (by decide) (by decide) (by omega) fun H14 e14 => ?_
  walk_at "go"
  refine n_shl1 (b := 40) (by decide) ?_
  walk_at "go"
  refine n_shl1 (b := 40) (by decide) ?_
  walk_at "go"
  refine r_new (by simp) fun q3 hq3 => ?_
  walk_at "go"
  refine r_cat (((Ex.rf.up hq3) _ _ (e14 _ _ (g13'.keep q2 _ n2 (g12'.keep q2 _ n2 upd_same))))) upd_same (by simp) fun q4 hq4 => ?_
  walk_at "go"
  refine r_lc (r_iterL ?_)
  walk_at "go"
  refine ⟨q4, rfl, ⟨_, SqL.of upd_same⟩, ?_⟩
  intro D hD
  have sl := seal_lt (w := 40) (n := m) (by decide) (by decide) (by omega)
  rw [chk40] at sl
  have big : (2 : Nat) ^ 40 < 2 ^ 47 := by decide
  refine lc_lstT [some (.ref a), some (.ref b1), some (.str sh), some (.ref p), some (.int (i : Int)), some (.int (j : Int)), some (.ref q4), some (.int (m : Int)), none] rfl (fun _ => V.bl true) hD (by simp) (SqL.of upd_same) ?_ ?_
  · intro z hz H15 Qy e15 hQ
    obtain ⟨n, rfl, hn⟩ : ∃ n : Nat, z = .int (n : Int) ∧ n < 2 ^ 47 := by
      simp only [List.mem_append, List.mem_cons, List.not_mem_nil, or_false] at hz
      rcases hz with ((rfl | rfl | rfl) | (rfl | rfl | rfl | rfl | rfl)) | (rfl | rfl | rfl | rfl | rfl)
      · exact ⟨_, rfl, w1⟩
      · exact ⟨_, rfl, w2⟩
      · exact ⟨_, rfl, w1⟩
      · exact ⟨_, rfl, Nat.xor_lt_two_pow w1 pi⟩
      · exact ⟨_, rfl, Nat.xor_lt_two_pow (Nat.xor_lt_two_pow w1 pi) pj⟩
      · exact ⟨_, rfl, Nat.xor_lt_two_pow w2 pi⟩
      · exact ⟨0, rfl, by decide⟩
      · exact ⟨2 ^ 47 - 1, congrArg V.int (by omega), by omega⟩
      · exact ⟨k, rfl, by omega⟩
      · exact ⟨m, rfl, by omega⟩
      · exact ⟨_, rfl, sl⟩
      · exact ⟨2 ^ 40 - 1, congrArg V.int (by omega), by omega⟩
      · exact ⟨_, rfl, by omega⟩
    walk_at "go"
    refine ⟨rfl, ?_⟩
    walk_at "go"
    exact run__law_in_right pu hn fun H16 e16 => hQ _ e16
  · intro H15 e15 hl
    walk_at "go"
    refine r_all (bs := List.replicate 13 true) (SqL.of hl) ?_
    walk_at "go"
    exact h _ ((((g13.ex e14).up hq3).up hq4).ex e15)
end

section
variable {K : PySem.W.Frag} {H : Hp} {Q : VK} {E : XK}
theorem pure_law (pu : Pu K) {s : Addr} {ns : List Int} (hl : ns.length ≤ 63) (hb : ∀ z ∈ ns, Builtin.Int.intBits z ≤ 1048576) (hS : SqL K H s (ns.map V.int)) :
    sp_law K [.ref s] H (fun v _ => v = .bl true) fun _ _ _ => False := by
  refine ⟨rfl, ?_⟩
  show t_law K _ _ [some (.ref s), none, none, none] H
  unfold t_law
  walk_at "go"
  refine r_for (r_iRng ?_)
  walk_at "go"
  refine r_lenL hS ?_
  walk_at "go"
  rw [List.length_map]
  refine f_rng ?_ (fun i σ H' => ∃ o1 o2 o3 : Option V, σ = [some (.ref s), o1, o2, o3] ∧ Ex H H') ⟨none, none, none, rfl, Ex.rf⟩ ?_ ?_
  · constructor <;> split <;> split <;> omega
  · rintro i _ H1 hi ⟨o1, o2, o3, rfl, e1⟩
    walk_at "go"
    refine run__law_state (Evl.ex_l e1 hS) fun a H2 ha e2 s2 => ?_
    walk_at "go"
    refine r_for (r_iRng ?_)
    walk_at "go"
    refine f_rng (by decide) (fun j σ H' => ∃ o1 o3 : Option V, σ = [some (.ref s), o1, some (.ref a), o3] ∧ Fr a H2 H') ⟨_, _, rfl, Fr.rf s2⟩ ?_ ?_
    · rintro j _ H3 hj ⟨o1, o3, rfl, f3⟩
      walk_at "go"
      refine run__law_right pu f3.st fun H4 f4 => ?_
      walk_at "go"
      exact ⟨_, _, rfl, f3.trans f4⟩
    · rintro _ H3 ⟨o1, o3, rfl, f3⟩
      exact ⟨_, _, _, rfl, e1.trans (f3.out e2 ha)⟩
  · rintro _ H1 ⟨o1, o2, o3, rfl, e1⟩
    walk_at "go"
    rfl
end
end Fk
open PySem PySem.W PySem.Calls PyProof.Rows
set_option maxRecDepth 100000 in
set_option maxHeartbeats 8000000 in
theorem PySem.Challenge.cw_flashkeep_k06_words_of_fields_holds : PySem.Challenge.rw_flashkeep_k06_words_of_fields.Holds := by
  w_on; o_law
  refine HandSHeadRun.head_any (r := OpenLaw.row PySem.Challenge.rw_flashkeep_k06_words_of_fields) (q := view (OpenLaw.row PySem.Challenge.rw_flashkeep_k06_words_of_fields).prog [49]) (H := Fk.hk) (ob := Fk.ob) (M := 20000) (loose := Fk.loose) (d := HandSHeadRun.topDef (OpenLaw.row PySem.Challenge.rw_flashkeep_k06_words_of_fields).prog 49) (kwd := []) Fk.ob_eq
    (by kernel_rfl) (fun s => by kernel_rfl) Fk.run (by kernel_rfl) (by kernel_rfl) (by kernel_rfl) (by rfl) (by first | assumption | decide +kernel) (by decide +kernel) ⟨rfl, rfl, rfl, rfl, rfl, by decide +kernel⟩ ?hw ?hc
  case hw => w_witness2
  case hc =>
    refine Fk.walk_endG (l := PySem.Challenge.rw_flashkeep_k06_words_of_fields) (n := 63) (k := 9) (x := "_law_script") rfl (by decide) (by kernel_rfl) ⟨rfl, by decide, by decide⟩ ?_
    intro w mg fa h Y G hmg0
    obtain ⟨K, KX, c⟩ := Y
    have hmg : mg ("law" : PySem.Str) = some (.ref fa) := by
      have e : (HandSHeadRun.topDef (OpenLaw.row PySem.Challenge.rw_flashkeep_k06_words_of_fields).prog 49).name = ("law" : PySem.Str) := by kernel_rfl
      rw [← e]
      exact hmg0
    obtain ⟨pu, fd, hb, hF⟩ := Fk.facts (P := (PySem.Challenge.rw_flashkeep_k06_words_of_fields).prog) (w := w) KX G hmg c
    exact ⟨K, fd, Fk.sp_law K, KX, hb, fun H a ns hl hbits hS => Fk.pure_law pu hl hbits hS, hF⟩
