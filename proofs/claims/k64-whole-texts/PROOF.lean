import PyProof.Rows.All
import Wide.All
import OpenK.AllK
import Wide.FinOn
import KE.KStateDown
import KE.GoesEnum
import HandS.ForMost
import HandS.Exc
import HandS.Defaults
import HandS.IsInst
import HandS.Head0
import HandS.Head1
import HandS.Head2
import HandS.HeadEnd
import HandS.HeadHook1
import HandS.HeadHook2
import HandS.HeadHook4
import HandS.EndTab
import HandS.ExcIs
import HandS.ExcCtx
import HandS.Lambda
import PySem.Challenge.RW_flashkeep_k64_whole_texts
import Lean
import HandS.TryOnly
import HandS.TryMany
import HandS.ExcOwn
import HandS.WordsExc
import HandS.Wide
import HandS.Style
import HandS.Zip
import HandS.TupAny
import HandS.Flow
import HandS.Deep
import HandS.More
import HandS.SetKeys
import HandS.CallSlots
import HandS.EndBits
import HandS.Evl
import PyProof.ReprRoads
import PyProof.ReprLen
import HandS.Strs
import PyProof.Rows.IntBool
import HandS.TupMul
import HandS.HotCalls
import HandS.SortInts
import KE.KTryMore
import HandS.SetFor
import HandS.TupSets
import KE.DataMinMax
import HandS.RevTup
import HandS.MakeKw
import HandS.MakeKwOnly
import HandS.SetBool
import HandS.ListItems
import HandS.Conv
import HandS.DictComp
import HandS.Text
import HandS.FStr
import HandS.RaiseMore
import KE.KDictZip
import KE.KUnpackStar
set_option Elab.async false
set_option linter.all false
set_option maxRecDepth 100000
set_option maxHeartbeats 4000000
/-! ## what the head's run is looked at by -/
namespace Fk
open PySem PySem.Spec PyProof.Rows L2 LamX
def obsK (fa : List He.Fa) (fn : List He.DefD) (ex : PySem.W.Frag → Bool) (K : PySem.W.Frag) : He.AlD × Bool := (He.obsD fa fn K, ex K)
def exccB (K : PySem.W.Frag) (x : Str) : Bool :=
  decide (PySem.W.findIn K (.ref (He.ga K x)) "__getattribute__" = some (some (.builtin "BaseException.__getattribute__"))) && decide (PySem.W.findIn K (.ref (He.ga K x)) "__getattr__" = some none)
    && decide (PySem.W.subIn K (.ref (He.ga K x)) (.type "BaseException") = some true) && PySem.W.hasDictIn K (He.ga K x)
    && decide (PySem.W.findIn K (.ref (He.ga K x)) "__class__" = some (some (.builtin "object.__class__")))
    && decide (PySem.W.specialIn K (.builtin "object.__class__") "__get__" = some (some (.builtin "getset_descriptor.__get__")))
    && decide (PySem.W.takesIn K (.builtin "object.__class__") = some true) && decide (PySem.W.mroIn K (He.ga K x) (.type "object") = some true)
def isEB (K : PySem.W.Frag) (u : Value) (U cs : List Str) : Bool := U.all fun c => decide (PySem.W.kitOne K (.ref (He.ga K c)) u = some (decide (c ∈ cs)))
def excmB (K : PySem.W.Frag) (C : Str) (U cs : List Str) : Bool := U.all fun c => decide (PySem.W.exmOne K (.ref (He.ga K c)) (.ref (He.ga K C)) = some (decide (c ∈ cs)))
def isRefV (P : Addr) : Value → Bool
  | .ref a => decide (a = P)
  | _ => false
def isStrV : Value → Bool
  | .str _ _ => true
  | _ => false
def isIntV : Value → Bool
  | .int _ _ => true
  | _ => false
def isBoolV : Value → Bool
  | .bool _ => true
  | _ => false
theorem isRefV_ok {P : Addr} {v : Value} (h : isRefV P v = true) : v = .ref P := by
  cases v with
  | ref a => rw [of_decide_eq_true h]
  | _ => cases h
theorem isStrV_ok {v : Value} (h : isStrV v = true) : ∃ x t, v = .str x t := by
  cases v with
  | str x t => exact ⟨x, t, rfl⟩
  | _ => cases h
theorem isIntV_ok {v : Value} (h : isIntV v = true) : ∃ x t, v = .int x t := by
  cases v with
  | int x t => exact ⟨x, t, rfl⟩
  | _ => cases h
theorem isBoolV_ok {v : Value} (h : isBoolV v = true) : ∃ x, v = .bool x := by
  cases v with
  | bool x => exact ⟨x, rfl⟩
  | _ => cases h
def isTyV (t : String) : Value → Bool
  | .type x => decide (x = t)
  | _ => false
theorem isTyV_ok {t : String} {v : Value} (h : isTyV t v = true) : v = .type t := by
  cases v with
  | type x => rw [of_decide_eq_true h]
  | _ => cases h
def fldOf : Data → Option (Array Value)
  | .fields vs => some vs
  | _ => none
theorem fldOf_ok {d : Data} {vs : Array Value} (h : fldOf d = some vs) : d = .fields vs := by
  cases d with
  | fields v => rw [Option.some.inj h]
  | _ => cases h
def funOf : Data → Option FuncData
  | .func fd => some fd
  | _ => none
def refOf : Value → Option Addr
  | .ref a => some a
  | _ => none
/-- the code object of a def and its table -/
def tabOf (K : PySem.W.Frag) (f : Addr) : Addr × Addr := match (K.lookup f).bind fun o => (funOf o.data).bind fun fd => refOf fd.code with
  | some c => match (K.lookup c).bind fun o => (fldOf o.data).bind fun vs => (vs[11]?).bind refOf with
    | some P => (c, P)
    | none => (c, 0)
  | none => (0, 0)
abbrev mkr (K : PySem.W.Frag) (x : Str) : Addr × Addr := tabOf K (He.ga K x)
def tabsOf (K : PySem.W.Frag) (xs : List Str) : List (Addr × Str) := xs.map fun x => ((mkr K x).2, x ++ ".<locals>." ++ "<lambda>")
def tabsU (K : PySem.W.Frag) (xs : List Str) (x : Str) : Bool := (tabsOf K xs).all fun y => decide (y.1 ≠ (mkr K x).2) || decide (y.2 = x ++ ".<locals>." ++ "<lambda>")
theorem tabsU_ok {K : PySem.W.Frag} {xs : List Str} {x : Str} (h : tabsU K xs x = true) : ∀ y ∈ tabsOf K xs, y.1 = (mkr K x).2 → y.2 = x ++ ".<locals>." ++ "<lambda>" := fun y hy e => by
  have q := List.all_eq_true.mp h y hy
  rw [Bool.or_eq_true] at q
  rcases q with q | q
  · exact absurd e (of_decide_eq_true q)
  · exact of_decide_eq_true q
theorem tabs_mem {K : PySem.W.Frag} {xs : List Str} {x : Str} (h : x ∈ xs) : ((mkr K x).2, x ++ ".<locals>." ++ "<lambda>") ∈ tabsOf K xs := List.mem_map.mpr ⟨x, h, rfl⟩
/-- the def's code object is told by a reference -/
def codB (K : PySem.W.Frag) (f : Addr) : Bool := ((K.lookup f).bind fun o => (funOf o.data).bind fun fd => refOf fd.code).isSome
theorem codB_ok {K : PySem.W.Frag} {f : Addr} {oc : Value} {od : Option Addr} {fd : FuncData} {osl : Array (Option Value)} (h : codB K f = true) (lk : K.lookup f = some ⟨oc, od, .func fd, osl⟩) : fd.code = .ref (tabOf K f).1 := by
  unfold codB at h
  unfold tabOf
  rw [lk, Option.bind_some, funOf, Option.bind_some] at h ⊢
  cases e : fd.code with
  | ref c =>
    simp only [refOf]
    split <;> rfl
  | _ => rw [e] at h; cases h
/-! ### the head: all objects but empty tables -/
def isTb1 (o : Obj) : Bool := decide (o.cls = .none) && o.dict.isNone && (match fldOf o.data with
  | some vs => decide (vs.size = 0)
  | none => false) && decide (o.slots.size = 0)
def isTb : Option Obj → Bool
  | some o => isTb1 o
  | none => false
theorem isTb_ok {o : Option Obj} (h : isTb o = true) : o = some { cls := .none, data := .fields #[] } := by
  cases o with
  | none => cases h
  | some o =>
    obtain ⟨c, d, dt, sl⟩ := o
    have h : isTb1 ⟨c, d, dt, sl⟩ = true := h
    unfold isTb1 at h
    simp only [Bool.and_eq_true, decide_eq_true_eq] at h
    obtain ⟨⟨⟨h1, h2⟩, h3⟩, h4⟩ := h
    subst h1
    obtain rfl := Option.isNone_iff_eq_none.mp h2
    obtain rfl := Array.size_eq_zero_iff.mp h4
    cases ef : fldOf dt with
    | none => rw [ef] at h3; cases h3
    | some vs =>
      rw [ef] at h3
      simp only [decide_eq_true_eq] at h3
      obtain rfl := Array.size_eq_zero_iff.mp h3
      obtain rfl := fldOf_ok ef
      rfl
/-- the code object at c, its table at P -/
def cdHB (K : PySem.W.Frag) (c P : Addr) : Bool := match K.lookup c with
  | some o => isTyV "code" o.cls && (match fldOf o.data with
    | some vs => (match vs[11]? with
      | some v => isRefV P v
      | none => false) && isRefV P (vs.getD 11 .none) && isStrV (vs.getD 18 .none) && isIntV (vs.getD 7 .none) && isBoolV (vs.getD 9 .none) && isIntV (vs.getD 10 .none) && decide (c ≠ P)
    | none => false)
  | none => false
theorem cdHB_ok {K : PySem.W.Frag} {c P : Addr} {h : Heap} (X : K.In h) (hb : cdHB K c P = true) : PySem.W.CodeHd h c P := by
  unfold cdHB at hb
  cases lk : K.lookup c with
  | none => rw [lk] at hb; cases hb
  | some o =>
    rw [lk] at hb
    simp only at hb
    cases ef : fldOf o.data with
    | none => rw [ef, Bool.and_false] at hb; cases hb
    | some vs =>
      rw [ef] at hb
      simp only at hb
      cases e11 : vs[11]? with
      | none => rw [e11] at hb; simp at hb
      | some v =>
        rw [e11] at hb
        simp only [Bool.and_eq_true, decide_eq_true_eq] at hb
        obtain ⟨h0, ⟨⟨⟨⟨⟨⟨h1, h2⟩, h3⟩, h4⟩, h5⟩, h6⟩, h7⟩⟩ := hb
        obtain ⟨x3, t3, e3⟩ := isStrV_ok h3
        obtain ⟨x4, t4, e4⟩ := isIntV_ok h4
        obtain ⟨x5, e5⟩ := isBoolV_ok h5
        obtain ⟨x6, t6, e6⟩ := isIntV_ok h6
        exact ⟨o, vs, x3, t3, x4, t4, x5, x6, t6, X _ _ lk, isTyV_ok h0, fldOf_ok ef, by rw [e11, isRefV_ok h1], isRefV_ok h2, e3, e4, e5, e6, h7⟩
def tbB (g : Addr → Option Obj) (K : PySem.W.Frag) (xs : List Str) : Bool := xs.all fun x => isTb (g (mkr K x).2) && (K.lookup (mkr K x).2).isNone && cdHB K (mkr K x).1 (mkr K x).2
theorem tbB_ok {h : Heap} {K : PySem.W.Frag} {xs : List Str} (X : K.In h) (t : tbB h.get? K xs = true) : (∀ p ∈ xs.map (mkr K), h.get? p.2 = some { cls := .none, data := .fields #[] }) ∧ (∀ p ∈ xs.map (mkr K), K.lookup p.2 = none) ∧ (∀ p ∈ xs.map (mkr K), PySem.W.CodeHd h p.1 p.2) := by
  have one : ∀ p ∈ xs.map (mkr K), h.get? p.2 = some { cls := .none, data := .fields #[] } ∧ K.lookup p.2 = none ∧ PySem.W.CodeHd h p.1 p.2 := fun p hp => by
    obtain ⟨x, hx, rfl⟩ := List.mem_map.mp hp
    have q := List.all_eq_true.mp t x hx
    rw [Bool.and_eq_true, Bool.and_eq_true] at q
    exact ⟨isTb_ok q.1.1, Option.isNone_iff_eq_none.mp q.1.2, cdHB_ok X q.2⟩
  exact ⟨fun p hp => (one p hp).1, fun p hp => (one p hp).2.1, fun p hp => (one p hp).2.2⟩

def hookB (L : List Addr) (mk : List Str) (fa : List He.Fa) (fn : List He.DefD) (ex : PySem.W.Frag → Bool) : PySem.W.Hook where
  α := He.AlD × Bool
  obs := fun s => let K := He.frG s.heap.get? L; ((obsK fa fn ex K).1, (obsK fa fn ex K).2 && tbB s.heap.get? K mk)
  val := fun _ => (He.valD fn, true)
  says := fun _ h => ∃ K : PySem.W.Frag, K.In h ∧ obsK fa fn ex K = (He.valD fn, true) ∧ tbB h.get? K mk = true
  of := fun _ s e => by
    refine ⟨He.frG s.heap.get? L, He.frG_in, ?_⟩
    have e1 := congrArg (fun z : He.AlD × Bool => z.1) e
    have e2 := congrArg (fun z : He.AlD × Bool => z.2) e
    simp only [Bool.and_eq_true] at e2
    exact ⟨Prod.ext e1 e2.1, e2.2⟩
  keeps := fun _ h h' ⟨K, hK, c, t⟩ k => ⟨K, PySem.W.Frag.In.keeps hK k, c, List.all_eq_true.mpr fun x hx => by
    have q := List.all_eq_true.mp t x hx
    rw [Bool.and_eq_true, Bool.and_eq_true] at q ⊢
    refine ⟨⟨?_, q.1.2⟩, q.2⟩
    have e := isTb_ok q.1.1
    rw [k _ _ e]
    rfl⟩
noncomputable def obB (L : List Addr) (mk : List Str) (fa : List He.Fa) (fn : List He.DefD) (ex : PySem.W.Frag → Bool) (s : PySem.W.SharedT) : He.AlD × Bool :=
  let K := He.frG (HandSHeadRun.getT s) L; ((obsK fa fn ex K).1, (obsK fa fn ex K).2 && tbB (HandSHeadRun.getT s) K mk)
theorem obB_eq (L : List Addr) (mk : List Str) (fa : List He.Fa) (fn : List He.DefD) (ex : PySem.W.Frag → Bool) (s : PySem.W.SharedT) : obB L mk fa fn ex s = (hookB L mk fa fn ex).obs s.abs := by
  have e : HandSHeadRun.getT s = s.abs.heap.get? := funext (HandSHeadRun.getT_eq s)
  unfold obB
  rw [e]
  rfl
section
variable {x : Option PySem.W.SharedT} {L : List Addr} {mk : List Str} {fa : List He.Fa} {fn : List He.DefD} {ex : PySem.W.Frag → Bool} {β γ : Type} {f1 : PySem.W.SharedT → β} {f2 : PySem.W.SharedT → γ} {a : β} {b : γ}
theorem run_B (h1 : x.map (fun s => (f1 s, f2 s)) = some (a, b)) (h2 : x.map (fun s => (fa.all fun f => f.ok (He.frG (HandSHeadRun.getT s) L), ex (He.frG (HandSHeadRun.getT s) L) && tbB (HandSHeadRun.getT s) (He.frG (HandSHeadRun.getT s) L) mk)) = some (true, true))
    (h3 : x.map (fun s => (fn.all fun d => d.ok (He.frG (HandSHeadRun.getT s) L), fn.map fun d => He.fnW (He.frG (HandSHeadRun.getT s) L) d.at_)) = some (true, fn.map He.DefD.val)) : x.map (fun s => (f1 s, f2 s, obB L mk fa fn ex s)) = some (a, b, (He.valD fn, true)) := by
  cases x with
  | none => cases h1
  | some s =>
    simp only [Option.map_some, Option.some.injEq, Prod.mk.injEq] at h1 h2 h3 ⊢
    refine ⟨h1.1, h1.2, ?_⟩
    show ((((fa.all fun f => f.ok (He.frG (HandSHeadRun.getT s) L)) && fn.all fun d => d.ok (He.frG (HandSHeadRun.getT s) L)), fn.map fun d => He.fnW (He.frG (HandSHeadRun.getT s) L) d.at_), (ex (He.frG (HandSHeadRun.getT s) L) && tbB (HandSHeadRun.getT s) (He.frG (HandSHeadRun.getT s) L) mk)) = ((true, fn.map He.DefD.val), true)
    rw [h2.1, h2.2, h3.1, h3.2]
    rfl
end
end Fk
namespace Fk
namespace Hd
open PySem PySem.Spec PyProof.Rows L2
def adr0 : List Nat := [3, 24, 37, 49, 61, 73, 85, 97, 109, 121, 133, 145, 157, 169, 181, 193, 205, 217, 229, 241, 253, 265, 277, 289, 23, 36, 48, 60, 72, 84, 96, 108, 120, 132, 144, 156, 168, 180, 192, 204]
def adr1 : List Nat := [216, 228, 240, 252, 264, 276, 288, 6, 4, 311, 312, 298, 297, 305, 304, 310, 309, 319, 318, 324, 323, 331, 330, 338, 337, 345, 344, 350, 349, 357, 356, 362, 361, 369, 368, 374, 373, 379, 378, 384]
def adr2 : List Nat := [383, 391, 390, 398, 397, 405, 404, 410, 409, 417, 416, 424, 423, 431, 430, 438, 437, 445, 444, 452, 451, 457, 456, 464, 463, 469, 468, 474, 473, 481, 480]
def adr : List Nat := adr0 ++ adr1 ++ adr2
def excUh : List Str := ["FlashError", "NoWidth", "NoNumber", "NoWord", "NoFields", "NoWeather", "NoBlock", "NoPage", "NoPlan", "NoFlash", "NoOrder", "NoOrders", "NoPlace", "NoPaper", "NoText", "NoLine", "Off", "Written", "Bad", "Spoilt", "NoRoom", "Worn", "Over"]
def top (i : Nat) : Stmt := PySem.Challenge.pw_flashkeep_k64_whole_texts.main.body.getD i (.Pass ⟨0, 0, 0, 0⟩)
abbrev z_is_whole : Stmt := top 25
abbrev z_is_within : Stmt := top 26
abbrev z_rises : Stmt := top 27
abbrev z_is_fault : Stmt := top 36
abbrev z_is_weather : Stmt := top 37
abbrev z_need_weather : Stmt := top 38
abbrev z_is_place : Stmt := top 46
abbrev z_is_row : Stmt := top 47
abbrev z_are_rows : Stmt := top 48
abbrev z_has_shape : Stmt := top 49
abbrev z_written : Stmt := top 50
abbrev z_order_text : Stmt := top 51
abbrev z_weather_text : Stmt := top 52
abbrev z_number_in : Stmt := top 53
abbrev z_numbers_in : Stmt := top 54
abbrev z_order_in : Stmt := top 55
abbrev z_fault_in : Stmt := top 56
abbrev z_read_order : Stmt := top 57
abbrev z_read_weather : Stmt := top 58
abbrev z__law_cell_at : Stmt := top 60
abbrev z__law_state : Stmt := top 61
abbrev z__law_choice : Stmt := top 62
abbrev z__law_order : Stmt := top 63
abbrev z__law_marks : Stmt := top 64
abbrev z__law_said : Stmt := top 65
abbrev z__law_any_weather : Stmt := top 66
abbrev z__law_any_order : Stmt := top 67
abbrev z__law_again : Stmt := top 68
abbrev z__law_right : Stmt := top 69
abbrev z_law : Stmt := top 70
def mk : List Str := ["_law_again"]
def dd_is_whole : He.DefD := ⟨("is_whole", none), "is_whole", "is_whole", defArgs z_is_whole, defBody z_is_whole, defScope z_is_whole, [], []⟩
def dd_is_within : He.DefD := ⟨("is_within", none), "is_within", "is_within", defArgs z_is_within, defBody z_is_within, defScope z_is_within, [], []⟩
def dd_rises : He.DefD := ⟨("rises", none), "rises", "rises", defArgs z_rises, defBody z_rises, defScope z_rises, [], []⟩
def dd_is_fault : He.DefD := ⟨("is_fault", none), "is_fault", "is_fault", defArgs z_is_fault, defBody z_is_fault, defScope z_is_fault, [], []⟩
def dd_is_weather : He.DefD := ⟨("is_weather", none), "is_weather", "is_weather", defArgs z_is_weather, defBody z_is_weather, defScope z_is_weather, [], []⟩
def dd_need_weather : He.DefD := ⟨("need_weather", none), "need_weather", "need_weather", defArgs z_need_weather, defBody z_need_weather, defScope z_need_weather, [], []⟩
def dd_is_place : He.DefD := ⟨("is_place", none), "is_place", "is_place", defArgs z_is_place, defBody z_is_place, defScope z_is_place, [], []⟩
def dd_is_row : He.DefD := ⟨("is_row", none), "is_row", "is_row", defArgs z_is_row, defBody z_is_row, defScope z_is_row, [], []⟩
def dd_are_rows : He.DefD := ⟨("are_rows", none), "are_rows", "are_rows", defArgs z_are_rows, defBody z_are_rows, defScope z_are_rows, [], []⟩
def dd_has_shape : He.DefD := ⟨("has_shape", none), "has_shape", "has_shape", defArgs z_has_shape, defBody z_has_shape, defScope z_has_shape, [], []⟩
def dd_written : He.DefD := ⟨("written", none), "written", "written", defArgs z_written, defBody z_written, defScope z_written, [], []⟩
def dd_order_text : He.DefD := ⟨("order_text", none), "order_text", "order_text", defArgs z_order_text, defBody z_order_text, defScope z_order_text, [], []⟩
def dd_weather_text : He.DefD := ⟨("weather_text", none), "weather_text", "weather_text", defArgs z_weather_text, defBody z_weather_text, defScope z_weather_text, [], []⟩
def dd_number_in : He.DefD := ⟨("number_in", none), "number_in", "number_in", defArgs z_number_in, defBody z_number_in, defScope z_number_in, [], []⟩
def dd_numbers_in : He.DefD := ⟨("numbers_in", none), "numbers_in", "numbers_in", defArgs z_numbers_in, defBody z_numbers_in, defScope z_numbers_in, [], []⟩
def dd_order_in : He.DefD := ⟨("order_in", none), "order_in", "order_in", defArgs z_order_in, defBody z_order_in, defScope z_order_in, [], []⟩
def dd_fault_in : He.DefD := ⟨("fault_in", none), "fault_in", "fault_in", defArgs z_fault_in, defBody z_fault_in, defScope z_fault_in, [], []⟩
def dd_read_order : He.DefD := ⟨("read_order", none), "read_order", "read_order", defArgs z_read_order, defBody z_read_order, defScope z_read_order, [], []⟩
def dd_read_weather : He.DefD := ⟨("read_weather", none), "read_weather", "read_weather", defArgs z_read_weather, defBody z_read_weather, defScope z_read_weather, [], []⟩
def dd__law_cell_at : He.DefD := ⟨("_law_cell_at", none), "_law_cell_at", "_law_cell_at", defArgs z__law_cell_at, defBody z__law_cell_at, defScope z__law_cell_at, [], []⟩
def dd__law_state : He.DefD := ⟨("_law_state", none), "_law_state", "_law_state", defArgs z__law_state, defBody z__law_state, defScope z__law_state, [], []⟩
def dd__law_choice : He.DefD := ⟨("_law_choice", none), "_law_choice", "_law_choice", defArgs z__law_choice, defBody z__law_choice, defScope z__law_choice, [], []⟩
def dd__law_order : He.DefD := ⟨("_law_order", none), "_law_order", "_law_order", defArgs z__law_order, defBody z__law_order, defScope z__law_order, [], []⟩
def dd__law_marks : He.DefD := ⟨("_law_marks", none), "_law_marks", "_law_marks", defArgs z__law_marks, defBody z__law_marks, defScope z__law_marks, [], []⟩
def dd__law_said : He.DefD := ⟨("_law_said", none), "_law_said", "_law_said", defArgs z__law_said, defBody z__law_said, defScope z__law_said, [], []⟩
def dd__law_any_weather : He.DefD := ⟨("_law_any_weather", none), "_law_any_weather", "_law_any_weather", defArgs z__law_any_weather, defBody z__law_any_weather, defScope z__law_any_weather, [], []⟩
def dd__law_any_order : He.DefD := ⟨("_law_any_order", none), "_law_any_order", "_law_any_order", defArgs z__law_any_order, defBody z__law_any_order, defScope z__law_any_order, [], []⟩
def dd__law_again : He.DefD := ⟨("_law_again", none), "_law_again", "_law_again", defArgs z__law_again, defBody z__law_again, defScope z__law_again, [], []⟩
def dd__law_right : He.DefD := ⟨("_law_right", none), "_law_right", "_law_right", defArgs z__law_right, defBody z__law_right, defScope z__law_right, [], []⟩
def dd_law : He.DefD := ⟨("law", none), "law", "law", defArgs z_law, defBody z_law, defScope z_law, [], []⟩
def fn : List He.DefD := [dd_is_whole, dd_is_within, dd_rises, dd_is_fault, dd_is_weather, dd_need_weather, dd_is_place, dd_is_row, dd_are_rows, dd_has_shape, dd_written, dd_order_text, dd_weather_text, dd_number_in, dd_numbers_in, dd_order_in, dd_fault_in, dd_read_order, dd_read_weather, dd__law_cell_at, dd__law_state, dd__law_choice, dd__law_order, dd__law_marks, dd__law_said, dd__law_any_weather, dd__law_any_order, dd__law_again, dd__law_right, dd_law]
def fa : List He.Fa := [.free "ValueError", .free "all", .free "bool", .free "int", .free "isinstance", .free "len", .free "list", .free "max", .free "min", .free "range", .free "repr", .free "sorted", .free "str", .free "tuple", .free "zip", .glo "BAD", .str "BETWEEN" ":", .str "BIT" "bit", .glo "CUT", .str "FIGURES" "0123456789", .int "MOST_DATA" 63, .int "MOST_FAULTS" 40, .int "MOST_FIGURES" 9, .int "MOST_PLACE" 15, .int "MOST_ROWS" 4, .int "MOST_STEP" 9999, .str "NONE" "-", .int "WORD_BITS" 47, .exc "Bad", .glo "Bad", .exc "FlashError", .glo "FlashError", .exc "NoBlock", .glo "NoBlock", .exc "NoFields", .glo "NoFields", .exc "NoFlash", .glo "NoFlash", .exc "NoLine", .glo "NoLine", .exc "NoNumber", .glo "NoNumber", .exc "NoOrder", .glo "NoOrder", .exc "NoOrders", .glo "NoOrders", .exc "NoPage", .glo "NoPage", .exc "NoPaper", .glo "NoPaper", .exc "NoPlace", .glo "NoPlace", .exc "NoPlan", .glo "NoPlan", .exc "NoRoom", .glo "NoRoom", .exc "NoText", .glo "NoText", .exc "NoWeather", .glo "NoWeather", .exc "NoWidth", .glo "NoWidth", .exc "NoWord", .glo "NoWord", .exc "Off", .glo "Off", .exc "Over", .glo "Over", .exc "Spoilt", .glo "Spoilt", .exc "Worn", .glo "Worn", .exc "Written", .glo "Written", .glo "is_whole", .glo "is_within", .glo "rises", .glo "is_fault", .glo "is_weather", .glo "need_weather", .glo "is_place", .glo "is_row", .glo "are_rows", .glo "has_shape", .glo "written", .glo "order_text", .glo "weather_text", .glo "number_in", .glo "numbers_in", .glo "order_in", .glo "fault_in", .glo "read_order", .glo "read_weather", .glo "_law_cell_at", .glo "_law_state", .glo "_law_choice", .glo "_law_order", .glo "_law_marks", .glo "_law_said", .glo "_law_any_weather", .glo "_law_any_order", .glo "_law_again", .glo "_law_right", .glo "law"]
def ex (K : PySem.W.Frag) : Bool := (He.tupB K "BAD" [.str "bad"]) && (He.tupB K "CUT" [.str "cut"]) && (excmB K "FlashError" excUh ["FlashError", "NoWidth", "NoNumber", "NoWord", "NoFields", "NoWeather", "NoBlock", "NoPage", "NoPlan", "NoFlash", "NoOrder", "NoOrders", "NoPlace", "NoPaper", "NoText", "NoLine", "Off", "Written", "Bad", "Spoilt", "NoRoom", "Worn", "Over"]) && (excUh.all (exccB K)) && (isEB K (.ref (He.ga K "Bad")) excUh ["Bad"]) && (isEB K (.ref (He.ga K "NoBlock")) excUh ["NoBlock"]) && (isEB K (.ref (He.ga K "NoFields")) excUh ["NoFields"]) && (isEB K (.ref (He.ga K "NoFlash")) excUh ["NoFlash"]) && (isEB K (.ref (He.ga K "NoLine")) excUh ["NoLine"]) && (isEB K (.ref (He.ga K "NoNumber")) excUh ["NoNumber"]) && (isEB K (.ref (He.ga K "NoOrder")) excUh ["NoOrder"]) && (isEB K (.ref (He.ga K "NoOrders")) excUh ["NoOrders"]) && (isEB K (.ref (He.ga K "NoPage")) excUh ["NoPage"]) && (isEB K (.ref (He.ga K "NoPaper")) excUh ["NoPaper"]) && (isEB K (.ref (He.ga K "NoPlace")) excUh ["NoPlace"]) && (isEB K (.ref (He.ga K "NoPlan")) excUh ["NoPlan"]) && (isEB K (.ref (He.ga K "NoRoom")) excUh ["NoRoom"]) && (isEB K (.ref (He.ga K "NoText")) excUh ["NoText"]) && (isEB K (.ref (He.ga K "NoWeather")) excUh ["NoWeather"]) && (isEB K (.ref (He.ga K "NoWidth")) excUh ["NoWidth"]) && (isEB K (.ref (He.ga K "NoWord")) excUh ["NoWord"]) && (isEB K (.ref (He.ga K "Off")) excUh ["Off"]) && (isEB K (.ref (He.ga K "Over")) excUh ["Over"]) && (isEB K (.ref (He.ga K "Spoilt")) excUh ["Spoilt"]) && (isEB K (.type "ValueError") excUh ["FlashError", "NoWidth", "NoNumber", "NoWord", "NoFields", "NoWeather", "NoBlock", "NoPage", "NoPlan", "NoFlash", "NoOrder", "NoOrders", "NoPlace", "NoPaper", "NoText", "NoLine", "Off", "Written", "Bad", "Spoilt", "NoRoom", "Worn", "Over"]) && (isEB K (.ref (He.ga K "Worn")) excUh ["Worn"]) && (isEB K (.ref (He.ga K "Written")) excUh ["Written"]) && (tabsU K mk "_law_again") && (codB K (He.ga K "_law_again")) && true
abbrev R : PySem.W.OpenRow := PySem.W.OpenLaw.row PySem.Challenge.rw_flashkeep_k64_whole_texts
abbrev hk : PySem.W.Hook := hookB adr mk fa fn ex
noncomputable abbrev ob : PySem.W.SharedT → He.AlD × Bool := obB adr mk fa fn ex
def loose0 : List Str := ["FlashError", "NoWidth", "NoNumber", "NoWord", "NoFields", "NoWeather", "NoBlock", "NoPage", "NoPlan", "NoFlash", "NoOrder", "NoOrders", "NoPlace", "NoPaper", "NoText", "NoLine", "Off", "Written", "Bad", "Spoilt", "NoRoom", "Worn", "Over", "is_whole", "is_within"]
def loose1 : List Str := ["rises", "MOST_PLACE", "MOST_DATA", "WORD_BITS", "MOST_FAULTS", "MOST_STEP", "CUT", "BAD", "is_fault", "is_weather", "need_weather", "FIGURES", "MOST_FIGURES", "MOST_ROWS", "NONE", "BETWEEN", "BIT", "is_place", "is_row", "are_rows", "has_shape", "written", "order_text", "weather_text", "number_in"]
def loose2 : List Str := ["numbers_in", "order_in", "fault_in", "read_order", "read_weather", "_law_cell_at", "_law_state", "_law_choice", "_law_order", "_law_marks", "_law_said", "_law_any_weather", "_law_any_order", "_law_again", "_law_right"]
def loose : List Str := loose0 ++ loose1 ++ loose2
noncomputable abbrev endR (w : World) (os : OsState) : Option PySem.W.SharedT := HandSHeadRun.endF (HandSHeadRun.stepQ (HandSHeadRun.denQ HandSHeadRun.tabQ) R.prog w) 20000 R.prog w os
theorem run1 (w : World) (os : OsState) : (endR w os).map (fun s => (HandSHeadRun.looksF R.prog (PySem.W.boot_heap w.params) s.abs, HandSHeadRun.seenQ (PySem.W.view R.prog [70]) loose (importedModules R.prog.main.body) (fun s => PySem.W.xlAt (PySem.W.view R.prog [70]) [] s && PySem.W.recOk R.toRowW.records s) s.abs)) = some (true, PySem.W.openGood (PySem.W.view R.prog [70]) loose) := by
  kernel_rfl
theorem run2 (w : World) (os : OsState) : (endR w os).map (fun s => (fa.all fun f => f.ok (He.frG (HandSHeadRun.getT s) adr), ex (He.frG (HandSHeadRun.getT s) adr) && tbB (HandSHeadRun.getT s) (He.frG (HandSHeadRun.getT s) adr) mk)) = some (true, true) := by
  kernel_rfl
theorem run3 (w : World) (os : OsState) : (endR w os).map (fun s => (fn.all fun d => d.ok (He.frG (HandSHeadRun.getT s) adr), fn.map fun d => He.fnW (He.frG (HandSHeadRun.getT s) adr) d.at_)) = some (true, fn.map He.DefD.val) := by
  kernel_rfl
theorem run (w : World) : HandSHeadRun.RunEq R (PySem.W.view R.prog [70]) hk ob 20000 loose w := fun os => run_B (run1 w os) (run2 w os) (run3 w os)
end Hd
end Fk
namespace Fk
open PySem PySem.Spec PyProof.Rows L2

section
variable {X : Cx} {k j : Nat} {x : Str} {ps : List Str} {dvs : List V} {sp : Sp} {E : XK} {p pos : Pos} {e : Expr} {es : List Expr} {t u : TA}
/-- either reading serves -/
theorem pe_or {ex : Expr} {a b : TE} (h1 : PE X ex a) (h2 : PE X ex b) : PE X ex (fun σ H Q => a σ H Q ∨ b σ H Q) :=
  ⟨fun pins s σ H Q I h => h.elim (fun q => h1.run pins s σ H Q I q) (fun q => h2.run pins s σ H Q I q)⟩
theorem pi_or {tg it : Expr} {a b : TI} (h1 : PI X tg it a) (h2 : PI X tg it b) : PI X tg it (fun σ H R => a σ H R ∨ b σ H R) :=
  ⟨fun pins s σ H R I h => h.elim (fun q => h1.run pins s σ H R I q) (fun q => h2.run pins s σ H R I q)⟩
end

/-! ### operators, whatever the operands are -/
def uAdd (K : PySem.W.Frag) : R2 := fun x y H Q => (∃ i j, x = .int i ∧ y = .int j ∧ Q (.int (i + j)) H) ∨
  ((∃ i j, x = .str i ∧ y = .str j ∧ i.length + j.length ≤ sizeLine ∧ Q (.str (i ++ j)) H) ∨ (rCat x y H Q ∨ rCatA K x y H Q))
def uSub : R2 := rI0 fun i j => .int (i - j)
def uMul (K : PySem.W.Frag) : R2 := fun x y H Q => (rI CMul fun i j => .int (i * j)) x y H Q ∨ (rRep x y H Q)
def uFdv : R2 := fun x y H Q => (rI CDiv fun i j => .int (i / j)) x y H Q ∨ (rI CDivW fun i j => .int (i / j)) x y H Q
def uMod : R2 := rI (fun _ j => 0 < j) fun i j => .int (i % j)
def uPow : R2 := rI CPow fun i j => .int (i ^ j.toNat)
def uLt : R2 := rI0 fun i j => .bl (decide (i < j))
def uLe : R2 := rI0 fun i j => .bl (decide (i ≤ j))
def uGt : R2 := rI0 fun i j => .bl (decide (j < i))
def uEq (K : PySem.W.Frag) : R2 := fun x y H Q => rEq x y H Q ∨ rEqD K x y H Q
def uNe (K : PySem.W.Frag) : R2 := fun x y H Q => rNe x y H Q ∨ rNeD K x y H Q
def uIsN : R2 := fun x y H Q => (y = .non ∧ Q (.bl (decide (x = .non))) H) ∨ (∃ a b, x = .bl a ∧ y = .bl b ∧ Q (.bl (decide (a = b))) H)
section
variable {X : Cx}
theorem o_add : OpR X (binaryOp .Add) (uAdd X.K) := op_add.or (op_add_str.or (op_cat.or op_catA))
theorem o_sub : OpR X (binaryOp .Sub) uSub := op_sub
theorem o_mul : OpR X (binaryOp .Mult) (uMul X.K) := op_mul.or op_rep
theorem o_fdv : OpR X (binaryOp .FloorDiv) uFdv := op_fdiv.or op_fdivW
theorem o_mod : OpR X (binaryOp .Mod) uMod := op_mod
theorem o_pow : OpR X (binaryOp .Pow) uPow := op_pow
theorem o_lt : OpR X (compareOp .Lt) uLt := op_lt
theorem o_le : OpR X (compareOp .LtE) uLe := op_le
theorem o_gt : OpR X (compareOp .Gt) uGt := op_gt
theorem o_eq (hu : X.A.units + 64 < cLine) : OpR X (compareOp .Eq) (uEq X.K) := op_eq.or (op_eqD hu)
theorem o_ne (hu : X.A.units + 64 < cLine) : OpR X (compareOp .NotEq) (uNe X.K) := op_ne.or (op_neD hu)
theorem o_is : OpR X (compareOp .Is) uIsN := op_isN.or op_isBl
end
/-! ### built-ins -/
def uInt : List V → Hp → VK → Prop := fun xs H Q => (∃ i, xs = [.int i] ∧ Q (.int i) H) ∨ ∃ k, xs = [.bl k] ∧ Q (.int (if k then 1 else 0)) H
def uMax2 : List V → Hp → VK → Prop := fun xs H Q => ∃ i j, xs = [.int i, .int j] ∧ Q (.int (if j > i then j else i)) H
def uMin2 : List V → Hp → VK → Prop := fun xs H Q => ∃ i j, xs = [.int i, .int j] ∧ Q (.int (if j < i then j else i)) H
/-! ### exceptions of the text's own classes -/
structure ExcF (K : PySem.W.Frag) (mg : Str → Option Value) (x : Str) : Prop where
  gl : mg x = some (.ref (He.ga K x))
  ex : PySem.W.excIn K (He.ga K x) He.veBase "ValueError.__new__" = true
  kp : PySem.W.keepIn K (.ref (He.ga K x)) = true
  sub : PySem.W.subIn K (.ref (He.ga K x)) (.type "BaseException") = some true
  ty : PySem.W.typeIn K (.ref (He.ga K x)) = some (.type "type")
section
variable {X : Cx}
end
section
variable {P : Program} {w : World} {K : PySem.W.Frag} {mg : Str → Option Value} {base : Heap} {N : List Str} {qual : Str} {scope : Scope} {f : Addr} {cd : Value} {A : Around} {outer : List Env} {s : Shared} {H : Hp} {E : XK}
end
end Fk
/-! enumerate of a tuple, as a walked thing -/
namespace Fk
open PySem PySem.Spec PyProof.Rows L2
end Fk
/-! ## readings, run step by step -/
namespace Fk
open PySem PySem.Spec PyProof.Rows L2
/-- the i-th slot holds v -/
inductive GS : L2.St → Nat → V → Prop
  | z {v : V} {l : L2.St} : GS (some v :: l) 0 v
  | s {x : Option V} {v : V} {l : L2.St} {i : Nat} : GS l i v → GS (x :: l) (i + 1) v
theorem GS.get : ∀ {σ : L2.St} {i : Nat} {v : V}, GS σ i v → σ[i]? = some (some v)
  | _, _, _, .z => rfl
  | _, _, _, .s h => by simpa using h.get
/-- the i-th slot set -/
inductive NS : L2.St → Nat → V → L2.St → Prop
  | z {x : Option V} {v : V} {l : L2.St} : NS (x :: l) 0 v (some v :: l)
  | s {x : Option V} {v : V} {l l' : L2.St} {i : Nat} : NS l i v l' → NS (x :: l) (i + 1) v (x :: l')
theorem NS.eq : ∀ {σ σ' : L2.St} {i : Nat} {v : V}, NS σ i v σ' → σ.set i (some v) = σ'
  | _, _, _, _, .z => rfl
  | _, _, _, _, .s h => congrArg _ h.eq
section
variable {K : PySem.W.Frag} {D : Ends} {σ σ' σ'' : L2.St} {H H1 H2 : Hp} {Q : VK} {QB : Bool → Hp → Prop} {QA : List V → Hp → Prop} {E : XK} {i j k : Nat} {v u x : V} {vs : List V}
  {t tu tw : TS} {te ta tb tc : TE} {tt ttu : TT} {tA : TA} {g : TG} {r : R2} {a p : Addr} {xs ys : List V}
/-! operators -/
variable {m n : Int}
theorem ty_list (hs : H a = some (.lst xs)) : tyV K "list" (.ref a) H := .inl ⟨rfl, _, Or.inl (Or.inl hs)⟩
end
/-! ### loops by what is left -/
section
variable {K : PySem.W.Frag} {D : Ends} {σ : L2.St} {H : Hp} {g : TG} {tb : TS} {a : Addr} {xs : List V} {wi : TI}
end
section
variable {K : PySem.W.Frag} {H : Hp} {Q : VK} {a b : Nat}
end
/-! ### heaps that grow -/
abbrev Ex := Evl.Ex
theorem Ex.up {H H1 : Hp} {p : Addr} {o : HO} (e : Ex H H1) (h : H1 p = none) : Ex H (upd H1 p o) := Evl.Ex.trans e (Evl.Ex.new h)
theorem Ex.trans {H H1 H2 : Hp} (a : Ex H H1) (b : Ex H1 H2) : Ex H H2 := Evl.Ex.trans a b
theorem fresh {H H1 : Hp} {p : Addr} (e : Ex H H1) (h : H1 p = none) : H p = none := Evl.fresh_back e h
/-- tuples stay -/
def Tx (H H' : Hp) : Prop := ∀ t xs, H t = some (.tup xs) → H' t = some (.tup xs)
theorem Tx.trans {H H1 H2 : Hp} (a : Tx H H1) (b : Tx H1 H2) : Tx H H2 := fun t xs h => b t xs (a t xs h)
theorem Ex.tx {H H1 : Hp} (e : Ex H H1) : Tx H H1 := fun t xs h => e t _ h
theorem Tx.new {H H1 : Hp} {p : Addr} {o : HO} (e : Tx H H1) (h : H1 p = none) : Tx H (upd H1 p o) := fun t xs q => by
  have z := e t xs q
  rw [upd_ne (fun w => by rw [w, h] at z; cases z)]
  exact z
theorem Tx.lst {H H1 : Hp} {p : Addr} {o : HO} {ys : List V} (e : Tx H H1) (h : H1 p = some (.lst ys)) : Tx H (upd H1 p o) := fun t xs q => by
  have z := e t xs q
  rw [upd_ne (fun w => by rw [w, h] at z; cases z)]
  exact z
/-! ### comprehensions -/
section
variable {K : PySem.W.Frag} {a : Addr} {xs : List V} {g : TG} {tt : TT} {te : TE} {vs : List Nat} {σ : L2.St} {H H1 : Hp} {D : Addr} {Qd : Hp → Prop}
end
/-! ### data stay -/
mutual
theorem dp_mono {K : PySem.W.Frag} {H H' : Hp} (e : Ex H H') : ∀ {v : V} {d : PyData}, Dp K H v d → Dp K H' v d
  | _, _, .non => .non
  | _, _, .bl b => .bl b
  | _, _, .int i => .int i
  | _, _, .str x => .str x
  | _, _, .lst h r => .lst (Evl.ex_l e h) (dpAll_mono e r)
  | _, _, .tup h r => .tup (Evl.ex_t e h) (dpAll_mono e r)
theorem dpAll_mono {K : PySem.W.Frag} {H H' : Hp} (e : Ex H H') : ∀ {vs : List V} {ds : List PyData}, DpAll K H vs ds → DpAll K H' vs ds
  | _, _, .nil => .nil
  | _, _, .cons h r => .cons (dp_mono e h) (dpAll_mono e r)
end
end Fk
/-! ## defs that are called where no repr is under way: repr of data -/
namespace Fk
open PySem PySem.Spec PyProof.Rows L2
/-- as FnOk, where no guard stands around -/
structure FnG (P : Program) (w : World) (K : PySem.W.Frag) (mg : Str → Option Value) (base : Heap) (k : Nat) (f : Addr) (fd : FuncData) (ps : List Str) (sp : Sp) : Prop where
  len : ∀ vs H Q E, sp vs H Q E → vs.length = ps.length
  run : ∀ (A : Around) (outer : List Env) (s : Shared) (H : Hp) (args : Args) (us : List Value) (vs : List V) (Q : VK) (E : XK), A.guards = some [] → Room k A → Env0 P w K mg base A outer s H →
    BindsTo s fd args (ps.zip us) → Vals vs us → sp vs H Q E → codeAny (model P w) A (.call (.ref f) args) (CR (L2.CX P w) outer P w H s Q E) s
section
variable {P : Program} {w : World} {K : PySem.W.Frag} {mg : Str → Option Value} {base : Heap} {k : Nat} {f : Addr} {fd : FuncData} {ps N : List Str} {sp : Sp} {x qual : Str} {params : Arguments} {body : List Stmt} {scope : Scope} {dvs : List V} {kws : List (Str × V)}
theorem FnG.of (F : FnOk P w K mg base (L2.CX P w) k f fd ps sp) : FnG P w K mg base k f fd ps sp := ⟨F.len, fun A outer s H args us vs Q E _ => F.run A outer s H args us vs Q E⟩
end
section
variable {X : Cx} {k j : Nat} {x : Str} {ps : List Str} {dvs : List V} {sp : Sp} {E : XK} {p pos : Pos} {e : Expr} {es : List Expr} {t : TA} {f : Addr} {fd : FuncData} {ds : List Value}
end
end Fk
/-! ## data whose text is short -/
namespace Fk
open PySem PySem.Spec PyProof.Rows L2
/-- data of depth at most k whose text has at most n signs -/
structure Sw (k n : Nat) (d : PyData) : Prop where
  lay : d.canLay0 = true
  dep : d.depth ≤ k
  shw : d.showable = true
  len : d.shown.length ≤ n
structure SwAll (k n : Nat) (ds : List PyData) : Prop where
  lay : PyData.canLayAll0 ds = true
  dep : PyData.depthAll ds ≤ k
  shw : PyData.showableAll ds = true
  len : ((PyData.shownAll ds).map (·.length)).sum + 2 * (PyData.shownAll ds).length ≤ n
theorem sw_none {k : Nat} : Sw k 4 .none := ⟨rfl, Nat.zero_le _, rfl, by decide +kernel⟩
theorem sw_bool {k : Nat} (b : Bool) : Sw k 5 (.bool b) := ⟨rfl, Nat.zero_le _, rfl, by cases b <;> decide +kernel⟩
theorem sw_int {k : Nat} {i : Int} (h : i.natAbs < 2 ^ 128) : Sw k 129 (.int i) := by
  have lg : i.natAbs.log2 < 128 := by
    by_cases z : i.natAbs = 0
    · rw [z]; decide
    · exact (Nat.log2_lt z).mpr h
  refine ⟨rfl, Nat.zero_le _, ?_, ?_⟩
  · have : i.natAbs.log2 < 1920 := by omega
    simpa [PyData.showable] using this
  · have e : (PyData.int i).shown = Str.ofString (toString i) := by simp only [PyData.shown]
    rw [e, PySem.ofString_length]
    exact int_text_length_le (by decide) lg
theorem sw_str {k : Nat} {x : Str} (ok : PyData.strOk x = true) : Sw k (10 * x.length + 2) (.str x) := by
  refine ⟨by simpa [PyData.canLay0] using ok, Nat.zero_le _, by simp [PyData.showable], ?_⟩
  have e : (PyData.str x).shown = reprText x := by simp only [PyData.shown]
  rw [e]
  refine StrLaws.reprText_len x fun c hc => ?_
  have q : x.cps.all (· < 0x110000) = true := ok
  have := Array.all_eq_true'.mp q c (by simpa using hc)
  have e2 : (0x110000 : Nat) ≤ 16 ^ 8 := by decide
  simp at this
  omega
theorem swa_nil {k : Nat} : SwAll k 0 [] := ⟨rfl, Nat.zero_le _, rfl, by simp [PyData.shownAll]⟩
theorem swa_cons {k n m : Nat} {d : PyData} {ds : List PyData} (h : Sw k n d) (r : SwAll k m ds) : SwAll k (n + 2 + m) (d :: ds) := by
  refine ⟨by simp [PyData.canLayAll0, h.lay, r.lay], ?_, by simp [PyData.showableAll, h.shw, r.shw], ?_⟩
  · have := h.dep
    have := r.dep
    simp only [PyData.depthAll]
    omega
  · have := h.len
    have := r.len
    simp only [PyData.shownAll, List.map_cons, List.sum_cons, List.length_cons]
    omega
theorem sw_tup {k n : Nat} {ds : List PyData} (h : SwAll k n ds) : Sw (k + 1) (n + 3) (.tuple ds) := by
  refine ⟨by simpa [PyData.canLay0] using h.lay, by have := h.dep; simp only [PyData.depth]; omega, by simpa [PyData.showable] using h.shw, ?_⟩
  have := tupleText_len_le (PyData.shownAll ds)
  have := h.len
  simp only [PyData.shown]
  omega
theorem sw_lst {k n : Nat} {ds : List PyData} (h : SwAll k n ds) : Sw (k + 1) (n + 3) (.list ds) := by
  refine ⟨by simpa [PyData.canLay0] using h.lay, by have := h.dep; simp only [PyData.depth]; omega, by simpa [PyData.showable] using h.shw, ?_⟩
  have := listText_len_le (PyData.shownAll ds)
  have := h.len
  simp only [PyData.shown]
  omega
theorem Sw.shaped {k n : Nat} {d : PyData} (h : Sw k n d) (hk : k ≤ 60) : SeqAt.shaped d = true := by
  unfold SeqAt.shaped
  rw [h.lay, Bool.true_and]
  exact decide_eq_true (Nat.le_trans h.dep (by omega))
section
variable {K : PySem.W.Frag} {H : Hp} {Q : VK} {v u : V} {d e : PyData}
end
end Fk
/-! ## data with small dicts, their repr -/
namespace Fk
open PySem PySem.Spec PyProof.Rows L2
mutual
/-- what a value reads as: leaves, tuples, dicts of ints -/
inductive Dt (K : PySem.W.Frag) (H : Hp) : V → PyData → Prop
  | non : Dt K H .non .none
  | bl (b : Bool) : Dt K H (.bl b) (.bool b)
  | int (i : Int) : Dt K H (.int i) (.int i)
  | str (x : Str) : Dt K H (.str x) (.str x)
  | tup {a : Addr} {xs : List V} {ds : List PyData} : SqT K H a xs → DtAll K H xs ds → Dt K H (.ref a) (.tuple ds)
  | dct {a : Addr} {ns : List (Int × Int)} : H a = some (.dK (ns.map fun z => (Sum.inl z.1, V.int z.2))) → Dt K H (.ref a) (.dict (ns.map fun z => (.int z.1, .int z.2)))
inductive DtAll (K : PySem.W.Frag) (H : Hp) : List V → List PyData → Prop
  | nil : DtAll K H [] []
  | cons {v : V} {vs : List V} {d : PyData} {ds : List PyData} : Dt K H v d → DtAll K H vs ds → DtAll K H (v :: vs) (d :: ds)
end
theorem rd_pairs {P : Program} {w : World} {h : Heap} : ∀ (ns : List (Int × Int)) (es : List DictEntry) (vs : List (Key × Value)), KV (ns.map fun z => ((Sum.inl z.1 : Key), V.int z.2)) vs → Pairs (mixKind P w) es vs →
    ReadsAll h (es.map (·.key)) ((ns.map fun z => (PyData.int z.1, PyData.int z.2)).map (·.1)) [] ∧ ReadsAll h (es.map (·.val)) ((ns.map fun z => (PyData.int z.1, PyData.int z.2)).map (·.2)) []
  | [], es, vs, r, p => by
    rw [List.map_nil] at r
    cases r
    cases p
    exact ⟨.nil, .nil⟩
  | z :: ns, es, vs, r, p => by
    rw [List.map_cons] at r
    cases r with
    | cons h1 h2 =>
      cases p with
      | @cons e kv es' kvs' k1 k2 k3 =>
        obtain ⟨q1, q2⟩ := rd_pairs (h := h) ns es' _ h2 k3
        obtain ⟨e1, t, e2⟩ := h1
        rw [← e1] at k1
        rcases keyIs_shape (show keyIs (Sum.inl z.1) e.key = true from k1) with ⟨i, t', ei, ek⟩ | ⟨x, t', ei, ek⟩
        · cases ei
          refine ⟨?_, ?_⟩
          · have a := ReadsAll.cons (h := h) (Reads.int z.1 t') q1
            show ReadsAll h (e.key :: es'.map (·.key)) _ []
            rw [ek]
            exact a
          · have a := ReadsAll.cons (h := h) (Reads.int z.2 t) q2
            show ReadsAll h (e.val :: es'.map (·.val)) _ []
            rw [k2, e2]
            exact a
        · cases ei
section
variable {X : Cx} {pins : List (Addr × Obj)} {σ : L2.St} {H : Hp} {s : Shared}
mutual
theorem Dt.reads (I : Inv X pins σ H s) : ∀ (d : PyData) (v : V) (u : Value), Dt X.K H v d → RelV v u → ∃ as, Reads s.heap u d as ∧ sysModules ∉ as
  | .none, _, _, h, r => by
    cases h
    cases r
    exact ⟨_, Reads.none, by simp⟩
  | .bool b, _, _, h, r => by
    cases h
    cases r
    exact ⟨_, Reads.bool b, by simp⟩
  | .int i, _, _, h, r => by
    cases h
    obtain ⟨t, rfl⟩ := r
    exact ⟨_, Reads.int i t, by simp⟩
  | .str x, _, _, h, r => by
    cases h
    obtain ⟨t, rfl⟩ := r
    exact ⟨_, Reads.str x t, by simp⟩
  | .list ds, _, _, h, r => by cases h
  | .tuple ds, _, _, h, r => by
    cases h with
    | tup hs ha =>
      cases r
      obtain ⟨its, rv, ⟨o, ho, hc, n, hd⟩, _⟩ := I.tuple hs
      obtain ⟨as, hr, hn⟩ := Dt.readsAll I ds _ its ha rv
      exact ⟨_, Reads.tuple ho hc hd hr, hn⟩
  | .dict kvs, _, _, h, r => by
    generalize ek : kvs = kk at h
    cases h with
    | @dct a ns e =>
      cases r
      obtain ⟨_, hy, vs, kv, o, es, ep, ho, hx, hd, _, prs, _⟩ := I.hok a _ e
      obtain ⟨q1, q2⟩ := rd_pairs (h := s.heap) ns es.toList vs kv prs
      refine ⟨_, Reads.dict ho hx.1 hd q1 q2, ?_⟩
      intro z
      have z2 : sysModules = a := by simpa using z
      rw [z2] at hy
      simp at hy
theorem Dt.readsAll (I : Inv X pins σ H s) : ∀ (ds : List PyData) (vs : List V) (us : List Value), DtAll X.K H vs ds → Vals vs us → ∃ as, ReadsAll s.heap us ds as ∧ sysModules ∉ as
  | [], _, _, h, r => by
    cases h
    cases r
    exact ⟨_, ReadsAll.nil, by simp⟩
  | d :: ds, _, _, h, r => by
    cases h with
    | cons h1 h2 =>
      cases r with
      | cons r1 r2 =>
        obtain ⟨as, q1, n1⟩ := Dt.reads I d _ _ h1 r1
        obtain ⟨bs, q2, n2⟩ := Dt.readsAll I ds _ _ h2 r2
        exact ⟨_, ReadsAll.cons q1 q2, fun z => (List.mem_append.mp z).elim n1 n2⟩
end
end
/-- data of either sort -/
def Dd (K : PySem.W.Frag) (H : Hp) (v : V) (d : PyData) : Prop := Dp K H v d ∨ Dt K H v d
def uReprD (K : PySem.W.Frag) : List V → Hp → VK → Prop := fun xs H Q => ∃ v d, xs = [v] ∧ Dd K H v d ∧ d.showable = true ∧ d.depth ≤ 60 ∧ (Dp K H v d → d.hasDict = false) ∧ d.shown.length ≤ sizeLine ∧ Q (.str d.shown) H
theorem call_reprT {X : Cx} (hG : X.A.guards = some []) (hu : X.A.units + 64 < cLine) : CallR X (.builtin "repr") (uReprD X.K) := by
  intro pins s σ H xs us Q I r h
  obtain ⟨v, d, rfl, hd, hs, hdp, hnd, hz, q⟩ := h
  cases r with
  | cons ru rn =>
    rename_i u us'
    cases rn
    obtain ⟨as, rd, hsm⟩ : ∃ as, Reads s.heap u d as ∧ (d.hasDict = true → sysModules ∉ as) := by
      rcases hd with hd | hd
      · obtain ⟨as, rd⟩ := Dp.reads I d v u hd ru
        exact ⟨as, rd, fun z => by rw [hnd hd] at z; cases z⟩
      · obtain ⟨as, rd, n⟩ := Dt.reads I d v u hd ru
        exact ⟨as, rd, fun _ => n⟩
    have fin : ∀ h' uu tk, (∀ b o, s.heap.get? b = some o → h'.get? b = some o) → EP X pins σ Q (.str d.shown uu) { s with heap := h', toks := tk } := fun h' uu tk hk => ⟨.str d.shown, H, I.kept (t' := tk) hk, ⟨uu, rfl⟩, q⟩
    cases u with
    | ref a => exact repr_of_reads' rd hs hsm hG (by omega) (fun _ _ e => e) fin hz
    | none =>
      cases rd
      exact P.repr_of_none (fin s.heap _ _ fun _ _ e => e)
    | bool b =>
      cases rd
      exact P.repr_of_bool (fin s.heap _ _ fun _ _ e => e)
    | int i t =>
      cases rd
      exact P.repr_of_int (by simpa [PyData.showable] using hs) (fin s.heap _ _ fun _ _ e => e)
    | str z t =>
      cases rd
      exact P.repr_of_str (fin s.heap _ _ fun _ _ e => e) hz
    | _ => cases rd
end Fk
/-! ## more loops -/
namespace Fk
open PySem PySem.Spec PyProof.Rows L2
section
variable {K : PySem.W.Frag} {D : Ends} {σ : L2.St} {H : Hp} {g : TG} {tb : TS} {a : Addr} {xs : List V}
end
end Fk
/-! ## more rules: a tuple turned about; slices; in -/
namespace Fk
open PySem PySem.Spec PyProof.Rows L2
theorem rev_pick (xs : Array Value) : ((List.range xs.size).filterMap fun (m : Nat) => xs[(((xs.size : Int) - 1) + (m : Int) * (-1)).toNat]?).toArray = xs.toList.reverse.toArray := by
  have e : (List.range xs.size).filterMap (fun (m : Nat) => xs[(((xs.size : Int) - 1) + (m : Int) * (-1)).toNat]?) = ((List.range xs.size).map fun k => xs.size - 1 - k).filterMap (xs[·]?) := by
    rw [List.filterMap_map]
    have e1 : (fun (m : Nat) => xs[(((xs.size : Int) - 1) + (m : Int) * (-1)).toNat]?) = ((fun x => xs[x]?) ∘ fun k => xs.size - 1 - k) := by
      funext m
      have e2 : (((xs.size : Int) - 1) + (m : Int) * (-1)).toNat = xs.size - 1 - m := by omega
      show xs[_]? = xs[xs.size - 1 - m]?
      rw [e2]
    rw [e1]
  rw [e, PySem.W.krv_range, List.filterMap_reverse, PySem.W.krv_all]
section
variable {prog : Program} {w : World} {A : Around} {E : Value → Shared → Prop} {s : Shared}
theorem sliceApplied_rev {sl : Addr} {t : Tok} {n : Nat} {Q : Int × Int × Nat → Shared → Prop} (hs : s.heap.IsSliceOf sl .none .none (.int (-1) t))
    (h : Q ((n : Int) - 1, -1, n) s) : wpAny (model prog w) A (Builtin.Slice.sliceApplied (.ref sl) (pure (n : Int))) Q E s := by
  obtain ⟨os, hos, hcs, hds⟩ := id hs
  unfold Builtin.Slice.sliceApplied Builtin.Slice.sliceFields
  refine wpAny_bind (wpAny_bind (wpAny_field hos hds (x := .none) rfl (wpAny_bind (wpAny_field hos hds (x := .none) rfl (wpAny_bind (wpAny_field hos hds (x := .int (-1) t) rfl (wpAny_pure ?_)))))))
  refine wpAny_bind (HT.slicePart_ (IsPart.int _ _) ?_)
  show wpAny _ _ (if ((-1 : Int) == 0) = true then _ else _) _ _ s
  rw [if_neg (by decide)]
  refine wpAny_bind (HT.slicePart_ .none (wpAny_bind (HT.slicePart_ .none (wpAny_bind (wpAny_pure ?_)))))
  have e1 : Builtin.Slice.sliceAdjust none none (-1) (n : Int) = ((n : Int) - 1, -1) := rfl
  show wpAny _ _ (match Builtin.Slice.sliceAdjust none none (-1) (n : Int) with | (lo, hi) => pure (lo, (-1 : Int), Builtin.Slice.slicePlaces lo hi (-1))) _ _ s
  rw [e1]
  have e2 : Builtin.Slice.slicePlaces ((n : Int) - 1) (-1) (-1) = n := by
    unfold Builtin.Slice.slicePlaces
    rw [if_neg (by decide)]
    by_cases c : (n : Int) - 1 > -1
    · rw [if_pos c, show (- -1 : Int) = 1 by decide, Int.ediv_one]
      omega
    · rw [if_neg c]
      omega
  show wpAny _ _ (pure ((n : Int) - 1, (-1 : Int), Builtin.Slice.slicePlaces ((n : Int) - 1) (-1) (-1))) _ _ s
  rw [e2]
  exact wpAny_pure h
theorem getItem_tuple_rev {t sl : Addr} {tk : Tok} {items : Array Value} {Q : Value → Shared → Prop} (ht : IsTup s.heap t items) (hs : s.heap.IsSliceOf sl .none .none (.int (-1) tk))
    (h : Q (.ref s.heap.objs.size) { s with heap := s.heap.push { cls := .type "tuple", data := .seq items.toList.reverse.toArray } })
    (hsz : items.size ≤ sizeLine) : wpAny (model prog w) A (getItem (.ref t) (.ref sl)) Q E s := by
  have htake : sizeOk (.seq items.toList.reverse.toArray) := by
    show items.toList.reverse.toArray.size ≤ sizeLine
    rw [List.size_toArray, List.length_reverse, Array.length_toList]
    exact hsz
  obtain ⟨os, hos, hcs, hds⟩ := id hs
  have hTs : s.TypeIs (.ref sl) "slice" := ⟨os, hos, hcs⟩
  unfold getItem
  try with_reducible refine wpAny_holding ?_
  first | refine wpAny_bind (wpAny_pure ?_) | skip
  refine wpAny_bind (wpAny_sequenceKey ht.typeIs (by decide) ?_)
  refine wpAny_bind (wpAny_callSpecial?_slot (name := Str.ofString "__getitem__") ht.typeIs PyProof.Rows.slot_tuple_getitem
    (wpAny_call_entry PyProof.Rows.slot_tuple_getitem ht.typeIs entry_tuple_getitem ?_ (args_tuple_getitem _ _)))
  show wpAny _ _ (Builtin.Tuple.tupleItemsOf (.ref t) >>= _) _ _ s
  refine wpAny_bind (tupleItemsOf_ ht ?_)
  refine wpAny_bind (wpAny_typeOf hTs ?_)
  rw [if_pos (by decide)]
  refine wpAny_bind (sliceApplied_rev hs ?_)
  show wpAny _ _ (if ((((items.size : Int) - 1) == 0) && (-1 : Int) == 1 && items.size == items.size) = true then _ else _) _ _ s
  rw [if_neg (by rw [show ((-1 : Int) == 1) = false from rfl, Bool.and_false, Bool.false_and]; exact Bool.false_ne_true), rev_pick]
  first
    | exact wpAny_bind (m := Builtin.Tuple.tupleExact _) (wpAny_newObj_type (wpAny_pure ⟨_, rfl, wpAny_pure h⟩) htake)
    | exact wpAny_bind (m := Builtin.Tuple.tupleExact _) (wpAny_newObj_type (wpAny_bind (wpAny_pure (wpAny_pure ⟨_, rfl, wpAny_pure h⟩))) htake)
    | exact wpAny_bind (wpAny_bind (m := Builtin.Tuple.tupleExact _) (wpAny_newObj_type (wpAny_pure (wpAny_pure ⟨_, rfl, wpAny_pure h⟩)) htake))
    | exact wpAny_bind (wpAny_bind (m := Builtin.Tuple.tupleExact _) (wpAny_newObj_type (wpAny_pure ⟨_, rfl, wpAny_pure h⟩) htake))
end
section
variable {X : Cx}
def tRevT (K : PySem.W.Frag) (te : TE) : TE := fun σ H Q => te σ H fun x H1 => ∃ a xs, x = .ref a ∧ SqT K H1 a xs ∧ ∀ p, H1 p = none → Q (.ref p) (upd H1 p (.tup xs.reverse))
theorem pe_revT {e : Expr} {te : TE} {k : Nat} {p1 p2 p3 pos : Pos} (he : PE X e te) : PE X (.Subscript e (.Slice none none (some (.UnaryOp .USub (.Constant (.int 1) k p1) p2)) p3) pos) (tRevT X.K te) := by
  refine ⟨fun pins s σ H Q I h => ?_⟩
  refine Subscript_ (thn (he.run pins s σ H _ I h) fun v s1 ⟨x, H1, I1, r1, q1⟩ => ?_)
  obtain ⟨a, xs, ex, hx, q⟩ := q1
  subst ex
  cases r1
  have hst : PO X (some (.UnaryOp .USub (.Constant (.int 1) k p1) p2)) (tPart (tUn (rU fun i => .int (-i)) (tC (.int 1)))) := po_some (pe_un un_neg pe_int)
  refine wpAny_Slice (thn (po_none.run pins s1 σ H1 (fun o H2 => o = none ∧ H2 = H1) I1 ⟨rfl, rfl⟩) fun vl s2 ⟨l, H2, I2, pl, el, e2⟩ => ?_)
  subst el e2
  refine thn (po_none.run pins s2 σ H2 (fun o H3 => o = none ∧ H3 = H2) I2 ⟨rfl, rfl⟩) fun vu s3 ⟨u, H3, I3, pu, eu, e3⟩ => ?_
  subst eu e3
  refine thn (hst.run pins s3 σ H3 (fun o H4 => o = some (-1) ∧ H4 = H3) I3 ⟨1, rfl, -1, rfl, rfl, rfl⟩) fun vs s4 ⟨o, H4, I4, ps, eo, e4⟩ => ?_
  subst eo e4
  cases pl
  cases pu
  cases ps with
  | int _ tk =>
  have I5 : Inv X pins σ H4 { s4 with heap := s4.heap.push { cls := .type "slice", data := .fields #[.none, .none, .int (-1) tk] } } := I4.kept (t' := s4.toks) fun b ob q => Heap.get?_push_of_some _ q
  obtain ⟨its, r, ht, hz⟩ := I5.tuple hx
  have hlen := r.length
  show wpAny (model X.prog X.w) X.A (subscriptTail e (.Slice none none (some (.UnaryOp .USub (.Constant (.int 1) k p1) p2)) p3) (.ref a) (.ref s4.heap.objs.size)) (EP X pins σ Q) X.xe { s4 with heap := s4.heap.push { cls := .type "slice", data := .fields #[.none, .none, .int (-1) tk] } }
  refine tail_any (ops := [.ref a, .ref s4.heap.objs.size]) ht.typeIs PyProof.Rows.slot_tuple_getitem.lookup ?_ (by with_unfolding_all rfl)
  refine getItem_tuple_rev ht (Heap.IsSliceOf.new ..) ?_ (by rw [List.size_toArray]; omega)
  refine ⟨.ref _, _, I5.laid (t' := s4.toks) (o := .tup xs.reverse) (fun b ob q => Heap.get?_push_of_some _ q) (Nat.le_refl _) ?_, rfl, q _ (I5.hok.fresh (Nat.le_refl _))⟩
  exact ⟨by rw [List.length_reverse]; exact hz, its.reverse, r.reverse, ⟨_, Heap.get?_push_size _ rfl, rfl, _, rfl⟩⟩
def uRev (K : PySem.W.Frag) (te : TE) : TE := fun σ H Q => tRevL K te σ H Q ∨ tRevT K te σ H Q
theorem pe_rev {e : Expr} {te : TE} {k : Nat} {p1 p2 p3 pos : Pos} (he : PE X e te) : PE X (.Subscript e (.Slice none none (some (.UnaryOp .USub (.Constant (.int 1) k p1) p2)) p3) pos) (uRev X.K te) := pe_or (pe_revL he) (pe_revT he)
def uSl (K : PySem.W.Frag) : V → Option Int → Option Int → Hp → VK → Prop := fun x lo hi H Q => rSlL K x lo hi H Q ∨ (rSlA K x lo hi H Q ∨ rSlS x lo hi H Q)
theorem sl_any : SlR X (uSl X.K) := sl_list.or (sl_tupA.or sl_str)
def uTuple (K : PySem.W.Frag) : List V → Hp → VK → Prop := fun xs H Q => ∃ p ys, xs = [.ref p] ∧ ((SqL K H p ys ∧ ∀ l, H l = none → Q (.ref l) (upd H l (.tup ys))) ∨ (SqT K H p ys ∧ Q (.ref p) H))
end
section
variable {X : Cx}
def uAddB (K : PySem.W.Frag) : R2 := fun x y H Q => uAdd K x y H Q ∨ ∃ a i, x = .bl a ∧ y = .int i ∧ Q (.int ((if a = true then (1 : Int) else 0) + i)) H
def uSubB : R2 := fun x y H Q => uSub x y H Q ∨ ∃ a i, x = .bl a ∧ y = .int i ∧ Q (.int ((if a = true then (1 : Int) else 0) - i)) H
theorem op_addBI : OpR X (binaryOp .Add) (fun x y H Q => ∃ a i, x = .bl a ∧ y = .int i ∧ Q (.int ((if a = true then (1 : Int) else 0) + i)) H) := by
  intro pins s σ H x y v u Q I rx ry h
  obtain ⟨a, i, rfl, rfl, q⟩ := h
  cases rx
  obtain ⟨t, rfl⟩ := ry
  exact PySem.IntBool.add_bool_int ⟨.int _, H, I.tok _, ⟨_, rfl⟩, q⟩
theorem op_subBI : OpR X (binaryOp .Sub) (fun x y H Q => ∃ a i, x = .bl a ∧ y = .int i ∧ Q (.int ((if a = true then (1 : Int) else 0) - i)) H) := by
  intro pins s σ H x y v u Q I rx ry h
  obtain ⟨a, i, rfl, rfl, q⟩ := h
  cases rx
  obtain ⟨t, rfl⟩ := ry
  exact PySem.IntBool.sub_bool_int ⟨.int _, H, I.tok _, ⟨_, rfl⟩, q⟩
theorem o_addB : OpR X (binaryOp .Add) (uAddB X.K) := o_add.or op_addBI
theorem o_subB : OpR X (binaryOp .Sub) uSubB := o_sub.or op_subBI
end
theorem units65 {k : Nat} {A : Around} (r : Room k A) : A.units + 65 < cLine := by
  have := r.un
  omega
end Fk
/-! ## tuple * 1 -/
namespace Fk
open PySem PySem.Spec PyProof.Rows L2
theorem tuple_mul1 (l : Addr) (items : Array Value) (n : Nat) (dd : Option Addr) (sl : Array (Option Value)) (u : Tok) (c1 : (items.isEmpty || (1 : Int) == 1) = true) :
    Meets (Builtin.«tuple.__mul__» ⟨[.ref l, .int 1 u], []⟩) (fun _ R s => s.heap.get? l = some { cls := .type "tuple", dict := dd, data := .seq items n, slots := sl } ∧ R (.ok (.ret (Value.ref l))) s) :=
  .of_wp fun prog w A R s h => by
    obtain ⟨hp, g, d, tk, os⟩ := s
    obtain ⟨hl, h⟩ := h
    have f1 := AutoSeq1.idx_int
    wp_walk using wpAny_loadPart' hl
    exact ⟨_, rfl, h⟩
def rRep1 (K : PySem.W.Frag) : R2 := fun x y H Q => ∃ l xs, x = .ref l ∧ y = .int 1 ∧ SqT K H l xs ∧ Q (.ref l) H
theorem op_rep1 {X : Cx} : OpR X (binaryOp .Mult) (rRep1 X.K) := by
  intro pins s σ H x y v u Q I rx ry h
  obtain ⟨l, xs, rfl, rfl, hT, q⟩ := h
  cases rx
  obtain ⟨t, rfl⟩ := ry
  obtain ⟨its, r, ⟨⟨cls, dd, data, sl⟩, ho, hc, n, hd⟩, hs⟩ := I.tuple hT
  simp only at hc hd
  subst hc hd
  refine wpAny_binaryOp_repeat_ref (T := "tuple") (U := "int") (by decide) ⟨_, ho, rfl⟩ (fun s' => typeIs_int s' 1 t) noFill_tuple_mul F.fills_int_mul F.slot_int_rmul repeat_tuple F.slot_int_index.lookup
    (call_meets F.slot_int_rmul (typeIs_int s 1 t) F.entry_int_rmul (F.args_int_rmul_2 _ _) (int_rmul_tuple 1 t l its.toArray n dd sl)
      ⟨ho, rfl, ⟨_, ho, rfl⟩, call_meets F.slot_tuple_mul ⟨_, ho, rfl⟩ F.entry_tuple_mul (F.args_tuple_mul_2 _ _) (tuple_mul1 l its.toArray n dd sl t (by simp)) ⟨ho, ?_⟩⟩)
  exact ⟨.ref l, H, I, rfl, q⟩
end Fk
/-! ## plain values: what a run of the text is worth -/
namespace Fk
open PySem PySem.Spec PyProof.Rows L2
/-- a value as a tree; lst, dct: of shared things, the first letter tells whether it is owned (may be changed); nst, ndc, ins: owned ones of owned things; loc: an object by its number -/
inductive AV where
  | non | bl (b : Bool) | int (i : Int) | str (x : Str)
  | tup (xs : List AV)
  | lst (o : Bool) (xs : List AV)
  | dct (o : Bool) (ks : List Key) (xs : List AV)
  | scr (xs : List AV)
  | nst (xs : List AV)
  | ndc (ks : List Key) (xs : List AV)
  | ins (C : Str) (ks : List Str) (xs : List AV)
  | loc (l : Nat)
  | ded
  | set (ks : List Int)
  | tud (xs : List AV)
/-- a slot: nothing, a value, an owned tree -/
inductive Sl where
  | no | im (d : AV) | ow (d : AV)
structure Ss where
  r : List Sl
  s : List AV
inductive Res (α β : Type) where
  | ok (a : α) (s : β)
  | err (c : Str) (s : β)
  | bad
abbrev M (α : Type) := Ss → Res α Ss
inductive Fl where
  | nx | rt (d : AV) | bk | ct

/-- a list that is locked (the script) -/
def Scr (K : PySem.W.Frag) (H : Hp) (a : Addr) (us : List V) : Prop := (∃ ob, H a = some (.frz ob (.lst us))) ∨
  ∃ (o : Obj) (its : Array Value) (n : Nat), K.lookup a = some o ∧ o.cls = .type "list" ∧ o.dict = none ∧ o.data = .seq its n ∧ its.size ≤ sizeLine ∧ Vals us its.toList
theorem Scr.sq {K : PySem.W.Frag} {H : Hp} {a : Addr} {us : List V} (h : Scr K H a us) : SqL K H a us := h.elim (fun z => .inl (.inr z)) .inr
/-- a set of ints, by its members -/
structure SetIs (S : Int → Bool) (n : Nat) (ks : List Int) : Prop where
  mem : ∀ k, S k = decide (k ∈ ks)
  len : n = ks.length
  nd : ks.Nodup
/-- what values, objects stand for: as are the owned addresses, W those that bear no shared thing, m where the shared objects stand -/
inductive Rp (K : PySem.W.Frag) (H : Hp) (W m : List Addr) : List V → List AV → List Addr → Prop
  | nil : Rp K H W m [] [] []
  | non {vs xs as} (r : Rp K H W m vs xs as) : Rp K H W m (.non :: vs) (.non :: xs) as
  | bl {b vs xs as} (r : Rp K H W m vs xs as) : Rp K H W m (.bl b :: vs) (.bl b :: xs) as
  | int {i vs xs as} (r : Rp K H W m vs xs as) : Rp K H W m (.int i :: vs) (.int i :: xs) as
  | str {z vs xs as} (r : Rp K H W m vs xs as) : Rp K H W m (.str z :: vs) (.str z :: xs) as
  | tup {a us ys vs xs as} (h : SqT K H a us) (q : Rp K H W m us ys []) (r : Rp K H W m vs xs as) : Rp K H W m (.ref a :: vs) (.tup ys :: xs) as
  | lsI {a us ys vs xs as} (h : H a = some (.lst us)) (n : a ∉ W) (q : Rp K H W m us ys []) (r : Rp K H W m vs xs as) : Rp K H W m (.ref a :: vs) (.lst false ys :: xs) as
  | lsO {a us ys vs xs as} (h : H a = some (.lst us)) (q : Rp K H W m us ys []) (r : Rp K H W m vs xs as) : Rp K H W m (.ref a :: vs) (.lst true ys :: xs) (a :: as)
  | dcI {a kvs ks ys vs xs as} (h : H a = some (.dK kvs)) (n : a ∉ W) (e : kvs.map (·.1) = ks) (q : Rp K H W m (kvs.map (·.2)) ys []) (r : Rp K H W m vs xs as) : Rp K H W m (.ref a :: vs) (.dct false ks ys :: xs) as
  | dcO {a kvs ks ys vs xs as} (h : H a = some (.dK kvs)) (e : kvs.map (·.1) = ks) (q : Rp K H W m (kvs.map (·.2)) ys []) (r : Rp K H W m vs xs as) : Rp K H W m (.ref a :: vs) (.dct true ks ys :: xs) (a :: as)
  | scr {a us ys vs xs as} (h : Scr K H a us) (q : Rp K H W m us ys []) (r : Rp K H W m vs xs as) : Rp K H W m (.ref a :: vs) (.scr ys :: xs) as
  | nst {a us ys bs vs xs as} (h : H a = some (.lst us)) (q : Rp K H W m us ys bs) (r : Rp K H W m vs xs as) : Rp K H W m (.ref a :: vs) (.nst ys :: xs) (a :: (bs ++ as))
  | ndc {a kvs ks ys bs vs xs as} (h : H a = some (.dK kvs)) (e : kvs.map (·.1) = ks) (q : Rp K H W m (kvs.map (·.2)) ys bs) (r : Rp K H W m vs xs as) : Rp K H W m (.ref a :: vs) (.ndc ks ys :: xs) (a :: (bs ++ as))
  | ins {a C dx fs ks ys bs vs xs as} (h : H a = some (.ins (He.ga K C) dx fs)) (e : fs.map (·.1) = ks) (q : Rp K H W m (fs.map (·.2)) ys bs) (r : Rp K H W m vs xs as) : Rp K H W m (.ref a :: vs) (.ins C ks ys :: xs) (a :: (bs ++ as))
  | loc {a l vs xs as} (h : m[l]? = some a) (r : Rp K H W m vs xs as) : Rp K H W m (.ref a :: vs) (.loc l :: xs) as
  | ded {a vs xs as} (r : Rp K H W m vs xs as) : Rp K H W m (.ref a :: vs) (.ded :: xs) as
  | set {a S n ks vs xs as} (h : H a = some (.set S n)) (e : SetIs S n ks) (r : Rp K H W m vs xs as) : Rp K H W m (.ref a :: vs) (.set ks :: xs) (a :: as)
  | tud {a ob us ys vs xs as} (h : H a = some (.frz ob (.tup us))) (n : ob.dict = none) (q : Rp K H W m us ys []) (r : Rp K H W m vs xs as) : Rp K H W m (.ref a :: vs) (.tud ys :: xs) as

def mutO : HO → Bool
  | .lst _ => true
  | .dK _ => true
  | .ins _ _ _ => true
  | .set _ _ => true
  | _ => false
def NoTbl (o : HO) : Prop := ∀ ps, o ≠ .tbl ps
/-- the heap behind: all but what stands at L is kept -/
structure Kp (H H' : Hp) (L : List Addr) : Prop where
  keep : ∀ b o, H b = some o → b ∉ L → NoTbl o → H' b = some o
  kind : ∀ b ∈ L, ∃ o, H b = some o ∧ mutO o = true
theorem Kp.new {H : Hp} {p : Addr} {o : HO} (h : H p = none) : Kp H (upd H p o) [] := ⟨fun b u e _ _ => by rw [upd_ne (ne_of_none e h)]; exact e, fun _ z => nomatch z⟩
theorem Kp.put {H : Hp} {p : Addr} {o u : HO} (h : H p = some u) (hm : mutO u = true) : Kp H (upd H p o) [p] :=
  ⟨fun b v e n _ => by rw [upd_ne (fun z => n (by simp [z]))]; exact e, fun b z => by
    have e : b = p := by simpa using z
    subst e
    exact ⟨u, h, hm⟩⟩
theorem Kp.refl {H : Hp} : Kp H H [] := ⟨fun _ _ e _ _ => e, fun _ z => nomatch z⟩
section
variable {K : PySem.W.Frag} {H H' : Hp} {W W' m m' L : List Addr} {vs vs' : List V} {xs xs' : List AV} {as as' bs : List Addr} {v : V} {x : AV}
theorem Rp.len (r : Rp K H W m vs xs as) : vs.length = xs.length := by
  induction r with
  | nil => rfl
  | _ => simp_all
theorem rd_keep {u : HO} {a : Addr} (k : Kp H H' L) (h : Rd H a u) (n : a ∉ L) (t : NoTbl u) : Rd H' a u := by
  rcases h with h | ⟨o, h⟩
  · exact .inl (k.keep a _ h n t)
  · exact .inr ⟨o, k.keep a _ h n (fun ps z => by cases z)⟩
theorem scr_keep {us : List V} {a : Addr} (k : Kp H H' L) (h : Scr K H a us) : Scr K H' a us := by
  rcases h with ⟨ob, h⟩ | h
  · refine .inl ⟨ob, k.keep a _ h (fun z => ?_) (fun ps z => by cases z)⟩
    obtain ⟨o, e, q⟩ := k.kind a z
    rw [h] at e
    cases e
    cases q
  · exact .inr h
theorem frz_keep {ob : Obj} {u : HO} {a : Addr} (k : Kp H H' L) (h : H a = some (.frz ob u)) : H' a = some (.frz ob u) := by
  refine k.keep a _ h (fun z => ?_) (fun ps z => by cases z)
  obtain ⟨o, e, q⟩ := k.kind a z
  rw [h] at e
  cases e
  cases q
theorem sqT_keep {us : List V} {a : Addr} (k : Kp H H' L) (h : SqT K H a us) : SqT K H' a us := by
  rcases h with h | h
  · refine .inl (rd_keep k h (fun z => ?_) (fun ps z => by cases z))
    obtain ⟨o, e, q⟩ := k.kind a z
    rcases h with h | ⟨ob, h⟩
    · rw [h] at e; cases e; cases q
    · rw [h] at e; cases e; cases q
  · exact .inr h
/-- all owned ones stand -/
theorem Rp.there (r : Rp K H W m vs xs as) : ∀ a ∈ as, ∃ o, H a = some o ∧ mutO o = true := by
  have one : ∀ {a : Addr} {o : HO} {as : List Addr}, H a = some o → mutO o = true → (∀ b ∈ as, ∃ o, H b = some o ∧ mutO o = true) → ∀ b ∈ a :: as, ∃ o, H b = some o ∧ mutO o = true := fun h q i b z => by
    rcases List.mem_cons.mp z with rfl | z
    · exact ⟨_, h, q⟩
    · exact i b z
  have two : ∀ {as bs : List Addr}, (∀ b ∈ as, ∃ o, H b = some o ∧ mutO o = true) → (∀ b ∈ bs, ∃ o, H b = some o ∧ mutO o = true) → ∀ b ∈ as ++ bs, ∃ o, H b = some o ∧ mutO o = true := fun i j b z => (List.mem_append.mp z).elim (i b) (j b)
  induction r with
  | nil => intro a z; cases z
  | lsO h _ _ _ i2 => exact one h rfl i2
  | dcO h _ _ _ _ i2 => exact one h rfl i2
  | nst h _ _ i1 i2 => exact one h rfl (two i1 i2)
  | ndc h _ _ _ i1 i2 => exact one h rfl (two i1 i2)
  | ins h _ _ _ i1 i2 => exact one h rfl (two i1 i2)
  | set h _ _ i => exact one h rfl i
  | _ => assumption
theorem Rp.keep (k : Kp H H' L) (hL : ∀ b ∈ L, b ∈ W) (hW : ∀ b, (∃ o, H b = some o) → b ∉ W → b ∉ W') (hm : ∀ (l : Nat) a, m[l]? = some a → m'[l]? = some a)
    (r : Rp K H W m vs xs as) : (∀ b ∈ as, b ∉ L) → Rp K H' W' m' vs xs as := by
  induction r with
  | nil => intro _; exact .nil
  | non _ i => intro n; exact .non (i n)
  | bl _ i => intro n; exact .bl (i n)
  | int _ i => intro n; exact .int (i n)
  | str _ i => intro n; exact .str (i n)
  | tup h _ _ i1 i2 => intro n; exact .tup (sqT_keep k h) (i1 (fun _ z => nomatch z)) (i2 n)
  | lsI h nw _ _ i1 i2 => intro n; exact .lsI (k.keep _ _ h (fun z => nw (hL _ z)) (fun ps z => by cases z)) (hW _ ⟨_, h⟩ nw) (i1 (fun _ z => nomatch z)) (i2 n)
  | lsO h _ _ i1 i2 => intro n; exact .lsO (k.keep _ _ h (n _ (by simp)) (fun ps z => by cases z)) (i1 (fun _ z => nomatch z)) (i2 (fun b z => n b (by simp [z])))
  | dcI h nw e _ _ i1 i2 => intro n; exact .dcI (k.keep _ _ h (fun z => nw (hL _ z)) (fun ps z => by cases z)) (hW _ ⟨_, h⟩ nw) e (i1 (fun _ z => nomatch z)) (i2 n)
  | dcO h e _ _ i1 i2 => intro n; exact .dcO (k.keep _ _ h (n _ (by simp)) (fun ps z => by cases z)) e (i1 (fun _ z => nomatch z)) (i2 (fun b z => n b (by simp [z])))
  | nst h _ _ i1 i2 =>
    intro n
    exact .nst (k.keep _ _ h (n _ (by simp)) (fun ps z => by cases z)) (i1 (fun b z => n b (by simp [z]))) (i2 (fun b z => n b (by simp [z])))
  | ndc h e _ _ i1 i2 =>
    intro n
    exact .ndc (k.keep _ _ h (n _ (by simp)) (fun ps z => by cases z)) e (i1 (fun b z => n b (by simp [z]))) (i2 (fun b z => n b (by simp [z])))
  | ins h e _ _ i1 i2 =>
    intro n
    exact .ins (k.keep _ _ h (n _ (by simp)) (fun ps z => by cases z)) e (i1 (fun b z => n b (by simp [z]))) (i2 (fun b z => n b (by simp [z])))
  | scr h _ _ i1 i2 => intro n; exact .scr (scr_keep k h) (i1 (fun _ z => nomatch z)) (i2 n)
  | loc h _ i => intro n; exact .loc (hm _ _ h) (i n)
  | ded _ i => intro n; exact .ded (i n)
  | tud h d _ _ i1 i2 => intro n; exact .tud (frz_keep k h) d (i1 (fun _ z => nomatch z)) (i2 n)
  | set h e _ i => intro n; exact .set (k.keep _ _ h (n _ (by simp)) (fun ps z => by cases z)) e (i (fun b z => n b (by simp [z])))
/-- one behind the other -/
theorem Rp.app (r : Rp K H W m vs xs as) (q : Rp K H W m vs' xs' as') : Rp K H W m (vs ++ vs') (xs ++ xs') (as ++ as') := by
  induction r with
  | nil => exact q
  | non _ i => exact .non i
  | bl _ i => exact .bl i
  | int _ i => exact .int i
  | str _ i => exact .str i
  | tup h q1 _ _ i2 => exact .tup h q1 i2
  | lsI h n q1 _ _ i2 => exact .lsI h n q1 i2
  | lsO h q1 _ _ i2 => exact .lsO h q1 i2
  | nst h q1 _ _ i2 => exact (by simpa [List.append_assoc] using Rp.nst h q1 i2)
  | ndc h e q1 _ _ i2 => exact (by simpa [List.append_assoc] using Rp.ndc h e q1 i2)
  | dcI h n e q1 _ _ i2 => exact .dcI h n e q1 i2
  | dcO h e q1 _ _ i2 => exact .dcO h e q1 i2
  | ins h e q1 _ _ i2 => exact (by simpa [List.append_assoc] using Rp.ins h e q1 i2)
  | scr h q1 _ _ i2 => exact .scr h q1 i2
  | loc h _ i => exact .loc h i
  | ded _ i => exact .ded i
  | set h e _ i => exact .set h e i
  | tud h d q1 _ _ i2 => exact .tud h d q1 i2
theorem Rp.cons (r : Rp K H W m [v] [x] as) (q : Rp K H W m vs xs as') : Rp K H W m (v :: vs) (x :: xs) (as ++ as') := r.app q
/-- the first and the rest -/
theorem Rp.head (r : Rp K H W m (v :: vs) (x :: xs) as) : ∃ a1 a2, as = a1 ++ a2 ∧ Rp K H W m [v] [x] a1 ∧ Rp K H W m vs xs a2 := by
  cases r with
  | non r => exact ⟨[], as, rfl, .non .nil, r⟩
  | bl r => exact ⟨[], as, rfl, .bl .nil, r⟩
  | int r => exact ⟨[], as, rfl, .int .nil, r⟩
  | str r => exact ⟨[], as, rfl, .str .nil, r⟩
  | tup h q r => exact ⟨[], as, rfl, .tup h q .nil, r⟩
  | lsI h n q r => exact ⟨[], as, rfl, .lsI h n q .nil, r⟩
  | @lsO a us ys _ _ as' h q r => exact ⟨[a], as', rfl, .lsO h q .nil, r⟩
  | @nst a us ys bs _ _ as' h q r => exact ⟨a :: (bs ++ []), as', by simp, .nst h q .nil, r⟩
  | @ndc a kvs ks ys bs _ _ as' h e q r => exact ⟨a :: (bs ++ []), as', by simp, .ndc h e q .nil, r⟩
  | dcI h n e q r => exact ⟨[], as, rfl, .dcI h n e q .nil, r⟩
  | @dcO a kvs ks ys _ _ as' h e q r => exact ⟨[a], as', rfl, .dcO h e q .nil, r⟩
  | @ins a C dx fs ks ys bs _ _ as' h e q r => exact ⟨a :: (bs ++ []), as', by simp, .ins h e q .nil, r⟩
  | scr h q r => exact ⟨[], as, rfl, .scr h q .nil, r⟩
  | loc h r => exact ⟨[], as, rfl, .loc h .nil, r⟩
  | ded r => exact ⟨[], as, rfl, .ded .nil, r⟩
  | tud h d q r => exact ⟨[], as, rfl, .tud h d q .nil, r⟩
  | @set a S n ks _ _ as' h e r => exact ⟨[a], as', rfl, .set h e .nil, r⟩
theorem Rp.nil_inv (r : Rp K H W m vs [] as) : vs = [] ∧ as = [] := by
  cases r
  exact ⟨rfl, rfl⟩
theorem Rp.nil_inv' (r : Rp K H W m [] xs as) : xs = [] ∧ as = [] := by
  cases r
  exact ⟨rfl, rfl⟩
/-- shared things alone -/
theorem Rp.head0 (r : Rp K H W m (v :: vs) (x :: xs) []) : Rp K H W m [v] [x] [] ∧ Rp K H W m vs xs [] := by
  obtain ⟨a1, a2, e, r1, r2⟩ := r.head
  have e1 : a1 = [] ∧ a2 = [] := List.append_eq_nil_iff.mp e.symm
  rw [e1.1] at r1
  rw [e1.2] at r2
  exact ⟨r1, r2⟩
theorem Rp.cons0 (r : Rp K H W m [v] [x] []) (q : Rp K H W m vs xs as) : Rp K H W m (v :: vs) (x :: xs) as := r.app q
theorem Rp.app_inv : ∀ {vs vs' : List V} {xs xs' : List AV} {as : List Addr}, vs.length = xs.length → Rp K H W m (vs ++ vs') (xs ++ xs') as → ∃ a1 a2, as = a1 ++ a2 ∧ Rp K H W m vs xs a1 ∧ Rp K H W m vs' xs' a2
  | [], _, [], _, as, _, r => ⟨[], as, rfl, .nil, r⟩
  | [], _, _ :: _, _, _, h, _ => by cases h
  | _ :: _, _, [], _, _, h, _ => by cases h
  | v :: vs, vs', x :: xs, xs', as, h, r => by
    obtain ⟨a1, a2, e, r1, r2⟩ := Rp.head (show Rp K H W m (v :: (vs ++ vs')) (x :: (xs ++ xs')) as from r)
    obtain ⟨b1, b2, e2, q1, q2⟩ := Rp.app_inv (by simpa using h) r2
    exact ⟨a1 ++ b1, b2, by rw [e, e2, List.append_assoc], r1.cons q1, q2⟩
/-- at a place -/
theorem Rp.at_ {j : Nat} (r : Rp K H W m vs xs as) (h : xs[j]? = some x) : ∃ v a1 b a2, vs[j]? = some v ∧ as = a1 ++ (b ++ a2) ∧ Rp K H W m (vs.take j) (xs.take j) a1 ∧ Rp K H W m [v] [x] b ∧ Rp K H W m (vs.drop (j + 1)) (xs.drop (j + 1)) a2 := by
  have hl := r.len
  obtain ⟨hj, ex⟩ := List.getElem?_eq_some_iff.mp h
  have hj2 : j < vs.length := by omega
  have e1 : xs = xs.take j ++ (x :: xs.drop (j + 1)) := by
    conv => lhs; rw [← List.take_append_drop j xs]
    rw [List.drop_eq_getElem_cons hj, ex]
  have e2 : vs = vs.take j ++ (vs[j] :: vs.drop (j + 1)) := by
    conv => lhs; rw [← List.take_append_drop j vs]
    rw [List.drop_eq_getElem_cons hj2]
  have r' := r
  rw [e1, e2] at r'
  obtain ⟨a1, a2, e, r1, r2⟩ := Rp.app_inv (by simp; omega) r'
  obtain ⟨b, c, e3, r3, r4⟩ := r2.head
  exact ⟨vs[j], a1, b, c, by simp [hj2], by rw [e, e3], r1, r3, r4⟩
theorem Rp.put {j : Nat} {a1 b a2 : List Addr} (hj : j < xs.length) (r1 : Rp K H W m (vs.take j) (xs.take j) a1) (r2 : Rp K H W m [v] [x] b) (r3 : Rp K H W m (vs.drop (j + 1)) (xs.drop (j + 1)) a2) (hl : vs.length = xs.length) :
    Rp K H W m (vs.set j v) (xs.set j x) (a1 ++ (b ++ a2)) := by
  rw [List.set_eq_take_append_cons_drop, List.set_eq_take_append_cons_drop, if_pos hj, if_pos (by omega)]
  exact r1.app (r2.cons r3)
theorem Rp.get0 {j : Nat} (r : Rp K H W m vs xs []) (h : xs[j]? = some x) : ∃ v, vs[j]? = some v ∧ Rp K H W m [v] [x] [] := by
  obtain ⟨v, a1, b, a2, e1, e2, _, r2, _⟩ := r.at_ h
  obtain ⟨_, e3⟩ := List.append_eq_nil_iff.mp e2.symm
  obtain ⟨e4, _⟩ := List.append_eq_nil_iff.mp e3
  rw [e4] at r2
  exact ⟨v, e1, r2⟩
/-- whose addresses they are plays no part but by membership -/
theorem Rp.perm (r : Rp K H W m vs xs as) (h : ∀ b, b ∈ W' → b ∈ W) : Rp K H W' m vs xs as :=
  r.keep Kp.refl (fun _ z => nomatch z) (fun b _ n z => n (h b z)) (fun _ _ e => e) (fun _ _ z => nomatch z)
/-- an owned list or dict, given up: it is shared from now on -/
def frz : AV → Option AV
  | .lst _ xs => some (.lst false xs)
  | .dct _ ks xs => some (.dct false ks xs)
  | _ => none
theorem Rp.frz {d : AV} (r : Rp K H W m [v] [x] as) (e : Fk.frz x = some d) (h : ∀ b, b ∈ W' → b ∈ W) (n : ∀ b ∈ as, b ∉ W') : Rp K H W' m [v] [d] [] := by
  cases r with
  | lsI h1 n1 q _ => cases e; exact .lsI h1 (fun z => n1 (h _ z)) (q.perm h) .nil
  | lsO h1 q _ => cases e; exact .lsI h1 (n _ (by simp)) (q.perm h) .nil
  | dcI h1 n1 e1 q _ => cases e; exact .dcI h1 (fun z => n1 (h _ z)) e1 (q.perm h) .nil
  | dcO h1 e1 q _ => cases e; exact .dcI h1 (n _ (by simp)) e1 (q.perm h) .nil
  | _ => cases e
/-- what stands in slots -/
inductive Rs (K : PySem.W.Frag) (H : Hp) (W m : List Addr) : L2.St → List Sl → List Addr → Prop
  | nil : Rs K H W m [] [] []
  | no {o σ r as} (q : Rs K H W m σ r as) : Rs K H W m (o :: σ) (.no :: r) as
  | im {v d σ r as} (h : Rp K H W m [v] [d] []) (q : Rs K H W m σ r as) : Rs K H W m (some v :: σ) (.im d :: r) as
  | ow {v d bs σ r as} (h : Rp K H W m [v] [d] bs) (q : Rs K H W m σ r as) : Rs K H W m (some v :: σ) (.ow d :: r) (bs ++ as)
variable {σ : L2.St} {r : List Sl}
theorem Rs.len (q : Rs K H W m σ r as) : σ.length = r.length := by
  induction q with
  | nil => rfl
  | _ => simp_all
theorem Rs.there (q : Rs K H W m σ r as) : ∀ a ∈ as, ∃ o, H a = some o ∧ mutO o = true := by
  induction q with
  | nil => intro a z; cases z
  | no _ i => exact i
  | im _ _ i => exact i
  | ow h _ i => exact fun b z => (List.mem_append.mp z).elim (h.there b) (i b)
theorem Rs.keep (k : Kp H H' L) (hL : ∀ b ∈ L, b ∈ W) (hW : ∀ b, (∃ o, H b = some o) → b ∉ W → b ∉ W') (hm : ∀ (l : Nat) a, m[l]? = some a → m'[l]? = some a)
    (q : Rs K H W m σ r as) : (∀ b ∈ as, b ∉ L) → Rs K H' W' m' σ r as := by
  induction q with
  | nil => intro _; exact .nil
  | no _ i => intro n; exact .no (i n)
  | im h _ i => intro n; exact .im (h.keep k hL hW hm (fun _ z => nomatch z)) (i n)
  | ow h _ i => intro n; exact .ow (h.keep k hL hW hm (fun b z => n b (by simp [z]))) (i (fun b z => n b (by simp [z])))
theorem Rs.perm (q : Rs K H W m σ r as) (h : ∀ b, b ∈ W' → b ∈ W) : Rs K H W' m σ r as :=
  q.keep Kp.refl (fun _ z => nomatch z) (fun b _ n z => n (h b z)) (fun _ _ e => e) (fun _ _ z => nomatch z)
end
/-! ### slots, by place -/
def getSl : List Sl → Nat → Sl
  | [], _ => .no
  | x :: _, 0 => x
  | _ :: r, n + 1 => getSl r n
def setSl : List Sl → Nat → Sl → List Sl
  | [], _, _ => []
  | _ :: r, 0, y => y :: r
  | x :: r, n + 1, y => x :: setSl r n y
@[simp] theorem getSl_z (x : Sl) (r : List Sl) : getSl (x :: r) 0 = x := rfl
@[simp] theorem getSl_s (x : Sl) (r : List Sl) (n : Nat) : getSl (x :: r) (n + 1) = getSl r n := rfl
@[simp] theorem setSl_z (x : Sl) (r : List Sl) (y : Sl) : setSl (x :: r) 0 y = y :: r := rfl
@[simp] theorem setSl_s (x : Sl) (r : List Sl) (n : Nat) (y : Sl) : setSl (x :: r) (n + 1) y = x :: setSl r n y := rfl
section
variable {K : PySem.W.Frag} {H H' : Hp} {W W' m m' L : List Addr} {as bs : List Addr} {v : V} {d : AV} {σ : L2.St} {r : List Sl} {i : Nat}
theorem Rs.getIm (q : Rs K H W m σ r as) (h : getSl r i = .im d) : ∃ v, σ[i]? = some (some v) ∧ Rp K H W m [v] [d] [] := by
  induction q generalizing i with
  | nil => cases h
  | no _ ih => cases i with
    | zero => cases h
    | succ i => simpa using ih h
  | im h1 _ ih => cases i with
    | zero => cases h; exact ⟨_, rfl, h1⟩
    | succ i => simpa using ih h
  | ow _ _ ih => cases i with
    | zero => cases h
    | succ i => simpa using ih h
/-- an owned thing in a slot, taken out and something put there -/
theorem Rs.getOw (q : Rs K H W m σ r as) (h : getSl r i = .ow d) : ∃ v a1 b a2, σ[i]? = some (some v) ∧ as = a1 ++ (b ++ a2) ∧ Rp K H W m [v] [d] b ∧ Rs K H W m σ (setSl r i .no) (a1 ++ a2) := by
  induction q generalizing i with
  | nil => cases h
  | no _ ih => cases i with
    | zero => cases h
    | succ i =>
      obtain ⟨v, a1, b, a2, e1, e2, h1, h2⟩ := ih h
      exact ⟨v, a1, b, a2, by simpa using e1, e2, h1, .no h2⟩
  | im h0 _ ih => cases i with
    | zero => cases h
    | succ i =>
      obtain ⟨v, a1, b, a2, e1, e2, h1, h2⟩ := ih h
      exact ⟨v, a1, b, a2, by simpa using e1, e2, h1, .im h0 h2⟩
  | @ow v0 d0 bs0 σ r as h0 q0 ih => cases i with
    | zero => cases h; exact ⟨v0, [], bs0, as, rfl, rfl, h0, .no q0⟩
    | succ i =>
      obtain ⟨v, a1, b, a2, e1, e2, h1, h2⟩ := ih h
      refine ⟨v, bs0 ++ a1, b, a2, by simpa using e1, by rw [e2]; simp, h1, ?_⟩
      have h3 := Rs.ow h0 h2
      rw [List.append_assoc]
      exact h3
/-- a slot forgotten: what it owned goes -/
theorem Rs.drop (q : Rs K H W m σ r as) (i : Nat) : ∃ as', (∀ b ∈ as', b ∈ as) ∧ (as.Nodup → as'.Nodup) ∧ Rs K H W m σ (setSl r i .no) as' := by
  induction q generalizing i with
  | nil => exact ⟨[], fun _ z => z, fun z => z, .nil⟩
  | no q0 ih => cases i with
    | zero => exact ⟨_, fun _ z => z, fun z => z, .no q0⟩
    | succ i =>
      obtain ⟨as', h1, h2, h3⟩ := ih i
      exact ⟨as', h1, h2, .no h3⟩
  | im h0 q0 ih => cases i with
    | zero => exact ⟨_, fun _ z => z, fun z => z, .no q0⟩
    | succ i =>
      obtain ⟨as', h1, h2, h3⟩ := ih i
      exact ⟨as', h1, h2, .im h0 h3⟩
  | @ow v0 d0 bs0 σ r as h0 q0 ih => cases i with
    | zero => exact ⟨as, fun _ z => by simp [z], fun z => (List.nodup_append.mp z).2.1, .no q0⟩
    | succ i =>
      obtain ⟨as', h1, h2, h3⟩ := ih i
      refine ⟨bs0 ++ as', fun b z => ?_, fun z => ?_, .ow h0 h3⟩
      · rcases List.mem_append.mp z with z | z
        · simp [z]
        · simp [h1 b z]
      · obtain ⟨n1, n2, n3⟩ := List.nodup_append.mp z
        exact List.nodup_append.mpr ⟨n1, h2 n2, fun a ha b hb => n3 a ha b (h1 b hb)⟩
theorem Rs.setNo (q : Rs K H W m σ (setSl r i .no) as) (hi : i < r.length) (h : Rp K H W m [v] [d] []) : Rs K H W m (σ.set i (some v)) (setSl r i (.im d)) as := by
  induction r generalizing i σ as with
  | nil => simp at hi
  | cons x r ih => cases i with
    | zero =>
      cases q with
      | no q => exact .im h q
    | succ i =>
      have hi' : i < r.length := by simpa using hi
      cases q with
      | no q => exact .no (ih q hi')
      | im h0 q => exact .im h0 (ih q hi')
      | ow h0 q => exact .ow h0 (ih q hi')
theorem Rs.setOw (q : Rs K H W m σ (setSl r i .no) as) (hi : i < r.length) (h : Rp K H W m [v] [d] bs) : ∃ a1 a2, as = a1 ++ a2 ∧ Rs K H W m (σ.set i (some v)) (setSl r i (.ow d)) (a1 ++ (bs ++ a2)) := by
  induction r generalizing i σ as with
  | nil => simp at hi
  | cons x r ih => cases i with
    | zero =>
      cases q with
      | no q => exact ⟨[], as, rfl, by simpa using Rs.ow h q⟩
    | succ i =>
      have hi' : i < r.length := by simpa using hi
      cases q with
      | no q =>
        obtain ⟨a1, a2, e, h1⟩ := ih q hi'
        exact ⟨a1, a2, e, .no h1⟩
      | im h0 q =>
        obtain ⟨a1, a2, e, h1⟩ := ih q hi'
        exact ⟨a1, a2, e, .im h0 h1⟩
      | @ow _ _ b0 _ _ as0 h0 q =>
        obtain ⟨a1, a2, e, h1⟩ := ih q hi'
        refine ⟨b0 ++ a1, a2, by rw [e, List.append_assoc], ?_⟩
        have h3 := Rs.ow h0 h1
        rw [List.append_assoc]
        exact h3
theorem setSl_len : ∀ (r : List Sl) (i : Nat) (y : Sl), (setSl r i y).length = r.length
  | [], _, _ => rfl
  | _ :: _, 0, _ => rfl
  | _ :: r, i + 1, y => by simp [setSl_len r i y]
theorem getSl_lt : ∀ {r : List Sl} {i : Nat}, getSl r i ≠ .no → i < r.length
  | [], _, h => absurd rfl h
  | _ :: _, 0, _ => by simp
  | _ :: r, i + 1, h => by simpa using getSl_lt (r := r) h
end
end Fk
/-! ## states: slots, objects, what is pending -/
namespace Fk
open PySem PySem.Spec PyProof.Rows L2
/-- how a def was entered: U what its callers own, H0 the heap, A0 what the objects own, m0 where they stand; T the tables of code -/
structure Gam where
  U : List Addr
  H0 : Hp
  A0 : List Addr
  m0 : List Addr
  T : List (Addr × Str)
/-- what is pending: shared values, owned ones, ones that are only looked at -/
structure Pd where
  iv : List V := []
  ix : List AV := []
  ov : List V := []
  ox : List AV := []
  bv : List V := []
  bx : List AV := []
abbrev Pd.sh (p : Pd) (v : V) (d : AV) : Pd := { p with iv := v :: p.iv, ix := d :: p.ix }
abbrev Pd.own (p : Pd) (v : V) (d : AV) : Pd := { p with ov := v :: p.ov, ox := d :: p.ox }
abbrev Pd.lk (p : Pd) (v : V) (d : AV) : Pd := { p with bv := v :: p.bv, bx := d :: p.bx }
abbrev Pd.nob (p : Pd) : Pd := { p with bv := [], bx := [] }
abbrev wOf (Γ : Gam) (ar am ao : List Addr) : List Addr := Γ.U ++ (ar ++ (am ++ ao))
/-- the tables of code of T -/
structure Tb (T : List (Addr × Str)) (H : Hp) : Prop where
  t : LamX.Tabs T H
theorem Tb.new {T : List (Addr × Str)} {H : Hp} {q : Addr} {o : HO} (x : Tb T H) (h : H q = none) (no : NoTbl o) : Tb T (upd H q o) :=
  ⟨x.t.ext fun b u e => by rw [upd_ne (ne_of_none e h)]; exact e⟩
structure Rl (K : PySem.W.Frag) (Γ : Gam) (σ : L2.St) (H : Hp) (st : Ss) (p : Pd) (m ar am ao ab : List Addr) : Prop where
  rs : Rs K H (wOf Γ ar am ao) m σ st.r ar
  rm : Rp K H (wOf Γ ar am ao) m (m.map V.ref) st.s am
  ri : Rp K H (wOf Γ ar am ao) m p.iv p.ix []
  ro : Rp K H (wOf Γ ar am ao) m p.ov p.ox ao
  rb : Rp K H (wOf Γ ar am ao) m p.bv p.bx ab
  nd : (wOf Γ ar am ao).Nodup
  fr : ∀ a ∈ ar ++ (am ++ ao), a ∈ Γ.A0 ∨ Γ.H0 a = none
  kp : ∀ a o, Γ.H0 a = some o → a ∉ Γ.A0 → ∃ o', H a = some o' ∧ (NoTbl o → o' = o)
  pm : ∀ (l : Nat) a, Γ.m0[l]? = some a → m[l]? = some a
  gu : ∀ a ∈ Γ.U, (∃ o, Γ.H0 a = some o ∧ mutO o = true) ∧ a ∉ Γ.A0
  tb : Tb Γ.T H
def Rel (K : PySem.W.Frag) (Γ : Gam) (σ : L2.St) (H : Hp) (st : Ss) (p : Pd) : Prop := ∃ m ar am ao ab, Rl K Γ σ H st p m ar am ao ab
theorem mut_noTbl {o : HO} (h : mutO o = true) : NoTbl o := fun ps z => by
  subst z
  cases h
section
variable {K : PySem.W.Frag} {Γ : Gam} {σ : L2.St} {H H' : Hp} {st : Ss} {p : Pd} {m ar am ao ab : List Addr}
/-- all owned ones stand -/
theorem Rl.own (R : Rl K Γ σ H st p m ar am ao ab) : ∀ a ∈ wOf Γ ar am ao, ∃ o, H a = some o ∧ mutO o = true := fun a ha => by
  rcases List.mem_append.mp ha with h | h
  · obtain ⟨⟨o, e, q⟩, n⟩ := R.gu a h
    obtain ⟨o', e', f⟩ := R.kp a o e n
    rw [f (mut_noTbl q)] at e'
    exact ⟨o, e', q⟩
  · rcases List.mem_append.mp h with h | h
    · exact R.rs.there a h
    · rcases List.mem_append.mp h with h | h
      · exact R.rm.there a h
      · exact R.ro.there a h
theorem Rl.fresh (R : Rl K Γ σ H st p m ar am ao ab) {q : Addr} (h : H q = none) : q ∉ wOf Γ ar am ao := fun z => by
  obtain ⟨o, e, _⟩ := R.own q z
  rw [h] at e
  cases e
theorem Rl.free0 (R : Rl K Γ σ H st p m ar am ao ab) {q : Addr} (h : H q = none) : q ∈ Γ.A0 ∨ Γ.H0 q = none := by
  by_cases c : q ∈ Γ.A0
  · exact .inl c
  · right
    cases e : Γ.H0 q with
    | none => rfl
    | some o =>
      obtain ⟨o', e', _⟩ := R.kp q o e c
      rw [h] at e'
      cases e'
theorem tabs_put {T : List (Addr × Str)} {a : Addr} {o u : HO} (x : Tb T H) (h : H a = some u) (q : mutO u = true) (no : NoTbl o := by intro ps z; cases z) : Tb T (upd H a o) := by
  refine ⟨fun p hp => ?_⟩
  obtain ⟨ps, e, tr, f⟩ := x.t p hp
  refine ⟨ps, ?_, tr, fun pos cv hc => ?_⟩
  · rw [upd_ne]
    · exact e
    · rintro rfl
      rw [e] at h
      cases h
      cases q
  · obtain ⟨c, e1, e2⟩ := f pos cv hc
    refine ⟨c, e1, ?_⟩
    rw [upd_ne]
    · exact e2
    · rintro rfl
      rw [e2] at h
      cases h
      cases q
/-- a new thing is laid: nothing else turns -/
theorem Rl.up (R : Rl K Γ σ H st p m ar am ao ab) {q : Addr} (h : H q = none) (o : HO) (no : NoTbl o := by intro ps z; cases z) : Rl K Γ σ (upd H q o) st p m ar am ao ab where
  rs := R.rs.keep (Kp.new h) (fun _ z => nomatch z) (fun _ _ n => n) (fun _ _ e => e) (fun _ _ z => nomatch z)
  rm := R.rm.keep (Kp.new h) (fun _ z => nomatch z) (fun _ _ n => n) (fun _ _ e => e) (fun _ _ z => nomatch z)
  ri := R.ri.keep (Kp.new h) (fun _ z => nomatch z) (fun _ _ n => n) (fun _ _ e => e) (fun _ _ z => nomatch z)
  ro := R.ro.keep (Kp.new h) (fun _ z => nomatch z) (fun _ _ n => n) (fun _ _ e => e) (fun _ _ z => nomatch z)
  rb := R.rb.keep (Kp.new h) (fun _ z => nomatch z) (fun _ _ n => n) (fun _ _ e => e) (fun _ _ z => nomatch z)
  nd := R.nd
  fr := R.fr
  kp := fun a u e n => by
    obtain ⟨o', e', f⟩ := R.kp a u e n
    exact ⟨o', by rw [upd_ne (ne_of_none e' h)]; exact e', f⟩
  pm := R.pm
  gu := R.gu
  tb := R.tb.new h no
/-- values pending: dropped, taken -/
theorem Rl.setI (R : Rl K Γ σ H st p m ar am ao ab) {vs : List V} {xs : List AV} (h : Rp K H (wOf Γ ar am ao) m vs xs []) : Rl K Γ σ H st { p with iv := vs, ix := xs } m ar am ao ab :=
  ⟨R.rs, R.rm, h, R.ro, R.rb, R.nd, R.fr, R.kp, R.pm, R.gu, R.tb⟩
theorem Rl.setB (R : Rl K Γ σ H st p m ar am ao ab) {vs : List V} {xs : List AV} {ab' : List Addr} (h : Rp K H (wOf Γ ar am ao) m vs xs ab') : Rl K Γ σ H st { p with bv := vs, bx := xs } m ar am ao ab' :=
  ⟨R.rs, R.rm, R.ri, R.ro, h, R.nd, R.fr, R.kp, R.pm, R.gu, R.tb⟩
theorem Rl.nob (R : Rl K Γ σ H st p m ar am ao ab) : Rl K Γ σ H st p.nob m ar am ao [] := R.setB .nil
/-- a new tuple -/
theorem Rl.tup (R : Rl K Γ σ H st p m ar am ao ab) {q : Addr} {vs : List V} {xs : List AV} (h : H q = none) (r : Rp K H (wOf Γ ar am ao) m vs xs []) : Rl K Γ σ (upd H q (.tup vs)) st (p.sh (.ref q) (.tup xs)) m ar am ao ab := by
  have R' := R.up h (.tup vs)
  have r' := r.keep (Kp.new (o := .tup vs) h) (fun _ z => nomatch z) (fun _ _ n => n) (fun _ _ e => e) (fun _ z => nomatch z)
  exact R'.setI (.tup (SqT.of upd_same) r' R'.ri)
/-- a new shared list, dict -/
theorem Rl.lst (R : Rl K Γ σ H st p m ar am ao ab) {q : Addr} {vs : List V} {xs : List AV} (h : H q = none) (r : Rp K H (wOf Γ ar am ao) m vs xs []) : Rl K Γ σ (upd H q (.lst vs)) st (p.sh (.ref q) (.lst false xs)) m ar am ao ab := by
  have R' := R.up h (.lst vs)
  have r' := r.keep (Kp.new (o := .lst vs) h) (fun _ z => nomatch z) (fun _ _ n => n) (fun _ _ e => e) (fun _ z => nomatch z)
  exact R'.setI (.lsI upd_same (R.fresh h) r' R'.ri)
/-- how what is kept passes over -/
structure Tr (H H' : Hp) (W W' m m' L : List Addr) : Prop where
  k : Kp H H' L
  hL : ∀ b ∈ L, b ∈ W
  hW : ∀ b, (∃ o, H b = some o) → b ∉ W → b ∉ W'
  hm : ∀ (l : Nat) a, m[l]? = some a → m'[l]? = some a
variable {W W' m' L : List Addr} {vs : List V} {xs : List AV} {as : List Addr} {r : List Sl}
theorem Tr.rp (t : Tr H H' W W' m m' L) (h : Rp K H W m vs xs as) (n : ∀ b ∈ as, b ∉ L) : Rp K H' W' m' vs xs as := h.keep t.k t.hL t.hW t.hm n
theorem Tr.rp0 (t : Tr H H' W W' m m' L) (h : Rp K H W m vs xs []) : Rp K H' W' m' vs xs [] := h.keep t.k t.hL t.hW t.hm (fun _ z => nomatch z)
theorem Tr.rs (t : Tr H H' W W' m m' L) (h : Rs K H W m σ r as) (n : ∀ b ∈ as, b ∉ L) : Rs K H' W' m' σ r as := h.keep t.k t.hL t.hW t.hm n
/-- a fresh thing that is owned -/
theorem Tr.new {q : Addr} {o : HO} (h : H q = none) (hw : ∀ b, b ∈ W' → b ∈ W ∨ b = q) : Tr H (upd H q o) W W' m m [] :=
  ⟨Kp.new h, (fun _ z => nomatch z), fun b ⟨o, e⟩ n z => (hw b z).elim n (fun z => by rw [z, h] at e; cases e), fun _ _ e => e⟩
/-- an owned thing is written -/
theorem Tr.put {q : Addr} {o u : HO} (h : H q = some u) (hm : mutO u = true) (hq : q ∈ W) (hw : ∀ b, b ∈ W' → b ∈ W) : Tr H (upd H q o) W W' m m [q] :=
  ⟨Kp.put h hm, fun b z => by rw [List.mem_singleton.mp z]; exact hq, fun b _ n z => n (hw b z), fun _ _ e => e⟩
theorem Tr.same (hw : ∀ b, b ∈ W' → b ∈ W) : Tr H H W W' m m [] := ⟨Kp.refl, (fun _ z => nomatch z), fun b _ n z => n (hw b z), fun _ _ e => e⟩
/-- a new list, dict that is owned by what is pending -/
theorem Rl.newO (R : Rl K Γ σ H st p m ar am ao ab) {q : Addr} {o : HO} {d : AV} (h : H q = none) (hr : ∀ {H' : Hp} {W' : List Addr}, Tr H H' (wOf Γ ar am ao) W' m m [] → H' q = some o → Rp K H' W' m [.ref q] [d] [q]) (no : NoTbl o := by intro ps z; cases z) :
    Rl K Γ σ (upd H q o) st (p.own (.ref q) d) m ar am (q :: ao) ab := by
  have t : Tr H (upd H q o) (wOf Γ ar am ao) (wOf Γ ar am (q :: ao)) m m [] := Tr.new h fun b z => by
    simp only [wOf, List.mem_append, List.mem_cons] at z ⊢
    grind
  have nq := R.fresh h
  refine ⟨t.rs R.rs (fun _ _ z => nomatch z), t.rp R.rm (fun _ _ z => nomatch z), t.rp0 R.ri, (hr t upd_same).cons (t.rp R.ro (fun _ _ z => nomatch z)), t.rp R.rb (fun _ _ z => nomatch z), ?_, ?_, ?_, R.pm, R.gu, ?_⟩
  · have h := R.nd
    simp only [wOf, List.nodup_append, List.nodup_cons, List.mem_append, List.mem_cons] at h nq ⊢
    grind
  · intro a ha
    have h1 := R.fr a
    have h2 := R.free0 h
    simp only [List.mem_append, List.mem_cons] at h1 ha
    grind
  · intro a u e n
    obtain ⟨o', e', f⟩ := R.kp a u e n
    exact ⟨o', by rw [upd_ne (ne_of_none e' h)]; exact e', f⟩
  · exact R.tb.new h no
end
/-! ### readings -/
/-- an expression that gives a shared value -/
def rdE (K : PySem.W.Frag) (Γ : Gam) (W : WX) (m : M AV) : TE := fun σ H Q => ∃ st p, Rel K Γ σ H st p ∧ match m st with
  | .ok d st' => ∀ v H', Rel K Γ σ H' st' (p.nob.sh v d) → Q v H'
  | .err c st' => ∀ H', Rel K Γ σ H' st' p.nob → W (.ref (He.ga K c)) none σ H'
  | .bad => False
/-- .. a new one that is owned -/
def rdO (K : PySem.W.Frag) (Γ : Gam) (W : WX) (m : M AV) : TE := fun σ H Q => ∃ st p, Rel K Γ σ H st p ∧ match m st with
  | .ok d st' => ∀ v H', Rel K Γ σ H' st' (p.nob.own v d) → Q v H'
  | .err c st' => ∀ H', Rel K Γ σ H' st' p.nob → W (.ref (He.ga K c)) none σ H'
  | .bad => False
/-- .. that is looked at alone: nothing turns -/
def rdP (K : PySem.W.Frag) (Γ : Gam) (m : Ss → Option AV) : TE := fun σ H Q => ∃ st p d, Rel K Γ σ H st p ∧ m st = some d ∧ ∀ v, Rel K Γ σ H st (p.lk v d) → Q v H
def rdT (K : PySem.W.Frag) (Γ : Gam) (W : WX) (m : M Bool) : TT := fun σ H Q => ∃ st p, Rel K Γ σ H st p ∧ match m st with
  | .ok b st' => ∀ H', Rel K Γ σ H' st' p.nob → Q b H'
  | .err c st' => ∀ H', Rel K Γ σ H' st' p.nob → W (.ref (He.ga K c)) none σ H'
  | .bad => False
def rdA (K : PySem.W.Frag) (Γ : Gam) (W : WX) (m : M (List AV)) : TA := fun σ H Q => ∃ st p, Rel K Γ σ H st p ∧ match m st with
  | .ok ds st' => ∀ vs H', vs.length = ds.length → Rel K Γ σ H' st' { p.nob with iv := vs ++ p.iv, ix := ds ++ p.ix } → Q vs H'
  | .err c st' => ∀ H', Rel K Γ σ H' st' p.nob → W (.ref (He.ga K c)) none σ H'
  | .bad => False
def rdS (K : PySem.W.Frag) (Γ : Gam) (W : WX) (m : M Fl) : TS := fun D σ H => ∃ st p, Rel K Γ σ H st p ∧ p.nob = p ∧ match m st with
  | .ok .nx st' => ∀ σ' H', Rel K Γ σ' H' st' p → D.nx σ' H'
  | .ok (.rt d) st' => ∀ v σ' H', Rel K Γ σ' H' st' (p.sh v d) → D.rt v H'
  | .ok .bk st' => ∀ σ' H', Rel K Γ σ' H' st' p → D.bk σ' H'
  | .ok .ct st' => ∀ σ' H', Rel K Γ σ' H' st' p → D.ct σ' H'
  | .err c st' => ∀ σ' H', Rel K Γ σ' H' st' p → W (.ref (He.ga K c)) none σ' H'
  | .bad => False
def Res.bind {α β γ : Type} (x : Res α γ) (k : α → γ → Res β γ) : Res β γ := match x with
  | .ok a s => k a s
  | .err c s => .err c s
  | .bad => .bad
@[simp] theorem Res.bind_ok {α β γ : Type} (a : α) (s : γ) (k : α → γ → Res β γ) : (Res.ok a s).bind k = k a s := rfl
@[simp] theorem Res.bind_err {α β γ : Type} (c : Str) (s : γ) (k : α → γ → Res β γ) : (Res.err c s : Res α γ).bind k = .err c s := rfl
@[simp] theorem Res.bind_bad {α β γ : Type} (k : α → γ → Res β γ) : (Res.bad : Res α γ).bind k = .bad := rfl
def ofO {α γ : Type} : Option α → γ → Res α γ
  | some d, s => .ok d s
  | none, _ => .bad
@[simp] theorem ofO_some {α γ : Type} (d : α) (s : γ) : ofO (some d) s = .ok d s := rfl
@[simp] theorem ofO_none {α γ : Type} (s : γ) : ofO (none : Option α) s = .bad := rfl
/-! ### terms -/
def eVar (i : Nat) : M AV := fun st => match getSl st.r i with
  | .im d => .ok d st
  | .ow d => match frz d with
    | some d' => .ok d' ⟨setSl st.r i (.im d'), st.s⟩
    | none => .bad
  | .no => .bad
def eC (d : AV) : M AV := fun st => .ok d st
def e1 (f : AV → Option AV) (a : M AV) : M AV := fun st => (a st).bind fun x s1 => ofO (f x) s1
def e2 (f : AV → AV → Option AV) (a b : M AV) : M AV := fun st => (a st).bind fun x s1 => (b s1).bind fun y s2 => ofO (f x y) s2
section
variable {X : Cx} {Γ : Gam} {W : WX} {σ : L2.St} {H H' : Hp} {st : Ss} {p : Pd}
theorem pe_imp {e : Expr} {t t' : TE} (h : PE X e t) (i : ∀ σ H Q, t' σ H Q → t σ H Q) : PE X e t' := ⟨fun pins s σ H Q I q => h.run pins s σ H Q I (i σ H Q q)⟩
theorem pt_imp {e : Expr} {t t' : TT} (h : PT X e t) (i : ∀ σ H Q, t' σ H Q → t σ H Q) : PT X e t' := ⟨fun pins s σ H Q I q => h.run pins s σ H Q I (i σ H Q q)⟩
theorem pw_imp {e : Expr} {t t' : TT} (h : PW X e t) (i : ∀ σ H Q, t' σ H Q → t σ H Q) : PW X e t' := ⟨fun wh pins s σ H Q I q => h.run wh pins s σ H Q I (i σ H Q q)⟩
theorem pa_imp {es : List Expr} {t t' : TA} (h : PA X es t) (i : ∀ σ H Q, t' σ H Q → t σ H Q) : PA X es t' := ⟨fun pos pins s σ H Q I q => h.run pos pins s σ H Q I (i σ H Q q)⟩
theorem ps_imp {s : Stmt} {t t' : TS} (h : PS X s t) (i : ∀ D σ H, t' D σ H → t D σ H) : PS X s t' := ⟨fun pins s σ H D I q => h.run pins s σ H D I (i D σ H q)⟩
theorem pss_imp {s : List Stmt} {t t' : TS} (h : PSs X s t) (i : ∀ D σ H, t' D σ H → t D σ H) : PSs X s t' := ⟨fun pins s σ H D I q => h.run pins s σ H D I (i D σ H q)⟩
variable {K : PySem.W.Frag}
theorem Rel.nob (R : Rel K Γ σ H st p) : Rel K Γ σ H st p.nob := by
  obtain ⟨m, ar, am, ao, ab, R⟩ := R
  exact ⟨m, ar, am, ao, [], R.nob⟩
theorem Rel.shC (R : Rel K Γ σ H st p) {v : V} {d : AV} (h : ∀ W m, Rp K H W m [v] [d] []) : Rel K Γ σ H st (p.sh v d) := by
  obtain ⟨m, ar, am, ao, ab, R⟩ := R
  exact ⟨m, ar, am, ao, ab, R.setI ((h _ _).cons0 R.ri)⟩
theorem Rel.drop {v : V} {d : AV} (R : Rel K Γ σ H st (p.sh v d)) : Rel K Γ σ H st p := by
  obtain ⟨m, ar, am, ao, ab, R⟩ := R
  exact ⟨m, ar, am, ao, ab, R.setI R.ri.head0.2⟩
/-- a name -/
theorem s_var {x : Str} {i : Nat} {pos : Pos} (hN : X.N[i]? = some x) (hv : Vis X.env.scope x) (hd : (x == ("__debug__" : Str)) = false := by decide) (hcd : (x == ("__classdict__" : Str)) = false := by decide) : PE X (.Name x pos) (rdE X.K Γ W (eVar i)) := by
  refine pe_imp (pe_var hN hv hd hcd) fun σ H Q h => ?_
  obtain ⟨st, p, ⟨m, ar, am, ao, ab, R⟩, h⟩ := h
  unfold eVar at h
  cases e : getSl st.r i with
  | no => rw [e] at h; exact h.elim
  | im d =>
    rw [e] at h
    obtain ⟨v, ev, rv⟩ := R.rs.getIm e
    exact ⟨v, ev, h v H ⟨m, ar, am, ao, [], R.nob.setI (rv.cons0 R.ri)⟩⟩
  | ow d =>
    rw [e] at h
    cases ef : frz d with
    | none => simp only [ef] at h
    | some d' =>
      simp only [ef] at h
      obtain ⟨v, a1, b, a2, ev, ea, rv, rn⟩ := R.rs.getOw e
      refine ⟨v, ev, h v H ?_⟩
      have nd := R.nd
      have fr := R.fr
      subst ea
      have t : Tr H H (wOf Γ (a1 ++ (b ++ a2)) am ao) (wOf Γ (a1 ++ a2) am ao) m m [] := Tr.same fun c z => by
        simp only [wOf, List.mem_append] at z ⊢
        grind
      have rd : Rp X.K H (wOf Γ (a1 ++ a2) am ao) m [v] [d'] [] := rv.frz ef (fun c z => by
        simp only [wOf, List.mem_append] at z ⊢
        grind) (fun c z => by
        simp only [wOf, List.nodup_append, List.mem_append] at nd ⊢
        grind)
      have hi : i < st.r.length := getSl_lt (by rw [e]; exact fun z => nomatch z)
      have r2 := (t.rs rn (fun _ _ z => nomatch z)).setNo hi rd
      have es : σ.set i (some v) = σ := by
        apply List.ext_getElem?
        intro j
        by_cases c : i = j
        · subst c
          rw [List.getElem?_set_self (by rw [R.rs.len]; exact hi), ev]
        · rw [List.getElem?_set_ne c]
      rw [es] at r2
      refine ⟨m, a1 ++ a2, am, ao, [], r2, t.rp R.rm (fun _ _ z => nomatch z), rd.cons0 (t.rp0 R.ri), t.rp R.ro (fun _ _ z => nomatch z), .nil, ?_, ?_, R.kp, R.pm, R.gu, R.tb⟩
      · simp only [wOf, List.nodup_append, List.mem_append] at nd ⊢
        grind
      · intro a ha
        have h1 := fr a
        simp only [List.mem_append] at h1 ha
        grind
theorem s_int {i : Int} {j : Nat} {pos : Pos} : PE X (.Constant (.int i) j pos) (rdE X.K Γ W (eC (.int i))) := by
  refine pe_imp pe_int fun σ H Q h => ?_
  obtain ⟨st, p, R, h⟩ := h
  exact h _ _ (R.nob.shC fun _ _ => .int .nil)
theorem s_bl {b : Bool} {j : Nat} {pos : Pos} : PE X (.Constant (.bool b) j pos) (rdE X.K Γ W (eC (.bl b))) := by
  refine pe_imp pe_bl fun σ H Q h => ?_
  obtain ⟨st, p, R, h⟩ := h
  exact h _ _ (R.nob.shC fun _ _ => .bl .nil)
theorem s_non {j : Nat} {pos : Pos} : PE X (.Constant .none j pos) (rdE X.K Γ W (eC .non)) := by
  refine pe_imp pe_non fun σ H Q h => ?_
  obtain ⟨st, p, R, h⟩ := h
  exact h _ _ (R.nob.shC fun _ _ => .non .nil)
theorem s_str {x : Str} {j : Nat} {pos : Pos} : PE X (.Constant (.str x) j pos) (rdE X.K Γ W (eC (.str x))) := by
  refine pe_imp pe_str fun σ H Q h => ?_
  obtain ⟨st, p, R, h⟩ := h
  exact h _ _ (R.nob.shC fun _ _ => .str .nil)
/-- an operator: from two shared values a shared one -/
def Op2 (K : PySem.W.Frag) (r : R2) (f : AV → AV → Option AV) : Prop := ∀ (Γ : Gam) (σ : L2.St) (H : Hp) (st : Ss) (p : Pd) (m ar am ao ab : List Addr) (v1 v2 : V) (x y d : AV) (a1 a2 : List Addr) (Q : VK), Rl K Γ σ H st p m ar am ao ab → Rp K H (wOf Γ ar am ao) m [v1] [x] a1 → Rp K H (wOf Γ ar am ao) m [v2] [y] a2 → f x y = some d → (∀ v H', Rel K Γ σ H' st (p.nob.sh v d) → Q v H') → r v1 v2 H Q
theorem Rel.one {v : V} {x : AV} (R : Rel K Γ σ H st (p.sh v x)) : ∃ m ar am ao ab, Rl K Γ σ H st p m ar am ao ab ∧ Rp K H (wOf Γ ar am ao) m [v] [x] [] := by
  obtain ⟨m, ar, am, ao, ab, R⟩ := R
  exact ⟨m, ar, am, ao, ab, R.setI R.ri.head0.2, R.ri.head0.1⟩
theorem Rel.two {v1 v2 : V} {x y : AV} (R : Rel K Γ σ H st ((p.sh v1 x).sh v2 y)) : ∃ m ar am ao ab, Rl K Γ σ H st p m ar am ao ab ∧ Rp K H (wOf Γ ar am ao) m [v1] [x] [] ∧ Rp K H (wOf Γ ar am ao) m [v2] [y] [] := by
  obtain ⟨m, ar, am, ao, ab, R⟩ := R
  exact ⟨m, ar, am, ao, ab, R.setI R.ri.head0.2.head0.2, R.ri.head0.2.head0.1, R.ri.head0.1⟩
/-- two in a row -/
theorem two_in {ma mb : M AV} {Q : VK} {f : AV → AV → Option AV} {r : R2} (ho : Op2 K r f) (h : rdE K Γ W (e2 f ma mb) σ H Q) : rdE K Γ W ma σ H fun x H1 => rdE K Γ W mb σ H1 fun y H2 => r x y H2 Q := by
  obtain ⟨st, p, R, h⟩ := h
  refine ⟨st, p, R, ?_⟩
  unfold e2 at h
  cases ea : ma st with
  | bad => rw [ea] at h; exact h
  | err c s1 => rw [ea] at h; exact h
  | ok x s1 =>
    rw [ea] at h
    intro v1 H1 R1
    refine ⟨s1, _, R1, ?_⟩
    simp only [Res.bind_ok] at h
    cases eb : mb s1 with
    | bad => rw [eb] at h; exact h
    | err c s2 =>
      rw [eb] at h
      intro H2 R2
      exact h H2 R2.drop
    | ok y s2 =>
      rw [eb] at h
      simp only [Res.bind_ok] at h
      intro v2 H2 R2
      cases ef : f x y with
      | none => simp only [ef, ofO_none] at h
      | some d =>
        simp only [ef, ofO_some] at h
        obtain ⟨m, ar, am, ao, ab, R3, r1, r2⟩ := R2.two
        exact ho Γ σ H2 s2 _ m ar am ao ab v1 v2 x y d _ _ Q R3 r1 r2 ef h
theorem s_op {a b : Expr} {op : Operator} {r : R2} {f : AV → AV → Option AV} {ma mb : M AV} {pos : Pos} (hr : OpR X (binaryOp op) r) (ho : Op2 X.K r f) (ha : PE X a (rdE X.K Γ W ma)) (hb : PE X b (rdE X.K Γ W mb)) : PE X (.BinOp a op b pos) (rdE X.K Γ W (e2 f ma mb)) :=
  pe_imp (pe_op hr ha hb) fun σ H Q h => two_in ho h
theorem s_cmp {a b : Expr} {op : CmpOp} {r : R2} {f : AV → AV → Option AV} {ma mb : M AV} {pos : Pos} (hr : OpR X (compareOp op) r) (ho : Op2 X.K r f) (ha : PE X a (rdE X.K Γ W ma)) (hb : PE X b (rdE X.K Γ W mb)) (hm : behindInMarks op b = false) : PE X (.Compare a [op] [b] pos) (rdE X.K Γ W (e2 f ma mb)) :=
  pe_imp (pe_cmpR hr ha hb hm) fun σ H Q h => two_in ho h
/-- a truth, as a test -/
def tOf (m : M AV) : M Bool := fun st => (m st).bind fun x s1 => match x with
  | .bl b => .ok b s1
  | _ => .bad
theorem rp_bl {b : Bool} {v : V} {W m : List Addr} {as : List Addr} (h : Rp K H W m [v] [.bl b] as) : v = .bl b := by
  cases h
  rfl
theorem tOf_in {m : M AV} {Q : Bool → Hp → Prop} (h : rdT K Γ W (tOf m) σ H Q) : tTest (rdE K Γ W m) σ H Q := by
  obtain ⟨st, p, R, h⟩ := h
  refine ⟨st, p, R, ?_⟩
  unfold tOf at h
  cases e : m st with
  | bad => rw [e] at h; exact h
  | err c s1 => rw [e] at h; exact h
  | ok x s1 =>
    rw [e] at h
    simp only [Res.bind_ok] at h
    intro v H1 R1
    cases x with
    | bl b =>
      obtain ⟨m, ar, am, ao, ab, R2⟩ := id R1
      exact ⟨b, rp_bl R2.ri.head0.1, h H1 R1.drop⟩
    | _ => exact h.elim
theorem s_tval {e : Expr} {m : M AV} (h : PE X e (rdE X.K Γ W m)) (he : ∀ whole, isTrue e X.env whole = (do let v ← whole; standAt e.pos; holding [v] (truthy v)) := by intro _; rfl) : PT X e (rdT X.K Γ W (tOf m)) :=
  pt_imp (pt_val h he) fun σ H Q q => tOf_in q
theorem s_tcmp {a b : Expr} {op : CmpOp} {r : R2} {f : AV → AV → Option AV} {ma mb : M AV} {pos : Pos} (hr : OpR X (compareOp op) r) (ho : Op2 X.K r f) (ha : PE X a (rdE X.K Γ W ma)) (hb : PE X b (rdE X.K Γ W mb)) (hm : behindInMarks op b = false) : PT X (.Compare a [op] [b] pos) (rdT X.K Γ W (tOf (e2 f ma mb))) := by
  refine pt_imp (pt_cmpR hr ha hb hm) fun σ H Q h => ?_
  obtain ⟨st, p, R, h⟩ := tOf_in h
  exact two_in ho ⟨st, p, R, h⟩
end
end Fk
/-! ## operators on plain values -/
namespace Fk
open PySem PySem.Spec PyProof.Rows L2
section
variable {K : PySem.W.Frag} {Γ : Gam} {σ : L2.St} {H : Hp} {st : Ss} {p : Pd} {W m as : List Addr} {v v1 v2 : V} {x y d : AV} {xs ys : List AV} {vs : List V}
theorem Rp.int_i {i : Int} (h : Rp K H W m [v] [.int i] as) : v = .int i := by cases h; rfl
theorem Rp.bl_i {i : Bool} (h : Rp K H W m [v] [.bl i] as) : v = .bl i := by cases h; rfl
theorem Rp.str_i {i : Str} (h : Rp K H W m [v] [.str i] as) : v = .str i := by cases h; rfl
theorem Rp.non_i (h : Rp K H W m [v] [.non] as) : v = .non := by cases h; rfl
theorem Rp.tup_i (h : Rp K H W m [v] [.tup xs] as) : ∃ a us, v = .ref a ∧ SqT K H a us ∧ Rp K H W m us xs [] := by
  cases h with
  | tup h q _ => exact ⟨_, _, rfl, h, q⟩
theorem Rp.lst_i {o : Bool} (h : Rp K H W m [v] [.lst o xs] as) : ∃ a us, v = .ref a ∧ H a = some (.lst us) ∧ Rp K H W m us xs [] := by
  cases h with
  | lsI h _ q _ => exact ⟨_, _, rfl, h, q⟩
  | lsO h q _ => exact ⟨_, _, rfl, h, q⟩
theorem Rp.lsO_i (h : Rp K H W m [v] [.lst true xs] as) : ∃ a us, v = .ref a ∧ as = [a] ∧ H a = some (.lst us) ∧ Rp K H W m us xs [] := by
  cases h with
  | lsO h q r =>
    obtain ⟨_, rfl⟩ := r.nil_inv
    exact ⟨_, _, rfl, rfl, h, q⟩
theorem Rp.dct_i {o : Bool} {ks : List Key} (h : Rp K H W m [v] [.dct o ks xs] as) : ∃ a kvs, v = .ref a ∧ H a = some (.dK kvs) ∧ kvs.map (·.1) = ks ∧ Rp K H W m (kvs.map (·.2)) xs [] := by
  cases h with
  | dcI h _ e q _ => exact ⟨_, _, rfl, h, e, q⟩
  | dcO h e q _ => exact ⟨_, _, rfl, h, e, q⟩
theorem Rp.loc_i {l : Nat} (h : Rp K H W m [v] [.loc l] as) : ∃ a, v = .ref a ∧ m[l]? = some a := by
  cases h with
  | loc h _ => exact ⟨_, rfl, h⟩
theorem Rp.scr_i (h : Rp K H W m [v] [.scr xs] as) : ∃ a us, v = .ref a ∧ Scr K H a us ∧ Rp K H W m us xs [] := by
  cases h with
  | scr h q _ => exact ⟨_, _, rfl, h, q⟩
theorem Rl.rel {ar am ao ab : List Addr} (R : Rl K Γ σ H st p m ar am ao ab) : Rel K Γ σ H st p := ⟨m, ar, am, ao, ab, R⟩
theorem Rl.sh {ar am ao ab : List Addr} (R : Rl K Γ σ H st p m ar am ao ab) (h : Rp K H (wOf Γ ar am ao) m [v] [x] []) : Rel K Γ σ H st (p.sh v x) := ⟨m, ar, am, ao, ab, R.setI (h.cons0 R.ri)⟩
theorem Rel.int (R : Rel K Γ σ H st p) (i : Int) : Rel K Γ σ H st (p.sh (.int i) (.int i)) := R.shC fun _ _ => .int .nil
theorem Rel.bl (R : Rel K Γ σ H st p) (i : Bool) : Rel K Γ σ H st (p.sh (.bl i) (.bl i)) := R.shC fun _ _ => .bl .nil
theorem Rel.str (R : Rel K Γ σ H st p) (i : Str) : Rel K Γ σ H st (p.sh (.str i) (.str i)) := R.shC fun _ _ => .str .nil
theorem Rel.non (R : Rel K Γ σ H st p) : Rel K Γ σ H st (p.sh .non .non) := R.shC fun _ _ => .non .nil
end
/-! ### data -/
mutual
def dat : AV → PyData
  | .non => .none
  | .bl b => .bool b
  | .int i => .int i
  | .str x => .str x
  | .tup xs => .tuple (dats xs)
  | .lst _ xs => .list (dats xs)
  | .nst xs => .list (dats xs)
  | .scr xs => .list (dats xs)
  | _ => .none
def dats : List AV → List PyData
  | [] => []
  | x :: xs => dat x :: dats xs
end
mutual
/-- plain data -/
def pl : AV → Bool
  | .non => true
  | .bl _ => true
  | .int _ => true
  | .str _ => true
  | .tup xs => pls xs
  | .lst _ xs => pls xs
  | .nst xs => pls xs
  | .scr xs => pls xs
  | _ => false
def pls : List AV → Bool
  | [] => true
  | x :: xs => pl x && pls xs
end
theorem Rp.dps {K : PySem.W.Frag} {H : Hp} {W m as : List Addr} {vs : List V} {xs : List AV} (r : Rp K H W m vs xs as) : pls xs = true → DpAll K H vs (dats xs) := by
  have ba : ∀ {a b : Bool}, (a && b) = true → a = true ∧ b = true := fun h => Bool.and_eq_true_iff.mp h
  induction r with
  | nil => intro _; exact .nil
  | non _ i => intro h; exact .cons .non (i (ba h).2)
  | bl _ i => intro h; exact .cons (.bl _) (i (ba h).2)
  | int _ i => intro h; exact .cons (.int _) (i (ba h).2)
  | str _ i => intro h; exact .cons (.str _) (i (ba h).2)
  | tup h _ _ i1 i2 => intro e; exact .cons (.tup h (i1 (ba e).1)) (i2 (ba e).2)
  | lsI h _ _ _ i1 i2 => intro e; exact .cons (.lst (SqL.of h) (i1 (ba e).1)) (i2 (ba e).2)
  | lsO h _ _ i1 i2 => intro e; exact .cons (.lst (SqL.of h) (i1 (ba e).1)) (i2 (ba e).2)
  | nst h _ _ i1 i2 => intro e; exact .cons (.lst (SqL.of h) (i1 (ba e).1)) (i2 (ba e).2)
  | scr h _ _ i1 i2 => intro e; exact .cons (.lst h.sq (i1 (ba e).1)) (i2 (ba e).2)
  | _ => intro h; exact nomatch (ba h).1
theorem Rp.dp {K : PySem.W.Frag} {H : Hp} {W m as : List Addr} {v : V} {x : AV} (r : Rp K H W m [v] [x] as) (h : pl x = true) : Dp K H v (dat x) := by
  have q := r.dps (show (pl x && true) = true by rw [h]; rfl)
  cases q with
  | cons q _ => exact q
/-- data that may be compared -/
def okA (x : AV) : Bool := pl x && SeqAt.shaped (dat x)
theorem mx_eq : sizeLine = 16777216 := by decide
/-! ### the operators' plain meaning -/
def b2I (b : Bool) : Int := if b = true then 1 else 0
def oAdd : AV → AV → Option AV
  | .int a, .int b => some (.int (a + b))
  | .bl a, .int b => some (.int (b2I a + b))
  | .str a, .str b => if a.length + b.length ≤ 16777216 then some (.str (a ++ b)) else none
  | .tup a, .tup b => if a.length + b.length ≤ 16777216 then some (.tup (a ++ b)) else none
  | .lst _ a, .lst _ b => if a.length + b.length ≤ 16777216 then some (.lst false (a ++ b)) else none
  | _, _ => none
def oSub : AV → AV → Option AV
  | .int a, .int b => some (.int (a - b))
  | .bl a, .int b => some (.int (b2I a - b))
  | _, _ => none
def cMul (a b : Int) : Bool := (decide (-(2 ^ 64) < a) && decide (a < 2 ^ 64)) || (decide (-(2 ^ 64) < b) && decide (b < 2 ^ 64))
def repA (k : Int) (xs : List AV) : List AV := (List.replicate k.toNat xs).flatten
def oMul : AV → AV → Option AV
  | .int a, .int b => if cMul a b then some (.int (a * b)) else none
  | .lst _ xs, .int k => if k < 1000000 ∧ -1000000 < k ∧ xs.length * k.toNat ≤ 16777216 then some (.lst false (repA k xs)) else none
  | .tup xs, .int k => if xs ≠ [] ∧ 1 ≤ k ∧ k ≤ 1000 ∧ xs.length ≤ 1000 then some (.tup (repA k xs)) else none
  | _, _ => none
def uMul2 (K : PySem.W.Frag) : R2 := fun x y H Q => uMul K x y H Q ∨ (rRepT K x y H Q ∨ rRep1 K x y H Q)
theorem o_mul2 {X : Cx} : OpR X (binaryOp .Mult) (uMul2 X.K) := o_mul.or (op_repT.or op_rep1)
def oFdv : AV → AV → Option AV
  | .int a, .int b => if 0 < b ∧ b < 2 ^ 64 then some (.int (a / b)) else none
  | _, _ => none
def oMod : AV → AV → Option AV
  | .int a, .int b => if 0 < b then some (.int (a % b)) else none
  | _, _ => none
def cPow (a b : Int) : Bool := decide (0 ≤ b) && decide (b ≤ 1000000) && decide (a.natAbs < 2 ^ 64)
def oPow : AV → AV → Option AV
  | .int a, .int b => if cPow a b then some (.int (a ^ b.toNat)) else none
  | _, _ => none
def oLt : AV → AV → Option AV
  | .int a, .int b => some (.bl (decide (a < b)))
  | _, _ => none
def oLe : AV → AV → Option AV
  | .int a, .int b => some (.bl (decide (a ≤ b)))
  | _, _ => none
def oGt : AV → AV → Option AV
  | .int a, .int b => some (.bl (decide (b < a)))
  | _, _ => none
def eqA : AV → AV → Option Bool
  | .int a, .int b => some (decide (a = b))
  | .str a, .str b => some (decide (a = b))
  | .bl a, .bl b => some (decide (a = b))
  | x, y => if okA x && okA y then some (PyData.eqv (dat x) (dat y)) else none
def oEq (x y : AV) : Option AV := (eqA x y).map AV.bl
def oNe (x y : AV) : Option AV := (eqA x y).map fun b => AV.bl (!b)
def isN : AV → Bool
  | .non => true
  | _ => false
def oIs : AV → AV → Option AV
  | x, .non => some (.bl (isN x))
  | .bl a, .bl b => some (.bl (decide (a = b)))
  | _, _ => none
def oNis : AV → AV → Option AV
  | x, .non => some (.bl (!isN x))
  | .bl a, .bl b => some (.bl (!decide (a = b)))
  | _, _ => none
section
variable {K : PySem.W.Frag}
theorem p_add : Op2 K (uAddB K) oAdd := by
  intro Γ σ H st p m ar am ao ab v1 v2 x y d a1 a2 Q R0 r1 r2 e h
  replace R0 := R0.nob
  unfold oAdd at e
  split at e
  · cases e
    obtain rfl := r1.int_i
    obtain rfl := r2.int_i
    exact .inl (.inl ⟨_, _, rfl, rfl, h _ _ (R0.rel.int _)⟩)
  · cases e
    obtain rfl := r1.bl_i
    obtain rfl := r2.int_i
    exact .inr ⟨_, _, rfl, rfl, h _ _ (R0.rel.int _)⟩
  · split at e
    · cases e
      obtain rfl := r1.str_i
      obtain rfl := r2.str_i
      exact .inl (.inr (.inl ⟨_, _, rfl, rfl, by rw [mx_eq]; assumption, h _ _ (R0.rel.str _)⟩))
    · cases e
  · split at e
    · cases e
      obtain ⟨a, us, rfl, h1, q1⟩ := r1.tup_i
      obtain ⟨b, ws, rfl, h2, q2⟩ := r2.tup_i
      have l1 := q1.len
      have l2 := q2.len
      have z0 := mx_eq
      refine .inl (.inr (.inr (.inr ⟨a, b, us, ws, rfl, rfl, h1, h2, by omega, fun z => ?_, fun z1 z2 => ?_, fun z1 z2 q hq => ?_⟩)))
      · subst z
        obtain ⟨rfl, _⟩ := q1.nil_inv'
        exact h _ _ (R0.sh (.tup h2 q2 .nil))
      · subst z2
        obtain ⟨rfl, _⟩ := q2.nil_inv'
        rw [List.append_nil] at h
        exact h _ _ (R0.sh (.tup h1 q1 .nil))
      · exact h _ _ (R0.tup hq (q1.app q2)).rel
    · cases e
  · split at e
    · cases e
      obtain ⟨a, us, rfl, h1, q1⟩ := r1.lst_i
      obtain ⟨b, ws, rfl, h2, q2⟩ := r2.lst_i
      have l1 := q1.len
      have l2 := q2.len
      have z0 := mx_eq
      exact .inl (.inr (.inr (.inl ⟨a, b, us, ws, rfl, rfl, h1, h2, by omega, fun q hq => h _ _ (R0.lst hq (q1.app q2)).rel⟩)))
    · cases e
  · cases e
theorem p_sub : Op2 K uSubB oSub := by
  intro Γ σ H st p m ar am ao ab v1 v2 x y d a1 a2 Q R0 r1 r2 e h
  replace R0 := R0.nob
  unfold oSub at e
  split at e
  · cases e
    obtain rfl := r1.int_i
    obtain rfl := r2.int_i
    exact .inl ⟨_, _, rfl, rfl, h _ _ (R0.rel.int _)⟩
  · cases e
    obtain rfl := r1.bl_i
    obtain rfl := r2.int_i
    exact .inr ⟨_, _, rfl, rfl, h _ _ (R0.rel.int _)⟩
  · cases e
theorem cMul_ok {a b : Int} (h : cMul a b = true) : CMul a b := by
  unfold cMul at h
  simp only [Bool.or_eq_true, Bool.and_eq_true, decide_eq_true_eq] at h
  exact h
theorem rep_rp {H : Hp} {W m : List Addr} {us : List V} {xs : List AV} (q : Rp K H W m us xs []) : ∀ n : Nat, Rp K H W m (List.replicate n us).flatten (List.replicate n xs).flatten []
  | 0 => .nil
  | n + 1 => by
    rw [List.replicate_succ, List.replicate_succ, List.flatten_cons, List.flatten_cons]
    exact q.app (rep_rp q n)
theorem p_mul : Op2 K (uMul2 K) oMul := by
  intro Γ σ H st p m ar am ao ab v1 v2 x y d a1 a2 Q R0 r1 r2 e h
  replace R0 := R0.nob
  unfold oMul at e
  split at e
  · split at e
    · cases e
      obtain rfl := r1.int_i
      obtain rfl := r2.int_i
      rename_i c
      exact .inl (.inl ⟨_, _, rfl, rfl, cMul_ok c, h _ _ (R0.rel.int _)⟩)
    · cases e
  · split at e
    · cases e
      obtain ⟨a, us, rfl, h1, q1⟩ := r1.lst_i
      obtain rfl := r2.int_i
      rename_i c
      have l1 := q1.len
      exact .inl (.inr ⟨a, _, us, rfl, rfl, h1, by omega, by omega, by rw [l1, mx_eq]; exact c.2.2, fun q hq => h _ _ (R0.lst hq (rep_rp q1 _)).rel⟩)
    · cases e
  · split at e
    · cases e
      obtain ⟨a, us, rfl, h1, q1⟩ := r1.tup_i
      obtain rfl := r2.int_i
      rename_i k c
      have l1 := q1.len
      by_cases c2 : k = 1
      · subst c2
        refine .inr (.inr ⟨a, us, rfl, rfl, h1, h _ _ ?_⟩)
        have e : ∀ zs : List AV, repA 1 zs = zs := fun zs => List.append_nil _
        rw [e]
        exact ⟨_, _, _, _, _, R0.setI ((Rp.tup h1 q1 .nil).cons0 R0.ri)⟩
      · have hne : us ≠ [] := fun z => c.1 (by rw [z] at l1; exact List.eq_nil_of_length_eq_zero l1.symm)
        exact .inr (.inl ⟨a, _, us, rfl, rfl, h1, hne, by omega, by omega, by omega, fun q hq => h _ _ (R0.tup hq (rep_rp q1 _)).rel⟩)
    · cases e
  · cases e
/-- operators on two ints -/
theorem p_int {r : R2} {f : AV → AV → Option AV} (C : Int → Int → Prop) (g : Int → Int → Int) (hf : ∀ x y d, f x y = some d → ∃ a b, x = .int a ∧ y = .int b ∧ C a b ∧ d = .int (g a b)) (hr : ∀ a b H Q, C a b → Q (.int (g a b)) H → r (.int a) (.int b) H Q) : Op2 K r f := by
  intro Γ σ H st p m ar am ao ab v1 v2 x y d a1 a2 Q R0 r1 r2 e h
  replace R0 := R0.nob
  obtain ⟨a, b, rfl, rfl, c, rfl⟩ := hf _ _ _ e
  obtain rfl := r1.int_i
  obtain rfl := r2.int_i
  exact hr a b H Q c (h _ _ (R0.rel.int _))
theorem p_cmp {r : R2} {f : AV → AV → Option AV} (g : Int → Int → Bool) (hf : ∀ x y d, f x y = some d → ∃ a b, x = .int a ∧ y = .int b ∧ d = .bl (g a b)) (hr : ∀ a b H Q, Q (.bl (g a b)) H → r (.int a) (.int b) H Q) : Op2 K r f := by
  intro Γ σ H st p m ar am ao ab v1 v2 x y d a1 a2 Q R0 r1 r2 e h
  replace R0 := R0.nob
  obtain ⟨a, b, rfl, rfl, rfl⟩ := hf _ _ _ e
  obtain rfl := r1.int_i
  obtain rfl := r2.int_i
  exact hr a b H Q (h _ _ (R0.rel.bl _))
theorem p_mod : Op2 K uMod oMod := p_int (fun _ b => 0 < b) (· % ·) (fun x y d e => by unfold oMod at e; split at e <;> (try split at e) <;> cases e; exact ⟨_, _, rfl, rfl, by assumption, rfl⟩) fun a b H Q c q => ⟨a, b, rfl, rfl, c, q⟩
theorem cPow_ok {a b : Int} (h : cPow a b = true) : CPow a b := by
  unfold cPow at h
  simp only [Bool.and_eq_true, decide_eq_true_eq] at h
  exact ⟨h.1.1, h.1.2, h.2⟩
theorem p_pow : Op2 K uPow oPow := p_int CPow (fun a b => a ^ b.toNat) (fun x y d e => by unfold oPow at e; split at e <;> (try split at e) <;> cases e; exact ⟨_, _, rfl, rfl, cPow_ok (by assumption), rfl⟩) fun a b H Q c q => ⟨a, b, rfl, rfl, c, q⟩
theorem p_lt : Op2 K uLt oLt := p_cmp (fun a b => decide (a < b)) (fun x y d e => by unfold oLt at e; split at e <;> cases e; exact ⟨_, _, rfl, rfl, rfl⟩) fun a b H Q q => ⟨a, b, rfl, rfl, q⟩
theorem p_le : Op2 K uLe oLe := p_cmp (fun a b => decide (a ≤ b)) (fun x y d e => by unfold oLe at e; split at e <;> cases e; exact ⟨_, _, rfl, rfl, rfl⟩) fun a b H Q q => ⟨a, b, rfl, rfl, q⟩
theorem p_gt : Op2 K uGt oGt := p_cmp (fun a b => decide (b < a)) (fun x y d e => by unfold oGt at e; split at e <;> cases e; exact ⟨_, _, rfl, rfl, rfl⟩) fun a b H Q q => ⟨a, b, rfl, rfl, q⟩
theorem p_fdv : Op2 K uFdv oFdv := p_int (fun _ b => 0 < b ∧ b < 2 ^ 64) (· / ·) (fun x y d e => by unfold oFdv at e; split at e <;> (try split at e) <;> cases e; exact ⟨_, _, rfl, rfl, by assumption, rfl⟩) fun a b H Q c q => by
  exact .inr ⟨a, b, rfl, rfl, wide_div (b := 64) c.1 (by omega) (by decide) (by decide), q⟩
/-- what two values' comparison is -/
theorem eq_sem {Γ : Gam} {σ : L2.St} {H : Hp} {st : Ss} {p : Pd} {v1 v2 : V} {x y : AV} {b : Bool} {r1 r2 : Prop} (W m as bs : List Addr) (q1 : Rp K H W m [v1] [x] as) (q2 : Rp K H W m [v2] [y] bs) (e : eqA x y = some b) :
    (scal v1 v2 = true ∧ decide (v1 = v2) = b) ∨ (∃ d d', Dp K H v1 d ∧ Dp K H v2 d' ∧ SeqAt.shaped d = true ∧ SeqAt.shaped d' = true ∧ PyData.eqv d d' = b) := by
  unfold eqA at e
  split at e
  · cases e
    obtain rfl := q1.int_i
    obtain rfl := q2.int_i
    exact .inl ⟨rfl, by simp⟩
  · cases e
    obtain rfl := q1.str_i
    obtain rfl := q2.str_i
    exact .inl ⟨rfl, by simp⟩
  · cases e
    obtain rfl := q1.bl_i
    obtain rfl := q2.bl_i
    exact .inl ⟨rfl, by simp⟩
  · split at e
    · cases e
      rename_i c
      obtain ⟨c1, c2⟩ := Bool.and_eq_true_iff.mp c
      obtain ⟨c3, c4⟩ := Bool.and_eq_true_iff.mp c1
      obtain ⟨c5, c6⟩ := Bool.and_eq_true_iff.mp c2
      exact .inr ⟨_, _, q1.dp c3, q2.dp c5, c4, c6, rfl⟩
    · cases e
theorem p_eq : Op2 K (uEq K) oEq := by
  intro Γ σ H st p m ar am ao ab v1 v2 x y d a1 a2 Q R0 r1 r2 e h
  replace R0 := R0.nob
  unfold oEq at e
  obtain ⟨b, e1, rfl⟩ := Option.map_eq_some_iff.mp e
  rcases eq_sem (Γ := Γ) (σ := σ) (st := st) (p := p) (r1 := True) (r2 := True) _ _ _ _ r1 r2 e1 with ⟨s, eb⟩ | ⟨d1, d2, h1, h2, s1, s2, eb⟩
  · subst eb
    exact .inl ⟨s, h _ _ (R0.rel.bl _)⟩
  · subst eb
    exact .inr ⟨d1, d2, h1, h2, s1, s2, h _ _ (R0.rel.bl _)⟩
theorem p_ne : Op2 K (uNe K) oNe := by
  intro Γ σ H st p m ar am ao ab v1 v2 x y d a1 a2 Q R0 r1 r2 e h
  replace R0 := R0.nob
  unfold oNe at e
  obtain ⟨b, e1, rfl⟩ := Option.map_eq_some_iff.mp e
  rcases eq_sem (Γ := Γ) (σ := σ) (st := st) (p := p) (r1 := True) (r2 := True) _ _ _ _ r1 r2 e1 with ⟨s, eb⟩ | ⟨d1, d2, h1, h2, s1, s2, eb⟩
  · subst eb
    exact .inl ⟨s, h _ _ (R0.rel.bl _)⟩
  · subst eb
    exact .inr ⟨d1, d2, h1, h2, s1, s2, h _ _ (R0.rel.bl _)⟩
theorem isN_v {H : Hp} {W m as : List Addr} {v : V} {x : AV} (r : Rp K H W m [v] [x] as) : decide (v = .non) = isN x := by
  cases r <;> rfl
theorem p_is : Op2 K uIsN oIs := by
  intro Γ σ H st p m ar am ao ab v1 v2 x y d a1 a2 Q R0 r1 r2 e h
  replace R0 := R0.nob
  unfold oIs at e
  split at e
  · cases e
    obtain rfl := r2.non_i
    rw [← isN_v r1] at h
    exact .inl ⟨rfl, h _ _ (R0.rel.bl _)⟩
  · cases e
    obtain rfl := r1.bl_i
    obtain rfl := r2.bl_i
    exact .inr ⟨_, _, rfl, rfl, h _ _ (R0.rel.bl _)⟩
  · cases e
end
end Fk
/-! ## expressions and statements -/
namespace Fk
open PySem PySem.Spec PyProof.Rows L2
def aNil : M (List AV) := fun st => .ok [] st
def aCons (a : M AV) (r : M (List AV)) : M (List AV) := fun st => (a st).bind fun x s1 => (r s1).bind fun xs s2 => .ok (x :: xs) s2
def eTup (a : M (List AV)) : M AV := fun st => (a st).bind fun xs s1 => if xs.length ≤ 16777216 then .ok (.tup xs) s1 else .bad
def eLst (a : M (List AV)) : M AV := fun st => (a st).bind fun xs s1 => if xs.length ≤ 16777216 then .ok (.lst false xs) s1 else .bad
def eLstO (a : M (List AV)) : M AV := fun st => (a st).bind fun xs s1 => if xs.length ≤ 16777216 then .ok (.lst true xs) s1 else .bad
def tNotM (a : M Bool) : M Bool := fun st => (a st).bind fun x s1 => .ok (!x) s1
def tAndM (a b : M Bool) : M Bool := fun st => (a st).bind fun x s1 => bif x then b s1 else .ok false s1
def tOrM (a b : M Bool) : M Bool := fun st => (a st).bind fun x s1 => bif x then .ok true s1 else b s1
def asB : AV → Option Bool
  | .bl b => some b
  | _ => none
@[simp] theorem asB_bl (b : Bool) : asB (.bl b) = some b := rfl
def eAnd (a b : M AV) : M AV := fun st => (a st).bind fun x s1 => (ofO (asB x) s1).bind fun c s2 => bif c then b s2 else .ok (.bl false) s2
def eOr (a b : M AV) : M AV := fun st => (a st).bind fun x s1 => (ofO (asB x) s1).bind fun c s2 => bif c then .ok (.bl true) s2 else b s2
def oNot (x : AV) : Option AV := (asB x).map fun b => AV.bl (!b)
def eIf (t : M Bool) (a b : M AV) : M AV := fun st => (t st).bind fun c s1 => bif c then a s1 else b s1
def eChn (f g : AV → AV → Option AV) (a b c : M AV) : M AV := fun st => (a st).bind fun x s1 => (b s1).bind fun y s2 => (ofO ((f x y).bind asB) s2).bind fun k s3 => bif k then (c s3).bind fun z s4 => ofO (g y z) s4 else .ok (.bl false) s3
def sNx : M Fl := fun st => .ok .nx st
def sSeq (a b : M Fl) : M Fl := fun st => (a st).bind fun f s1 => match f with
  | .nx => b s1
  | f => .ok f s1
def sAsg (i : Nat) (e : M AV) : M Fl := fun st => (e st).bind fun d s1 => .ok .nx ⟨setSl s1.r i (.im d), s1.s⟩
def sAsgO (i : Nat) (e : M AV) : M Fl := fun st => (e st).bind fun d s1 => .ok .nx ⟨setSl s1.r i (.ow d), s1.s⟩
def sExp (e : M AV) : M Fl := fun st => (e st).bind fun _ s1 => .ok .nx s1
def sRet (e : M AV) : M Fl := fun st => (e st).bind fun d s1 => .ok (.rt d) s1
def sIf (t : M Bool) (a b : M Fl) : M Fl := fun st => (t st).bind fun c s1 => bif c then a s1 else b s1
def sBrk : M Fl := fun st => .ok .bk st
def sCnt : M Fl := fun st => .ok .ct st
section
variable {X : Cx} {Γ : Gam} {W : WX} {σ : L2.St} {H : Hp} {st : Ss} {p : Pd} {K : PySem.W.Frag} {pos : Pos}
theorem Rel.rot {v : V} {x : AV} {vs iv : List V} {xs ix : List AV} (hl : vs.length = xs.length) (R : Rel K Γ σ H st { p with iv := vs ++ v :: iv, ix := xs ++ x :: ix }) : Rel K Γ σ H st { p with iv := v :: vs ++ iv, ix := x :: xs ++ ix } := by
  obtain ⟨m, ar, am, ao, ab, R⟩ := R
  refine ⟨m, ar, am, ao, ab, R.setI (p := { p with iv := vs ++ v :: iv, ix := xs ++ x :: ix }) ?_⟩
  obtain ⟨a1, a2, e, r1, r2⟩ := Rp.app_inv hl R.ri
  obtain ⟨e1, e2⟩ := List.append_eq_nil_iff.mp e.symm
  subst e1 e2
  exact r2.head0.1.cons0 (r1.app r2.head0.2)
theorem s_nil : PA X [] (rdA X.K Γ W aNil) := by
  refine pa_imp pa_nil fun σ H Q h => ?_
  obtain ⟨st, p, R, h⟩ := h
  exact h [] H rfl R.nob
theorem cons_in {ma : M AV} {mr : M (List AV)} {Q : List V → Hp → Prop} (h : rdA K Γ W (aCons ma mr) σ H Q) : tCons (rdE K Γ W ma) (rdA K Γ W mr) σ H Q := by
  obtain ⟨st, p, R, h⟩ := h
  refine ⟨st, p, R, ?_⟩
  unfold aCons at h
  cases ea : ma st with
  | bad => rw [ea] at h; exact h
  | err c s1 => rw [ea] at h; exact h
  | ok x s1 =>
    rw [ea] at h
    simp only [Res.bind_ok] at h
    intro v H1 R1
    refine ⟨s1, _, R1, ?_⟩
    cases er : mr s1 with
    | bad => rw [er] at h; exact h
    | err c s2 =>
      rw [er] at h
      intro H2 R2
      exact h H2 R2.drop
    | ok xs s2 =>
      rw [er] at h
      simp only [Res.bind_ok] at h
      intro vs H2 hl R2
      exact h (v :: vs) H2 (by simp [hl]) (Rel.rot (p := p.nob) hl R2)
theorem s_cons {e : Expr} {es : List Expr} {ma : M AV} {mr : M (List AV)} (ha : PE X e (rdE X.K Γ W ma)) (hr : PA X es (rdA X.K Γ W mr)) (hs : starEach (e :: es) X.env = (false, eval e X.env) :: starEach es X.env := by rfl) : PA X (e :: es) (rdA X.K Γ W (aCons ma mr)) :=
  pa_imp (pa_cons ha hr hs) fun σ H Q h => cons_in h
theorem Rel.args {vs : List V} {xs : List AV} (hl : vs.length = xs.length) (R : Rel K Γ σ H st { p with iv := vs ++ p.iv, ix := xs ++ p.ix }) : ∃ m ar am ao ab, Rl K Γ σ H st p m ar am ao ab ∧ Rp K H (wOf Γ ar am ao) m vs xs [] := by
  obtain ⟨m, ar, am, ao, ab, R⟩ := R
  obtain ⟨a1, a2, e, r1, r2⟩ := Rp.app_inv hl R.ri
  obtain ⟨e1, e2⟩ := List.append_eq_nil_iff.mp e.symm
  subst e1 e2
  exact ⟨m, ar, am, ao, ab, R.setI (p := { p with iv := vs ++ p.iv, ix := xs ++ p.ix }) r2, r1⟩
theorem s_tup {es : List Expr} {k : Nat} {ma : M (List AV)} (h : PA X es (rdA X.K Γ W ma)) : PE X (.Tuple es k pos) (rdE X.K Γ W (eTup ma)) := by
  refine pe_imp (pe_tup h) fun σ H Q h => ?_
  obtain ⟨st, p, R, h⟩ := h
  refine ⟨st, p, R, ?_⟩
  unfold eTup at h
  cases ea : ma st with
  | bad => rw [ea] at h; exact h
  | err c s1 => rw [ea] at h; exact h
  | ok xs s1 =>
    rw [ea] at h
    simp only [Res.bind_ok] at h
    intro vs H1 hl R1
    by_cases c : xs.length ≤ 16777216
    · rw [if_pos c] at h
      obtain ⟨m, ar, am, ao, ab, R2, r⟩ := Rel.args (p := p.nob) hl R1
      exact ⟨by rw [hl, mx_eq]; exact c, fun q hq => h _ _ (R2.tup hq r).rel⟩
    · rw [if_neg c] at h; exact h.elim
theorem s_lst {es : List Expr} {ma : M (List AV)} (h : PA X es (rdA X.K Γ W ma)) : PE X (.List es pos) (rdE X.K Γ W (eLst ma)) := by
  refine pe_imp (pe_lst h) fun σ H Q h => ?_
  obtain ⟨st, p, R, h⟩ := h
  refine ⟨st, p, R, ?_⟩
  unfold eLst at h
  cases ea : ma st with
  | bad => rw [ea] at h; exact h
  | err c s1 => rw [ea] at h; exact h
  | ok xs s1 =>
    rw [ea] at h
    simp only [Res.bind_ok] at h
    intro vs H1 hl R1
    by_cases c : xs.length ≤ 16777216
    · rw [if_pos c] at h
      obtain ⟨m, ar, am, ao, ab, R2, r⟩ := Rel.args (p := p.nob) hl R1
      exact ⟨by rw [hl, mx_eq]; exact c, fun q hq => h _ _ (R2.lst hq r).rel⟩
    · rw [if_neg c] at h; exact h.elim
theorem Rl.newLst {m ar am ao ab : List Addr} (R : Rl K Γ σ H st p m ar am ao ab) {q : Addr} {vs : List V} {xs : List AV} (h : H q = none) (r : Rp K H (wOf Γ ar am ao) m vs xs []) : Rel K Γ σ (upd H q (.lst vs)) st (p.own (.ref q) (.lst true xs)) :=
  ⟨m, ar, am, q :: ao, ab, R.newO (o := .lst vs) h fun t e => .lsO e (t.rp0 r) .nil⟩
theorem s_lstO {es : List Expr} {ma : M (List AV)} (h : PA X es (rdA X.K Γ W ma)) : PE X (.List es pos) (rdO X.K Γ W (eLstO ma)) := by
  refine pe_imp (pe_lst h) fun σ H Q h => ?_
  obtain ⟨st, p, R, h⟩ := h
  refine ⟨st, p, R, ?_⟩
  unfold eLstO at h
  cases ea : ma st with
  | bad => rw [ea] at h; exact h
  | err c s1 => rw [ea] at h; exact h
  | ok xs s1 =>
    rw [ea] at h
    simp only [Res.bind_ok] at h
    intro vs H1 hl R1
    by_cases c : xs.length ≤ 16777216
    · rw [if_pos c] at h
      obtain ⟨m, ar, am, ao, ab, R2, r⟩ := Rel.args (p := p.nob) hl R1
      exact ⟨by rw [hl, mx_eq]; exact c, fun q hq => h _ _ (R2.newLst hq r)⟩
    · rw [if_neg c] at h; exact h.elim
/-! tests -/
theorem s_not {a : Expr} {ma : M Bool} (h : PT X a (rdT X.K Γ W ma)) : PT X (.UnaryOp .Not a pos) (rdT X.K Γ W (tNotM ma)) := by
  refine pt_imp (pt_not h) fun σ H Q h => ?_
  obtain ⟨st, p, R, h⟩ := h
  refine ⟨st, p, R, ?_⟩
  unfold tNotM at h
  cases ea : ma st with
  | bad => rw [ea] at h; exact h
  | err c s1 => rw [ea] at h; exact h
  | ok b s1 => rw [ea] at h; exact h
theorem s_or1 {a : Expr} {ma : M Bool} (h : PT X a (rdT X.K Γ W ma)) : PW X (.BoolOp .Or [a] pos) (rdT X.K Γ W ma) := pw_or1 h
theorem s_or {a b : Expr} {rest : List Expr} {ma mb : M Bool} (h : PT X a (rdT X.K Γ W ma)) (h2 : PW X (.BoolOp .Or (b :: rest) pos) (rdT X.K Γ W mb)) : PW X (.BoolOp .Or (a :: b :: rest) pos) (rdT X.K Γ W (tOrM ma mb)) := by
  refine pw_imp (pw_or h h2) fun σ H Q h => ?_
  obtain ⟨st, p, R, h⟩ := h
  refine ⟨st, p, R, ?_⟩
  unfold tOrM at h
  cases ea : ma st with
  | bad => rw [ea] at h; exact h
  | err c s1 => rw [ea] at h; exact h
  | ok b s1 =>
    rw [ea] at h
    simp only [Res.bind_ok] at h
    intro H1 R1
    cases b with
    | true => rw [if_pos rfl]; exact h H1 R1
    | false => rw [if_neg Bool.false_ne_true]; exact ⟨s1, p.nob, R1, h⟩
/-! .. as values -/
theorem asB_v {v : V} {x : AV} {b : Bool} {W m as : List Addr} (r : Rp K H W m [v] [x] as) (e : asB x = some b) : v = .bl b := by
  cases x with
  | bl c =>
    have e2 : c = b := by simpa using e
    rw [r.bl_i, e2]
  | _ => cases e
theorem s_vand {a b : Expr} {rest : List Expr} {ma mb : M AV} (h : PE X a (rdE X.K Γ W ma)) (h2 : PE X (.BoolOp .And (b :: rest) pos) (rdE X.K Γ W mb)) : PE X (.BoolOp .And (a :: b :: rest) pos) (rdE X.K Γ W (eAnd ma mb)) := by
  refine pe_imp (pe_and h h2) fun σ H Q h => ?_
  obtain ⟨st, p, R, h⟩ := h
  refine ⟨st, p, R, ?_⟩
  unfold eAnd at h
  cases ea : ma st with
  | bad => rw [ea] at h; exact h
  | err c s1 => rw [ea] at h; exact h
  | ok x s1 =>
    rw [ea] at h
    simp only [Res.bind_ok] at h
    intro v H1 R1
    cases eb : asB x with
    | none => rw [eb] at h; exact h.elim
    | some c =>
      rw [eb] at h
      simp only [ofO_some, Res.bind_ok] at h
      obtain ⟨m, ar, am, ao, ab, R2, r⟩ := R1.one
      refine ⟨c, asB_v r eb, ?_⟩
      cases c with
      | true => rw [if_pos rfl]; exact ⟨s1, p.nob, R2.rel, h⟩
      | false => rw [if_neg Bool.false_ne_true]; exact h _ _ (R2.rel.bl _)
theorem s_vone {op : BoolOp} {a : Expr} {ma : M AV} (h : PE X a (rdE X.K Γ W ma)) : PE X (.BoolOp op [a] pos) (rdE X.K Γ W ma) := pe_one h
/-- one value turned into another -/
def Op1 (K : PySem.W.Frag) (r : V → Hp → VK → Prop) (f : AV → Option AV) : Prop := ∀ (Γ : Gam) (σ : L2.St) (H : Hp) (st : Ss) (p : Pd) (v1 : V) (x d : AV) (Q : VK), Rel K Γ σ H st (p.sh v1 x) → f x = some d → (∀ v H', Rel K Γ σ H' st (p.sh v d) → Q v H') → r v1 H Q
theorem one_in {ma : M AV} {Q : VK} {f : AV → Option AV} {r : V → Hp → VK → Prop} (ho : Op1 K r f) (h : rdE K Γ W (e1 f ma) σ H Q) : rdE K Γ W ma σ H fun x H1 => r x H1 Q := by
  obtain ⟨st, p, R, h⟩ := h
  refine ⟨st, p, R, ?_⟩
  unfold e1 at h
  cases ea : ma st with
  | bad => rw [ea] at h; exact h
  | err c s1 => rw [ea] at h; exact h
  | ok x s1 =>
    rw [ea] at h
    simp only [Res.bind_ok] at h
    intro v1 H1 R1
    cases ef : f x with
    | none => simp only [ef, ofO_none] at h
    | some d =>
      simp only [ef, ofO_some] at h
      exact ho Γ σ H1 s1 _ v1 x d Q R1 ef h
theorem s_vnot {a : Expr} {ma : M AV} (h : PE X a (rdE X.K Γ W ma)) : PE X (.UnaryOp .Not a pos) (rdE X.K Γ W (e1 oNot ma)) := by
  refine pe_imp (pe_not h) fun σ H Q h => ?_
  refine one_in (r := fun x H1 Q => ∃ c, x = .bl c ∧ Q (.bl (!c)) H1) ?_ h
  intro Γ σ H st p v1 x d Q R e h
  obtain ⟨m, ar, am, ao, ab, R2, r⟩ := R.one
  unfold oNot at e
  obtain ⟨b, eb, rfl⟩ := Option.map_eq_some_iff.mp e
  exact ⟨b, asB_v r eb, h _ _ (R2.rel.bl _)⟩
theorem s_ife {c a b : Expr} {mc : M Bool} {ma mb : M AV} (hc : PT X c (rdT X.K Γ W mc)) (ha : PE X a (rdE X.K Γ W ma)) (hb : PE X b (rdE X.K Γ W mb)) : PE X (.IfExp c a b pos) (rdE X.K Γ W (eIf mc ma mb)) := by
  refine pe_imp (pe_ifExp hc ha hb) fun σ H Q h => ?_
  obtain ⟨st, p, R, h⟩ := h
  refine ⟨st, p, R, ?_⟩
  unfold eIf at h
  cases ea : mc st with
  | bad => rw [ea] at h; exact h
  | err c s1 => rw [ea] at h; exact h
  | ok b s1 =>
    rw [ea] at h
    simp only [Res.bind_ok] at h
    intro H1 R1
    cases b with
    | true => rw [if_pos rfl]; exact ⟨s1, p.nob, R1, h⟩
    | false => rw [if_neg Bool.false_ne_true]; exact ⟨s1, p.nob, R1, h⟩
theorem chn_in {r r' : R2} {f g : AV → AV → Option AV} {ma mb mc : M AV} {Q : VK} (ho : Op2 K r f) (ho' : Op2 K r' g) (h : rdE K Γ W (eChn f g ma mb mc) σ H Q) : tChain r r' (rdE K Γ W ma) (rdE K Γ W mb) (rdE K Γ W mc) σ H Q := by
  obtain ⟨st, p, R, h⟩ := h
  refine ⟨st, p, R, ?_⟩
  unfold eChn at h
  cases ea : ma st with
  | bad => rw [ea] at h; exact h
  | err c s1 => rw [ea] at h; exact h
  | ok x s1 =>
    rw [ea] at h
    simp only [Res.bind_ok] at h
    intro v1 H1 R1
    refine ⟨s1, _, R1, ?_⟩
    cases eb : mb s1 with
    | bad => rw [eb] at h; exact h
    | err c s2 =>
      rw [eb] at h
      intro H2 R2
      exact h H2 R2.drop
    | ok y s2 =>
      rw [eb] at h
      simp only [Res.bind_ok] at h
      intro v2 H2 R2
      cases ef : f x y with
      | none => simp only [ef, Option.bind_none, ofO_none, Res.bind_bad] at h
      | some d =>
        simp only [ef, Option.bind_some] at h
        cases ek : asB d with
        | none => simp only [ek, ofO_none, Res.bind_bad] at h
        | some k =>
          simp only [ek, ofO_some, Res.bind_ok] at h
          obtain ⟨m, ar, am, ao, ab, R3, r1, r2⟩ := R2.two
          refine ho Γ σ H2 s2 (p.nob.sh v2 y) m ar am ao ab v1 v2 x y d _ _ _ (R3.setI (r2.cons0 R3.ri)) r1 r2 ef ?_
          intro v H3 R4
          obtain ⟨m, ar, am, ao, ab, R5, r⟩ := R4.one
          refine ⟨k, asB_v r ek, ?_⟩
          cases k with
          | false =>
            rw [if_neg Bool.false_ne_true]
            exact h _ _ (R5.rel.drop.bl _)
          | true =>
            rw [if_pos rfl]
            simp only [cond_true] at h
            refine ⟨s2, _, R5.rel, ?_⟩
            cases ec : mc s2 with
            | bad => rw [ec] at h; exact h
            | err c s3 =>
              rw [ec] at h
              intro H4 R6
              exact h H4 R6.drop
            | ok z s3 =>
              rw [ec] at h
              simp only [Res.bind_ok] at h
              intro v3 H4 R6
              cases eg : g y z with
              | none => simp only [eg, ofO_none] at h
              | some d2 =>
                simp only [eg, ofO_some] at h
                obtain ⟨m, ar, am, ao, ab, R7, r1, r2⟩ := R6.two
                exact ho' Γ σ H4 s3 _ m ar am ao ab v2 v3 y z d2 _ _ Q R7 r1 r2 eg h
theorem s_chn {a b c : Expr} {op op' : CmpOp} {r r' : R2} {f g : AV → AV → Option AV} {ma mb mc : M AV} (hr : OpR X (compareOp op) r) (hr' : OpR X (compareOp op') r') (ho : Op2 X.K r f) (ho' : Op2 X.K r' g) (ha : PE X a (rdE X.K Γ W ma)) (hb : PE X b (rdE X.K Γ W mb)) (hc : PE X c (rdE X.K Γ W mc))
    (hp : ∀ {t t' : R2} {u1 u2 u3 : TE}, OpR X (compareOp op) t → OpR X (compareOp op') t' → PE X a u1 → PE X b u2 → PE X c u3 → PE X (.Compare a [op, op'] [b, c] pos) (tChain t t' u1 u2 u3)) : PE X (.Compare a [op, op'] [b, c] pos) (rdE X.K Γ W (eChn f g ma mb mc)) :=
  pe_imp (hp hr hr' ha hb hc) fun σ H Q h => chn_in ho ho' h
end
section
variable {X : Cx} {Γ : Gam} {W : WX} {σ : L2.St} {H : Hp} {st : Ss} {p : Pd} {K : PySem.W.Frag} {pos : Pos}
theorem s_tchn {a b c : Expr} {op op' : CmpOp} {r r' : R2} {f g : AV → AV → Option AV} {ma mb mc : M AV} (hr : OpR X (compareOp op) r) (hr' : OpR X (compareOp op') r') (ho : Op2 X.K r f) (ho' : Op2 X.K r' g) (ha : PE X a (rdE X.K Γ W ma)) (hb : PE X b (rdE X.K Γ W mb)) (hc : PE X c (rdE X.K Γ W mc))
    (hp : ∀ {t t' : R2} {u1 u2 u3 : TE}, OpR X (compareOp op) t → OpR X (compareOp op') t' → PE X a u1 → PE X b u2 → PE X c u3 → PT X (.Compare a [op, op'] [b, c] pos) (tTest (tChain t t' u1 u2 u3))) : PT X (.Compare a [op, op'] [b, c] pos) (rdT X.K Γ W (tOf (eChn f g ma mb mc))) :=
  pt_imp (hp hr hr' ha hb hc) fun σ H Q h => by
    obtain ⟨st, p, R, h⟩ := tOf_in h
    exact chn_in ho ho' ⟨st, p, R, h⟩
/-! statements -/
theorem s_end : PSs X [] (rdS X.K Γ W sNx) := by
  refine pss_imp pss_nil fun D σ H h => ?_
  obtain ⟨st, p, R, hp, h⟩ := h
  exact h σ H R
theorem s_seq {s : Stmt} {r : List Stmt} {ma mb : M Fl} (h1 : PS X s (rdS X.K Γ W ma)) (h2 : PSs X r (rdS X.K Γ W mb)) : PSs X (s :: r) (rdS X.K Γ W (sSeq ma mb)) := by
  refine pss_imp (pss_cons h1 h2) fun D σ H h => ?_
  obtain ⟨st, p, R, hp, h⟩ := h
  refine ⟨st, p, R, hp, ?_⟩
  unfold sSeq at h
  cases ea : ma st with
  | bad => rw [ea] at h; exact h
  | err c s1 => rw [ea] at h; exact h
  | ok f s1 =>
    rw [ea] at h
    simp only [Res.bind_ok] at h
    cases f with
    | nx => exact fun σ' H' R' => ⟨s1, p, R', hp, h⟩
    | rt d => exact h
    | bk => exact h
    | ct => exact h
theorem s_one {s : Stmt} {ma : M Fl} (h1 : PS X s (rdS X.K Γ W ma)) : PSs X [s] (rdS X.K Γ W ma) := pss_one h1
theorem nob_sh {v : V} {d : AV} (hp : p.nob = p) : p.nob.sh v d = p.sh v d := by rw [hp]
theorem s_ret {e : Expr} {m : M AV} (h : PE X e (rdE X.K Γ W m)) : PS X (.Return (some e) pos) (rdS X.K Γ W (sRet m)) := by
  refine ps_imp (ps_ret h) fun D σ H h => ?_
  obtain ⟨st, p, R, hp, h⟩ := h
  refine ⟨st, p, R, ?_⟩
  unfold sRet at h
  cases ea : m st with
  | bad => rw [ea] at h; exact h
  | err c s1 => rw [ea] at h; exact fun H' R' => h σ H' (hp ▸ R')
  | ok d s1 =>
    rw [ea] at h
    simp only [Res.bind_ok] at h
    exact fun v H' R' => h v σ H' (nob_sh hp ▸ R')
theorem s_exp {e : Expr} {m : M AV} (h : PE X e (rdE X.K Γ W m)) (hs : swapsWith e none pos.line X.env = pure false := by rfl) : PS X (.Expr e pos) (rdS X.K Γ W (sExp m)) := by
  refine ps_imp (ps_expr h hs) fun D σ H h => ?_
  obtain ⟨st, p, R, hp, h⟩ := h
  refine ⟨st, p, R, ?_⟩
  unfold sExp at h
  cases ea : m st with
  | bad => rw [ea] at h; exact h
  | err c s1 => rw [ea] at h; exact fun H' R' => h σ H' (hp ▸ R')
  | ok d s1 =>
    rw [ea] at h
    simp only [Res.bind_ok] at h
    exact fun v H' R' => h σ H' (nob_sh hp ▸ R').drop
theorem s_if {c : Expr} {a b : List Stmt} {mc : M Bool} {ma mb : M Fl} (hc : PT X c (rdT X.K Γ W mc)) (ha : PSs X a (rdS X.K Γ W ma)) (hb : PSs X b (rdS X.K Γ W mb)) : PS X (.If c a b pos) (rdS X.K Γ W (sIf mc ma mb)) := by
  refine ps_imp (ps_if hc ha hb) fun D σ H h => ?_
  obtain ⟨st, p, R, hp, h⟩ := h
  refine ⟨st, p, R, ?_⟩
  unfold sIf at h
  cases ea : mc st with
  | bad => rw [ea] at h; exact h
  | err c s1 => rw [ea] at h; exact fun H' R' => h σ H' (hp ▸ R')
  | ok k s1 =>
    rw [ea] at h
    simp only [Res.bind_ok] at h
    intro H1 R1
    rw [hp] at R1
    cases k with
    | true => rw [if_pos rfl]; exact ⟨s1, p, R1, hp, h⟩
    | false => rw [if_neg Bool.false_ne_true]; exact ⟨s1, p, R1, hp, h⟩
/-- a value goes into a slot -/
theorem Rel.put {v : V} {d : AV} (R : Rel K Γ σ H st (p.sh v d)) (i : Nat) : Rel K Γ (σ.set i (some v)) H ⟨setSl st.r i (.im d), st.s⟩ p := by
  obtain ⟨m, ar, am, ao, ab, R⟩ := R
  obtain ⟨ar', h1, h2, h3⟩ := R.rs.drop i
  have nd := R.nd
  have fr := R.fr
  have t : Tr H H (wOf Γ ar am ao) (wOf Γ ar' am ao) m m [] := Tr.same fun c z => by
    simp only [wOf, List.mem_append] at z ⊢
    grind
  have rs : Rs K H (wOf Γ ar' am ao) m (σ.set i (some v)) (setSl st.r i (.im d)) ar' := by
    by_cases hi : i < st.r.length
    · exact (t.rs h3 (fun _ _ z => nomatch z)).setNo hi (t.rp0 R.ri.head0.1)
    · have e1 : ∀ (r : List Sl) (y : Sl) (i : Nat), ¬ i < r.length → setSl r i y = r := fun r y => by
        induction r with
        | nil => intro i _; rfl
        | cons x r ih => intro i hi; cases i with
          | zero => exact absurd (by simp) hi
          | succ i => rw [setSl_s, ih i (by simpa using hi)]
      have e2 : σ.set i (some v) = σ := List.set_eq_of_length_le (by rw [R.rs.len]; omega)
      rw [e1 _ _ i hi, e2]
      rw [e1 _ _ i hi] at h3
      exact t.rs h3 (fun _ _ z => nomatch z)
  refine ⟨m, ar', am, ao, ab, rs, t.rp R.rm (fun _ _ z => nomatch z), t.rp0 R.ri.head0.2, t.rp R.ro (fun _ _ z => nomatch z), t.rp R.rb (fun _ _ z => nomatch z), ?_, ?_, R.kp, R.pm, R.gu, R.tb⟩
  · simp only [wOf, List.nodup_append, List.mem_append] at nd ⊢
    grind
  · intro a ha
    have z := fr a
    simp only [List.mem_append] at z ha
    grind
theorem s_asg {i : Nat} {x : Str} {e : Expr} {m : M AV} {pos' : Pos} (hN : X.N.Nodup) (hi : X.N[i]? = some x) (hx : Loc X.env.scope x) (he : PE X e (rdE X.K Γ W m)) (hs : swapsWith e (some (.Name x pos')) pos.line X.env = pure false := by rfl) (hf : X.fn x = true ∨ X.env.scope.names.lookup x = some .local := by first | exact .inl rfl | exact .inr rfl | assumption) :
    PS X (.Assign [.Name x pos'] e pos) (rdS X.K Γ W (sAsg i m)) := by
  refine ps_imp (ps_set hN hi hx he hs hf) fun D σ H h => ?_
  obtain ⟨st, p, R, hp, h⟩ := h
  refine ⟨st, p, R, ?_⟩
  unfold sAsg at h
  cases ea : m st with
  | bad => rw [ea] at h; exact h
  | err c s1 => rw [ea] at h; exact fun H' R' => h σ H' (hp ▸ R')
  | ok d s1 =>
    rw [ea] at h
    simp only [Res.bind_ok] at h
    exact fun v H' R' => h _ H' (Rel.put (nob_sh hp ▸ R') i)
/-- an owned thing goes into a slot -/
theorem Rel.putO {v : V} {d : AV} (R : Rel K Γ σ H st (p.own v d)) (i : Nat) (hi : i < st.r.length) : Rel K Γ (σ.set i (some v)) H ⟨setSl st.r i (.ow d), st.s⟩ p := by
  obtain ⟨m, ar, am, ao, ab, R⟩ := R
  obtain ⟨ar', h1, h2, h3⟩ := R.rs.drop i
  obtain ⟨b, ao', eo, r1, r2⟩ := R.ro.head
  have nd := R.nd
  have fr := R.fr
  subst eo
  have t0 : Tr H H (wOf Γ ar am (b ++ ao')) (wOf Γ ar' am (b ++ ao')) m m [] := Tr.same fun c z => by
    simp only [wOf, List.mem_append] at z ⊢
    grind
  obtain ⟨a1, a2, ea, rs⟩ := (t0.rs h3 (fun _ _ z => nomatch z)).setOw hi (t0.rp r1 (fun _ _ z => nomatch z))
  subst ea
  have t : Tr H H (wOf Γ ar am (b ++ ao')) (wOf Γ (a1 ++ (b ++ a2)) am ao') m m [] := Tr.same fun c z => by
    simp only [wOf, List.mem_append] at z h1 ⊢
    grind
  have t1 : Tr H H (wOf Γ (a1 ++ a2) am (b ++ ao')) (wOf Γ (a1 ++ (b ++ a2)) am ao') m m [] := Tr.same fun c z => by
    simp only [wOf, List.mem_append] at z ⊢
    grind
  refine ⟨m, a1 ++ (b ++ a2), am, ao', ab, t1.rs rs (fun _ _ z => nomatch z), t.rp R.rm (fun _ _ z => nomatch z), t.rp0 R.ri, t.rp r2 (fun _ _ z => nomatch z), t.rp R.rb (fun _ _ z => nomatch z), ?_, ?_, R.kp, R.pm, R.gu, R.tb⟩
  · simp only [wOf, List.nodup_append, List.mem_append] at nd h1 h2 ⊢
    grind
  · intro a ha
    have z := fr a
    simp only [List.mem_append] at z ha h1
    grind
def sAsgOw (i : Nat) (e : M AV) : M Fl := fun st => (e st).bind fun d s1 => if i < s1.r.length then .ok .nx ⟨setSl s1.r i (.ow d), s1.s⟩ else .bad
theorem s_asgO {i : Nat} {x : Str} {e : Expr} {m : M AV} {pos' : Pos} (hN : X.N.Nodup) (hi : X.N[i]? = some x) (hx : Loc X.env.scope x) (he : PE X e (rdO X.K Γ W m)) (hs : swapsWith e (some (.Name x pos')) pos.line X.env = pure false := by rfl) (hf : X.fn x = true ∨ X.env.scope.names.lookup x = some .local := by first | exact .inl rfl | exact .inr rfl | assumption) :
    PS X (.Assign [.Name x pos'] e pos) (rdS X.K Γ W (sAsgOw i m)) := by
  refine ps_imp (ps_set hN hi hx he hs hf) fun D σ H h => ?_
  obtain ⟨st, p, R, hp, h⟩ := h
  refine ⟨st, p, R, ?_⟩
  unfold sAsgOw at h
  cases ea : m st with
  | bad => rw [ea] at h; exact h
  | err c s1 => rw [ea] at h; exact fun H' R' => h σ H' (hp ▸ R')
  | ok d s1 =>
    rw [ea] at h
    simp only [Res.bind_ok] at h
    by_cases c : i < s1.r.length
    · rw [if_pos c] at h
      intro v H' R'
      have e : p.nob.own v d = p.own v d := by rw [hp]
      rw [e] at R'
      exact h _ H' (Rel.putO R' i c)
    · rw [if_neg c] at h; exact h.elim
end
end Fk
/-! ## defs and their calls -/
namespace Fk
open PySem PySem.Spec PyProof.Rows L2
/-- what a def leaves: U is not touched, objects stand at m, own am -/
def Pst (K : PySem.W.Frag) (T : List (Addr × Str)) (U m am : List Addr) (H : Hp) (vs : List V) (xs S : List AV) (H' : Hp) : Prop := ∃ m' am', Rp K H' (U ++ am') m' vs xs [] ∧ Rp K H' (U ++ am') m' (m'.map V.ref) S am' ∧ (U ++ am').Nodup ∧
  (∀ a ∈ am', a ∈ am ∨ H a = none) ∧ (∀ a o, H a = some o → a ∉ am → ∃ o', H' a = some o' ∧ (NoTbl o → o' = o)) ∧ (∀ (l : Nat) a, m[l]? = some a → m'[l]? = some a) ∧ Tb T H'
abbrev Fn := List AV → List AV → Res AV (List AV)
/-- a def that is worth f -/
def spM (K : PySem.W.Frag) (T : List (Addr × Str)) (n : Nat) (f : Fn) : Sp := fun vs H Q E => vs.length = n ∧ ∃ U m am xs S, Rp K H (U ++ am) m vs xs [] ∧ Rp K H (U ++ am) m (m.map V.ref) S am ∧ (U ++ am).Nodup ∧ (∀ a ∈ U, ∃ o, H a = some o ∧ mutO o = true) ∧ Tb T H ∧
  match f xs S with
  | .ok d S' => ∀ v H', Pst K T U m am H [v] [d] S' H' → Q v H'
  | .err c S' => ∀ H', Pst K T U m am H [] [] S' H' → E (.ref (He.ga K c)) none H'
  | .bad => False
def fnM (n : Nat) (body : M Fl) : Fn := fun xs S => match body ⟨xs.map Sl.im ++ List.replicate n .no, S⟩ with
  | .ok (.rt d) st => .ok d st.s
  | .ok .nx st => .ok .non st.s
  | .err c st => .err c st.s
  | _ => .bad
section
variable {K : PySem.W.Frag} {Γ : Gam} {σ : L2.St} {H H' : Hp} {st : Ss} {p : Pd} {m ar am ao ab : List Addr} {vs : List V} {xs S : List AV}
theorem rs_args {W : List Addr} : ∀ {vs : List V} {xs : List AV} (n : Nat), Rp K H W m vs xs [] → Rs K H W m (vs.map some ++ List.replicate n none) (xs.map Sl.im ++ List.replicate n .no) []
  | [], xs, n, r => by
    obtain ⟨rfl, _⟩ := r.nil_inv'
    induction n with
    | zero => exact .nil
    | succ n ih => exact .no ih
  | v :: vs, [], n, r => by cases r.nil_inv.1
  | v :: vs, x :: xs, n, r => .im r.head0.1 (rs_args n r.head0.2)
/-- a def's entry -/
theorem ent {T : List (Addr × Str)} {U : List Addr} {n : Nat} (r1 : Rp K H (U ++ am) m vs xs []) (r2 : Rp K H (U ++ am) m (m.map V.ref) S am) (nd : (U ++ am).Nodup) (hu : ∀ a ∈ U, ∃ o, H a = some o ∧ mutO o = true) (tb : Tb T H) :
    Rel K ⟨U, H, am, m, T⟩ (vs.map some ++ List.replicate n none) H ⟨xs.map Sl.im ++ List.replicate n .no, S⟩ {} := by
  have e : U ++ am = wOf ⟨U, H, am, m, T⟩ [] am [] := by simp [wOf]
  rw [e] at r1 r2 nd
  refine ⟨m, [], am, [], [], rs_args n r1, r2, .nil, .nil, .nil, nd, fun a ha => .inl (by simpa using ha), fun a o h _ => ⟨o, h, fun _ => rfl⟩, fun _ _ h => h, fun a ha => ⟨hu a ha, fun z => ?_⟩, tb⟩
  rw [← e] at nd
  exact (List.nodup_append.mp nd).2.2 a ha a z rfl
/-- .. and its end -/
theorem ext_ {U A0 m0 : List Addr} {H0 : Hp} {T : List (Addr × Str)} (R : Rel K ⟨U, H0, A0, m0, T⟩ σ H st p) (hv : p.iv = vs) (hx : p.ix = xs) : Pst K T U m0 A0 H0 vs xs st.s H := by
  obtain ⟨m, ar, am, ao, ab, R⟩ := R
  subst hv hx
  have h1 : ∀ b, b ∈ U ++ am → b ∈ wOf ⟨U, H0, A0, m0, T⟩ ar am ao := fun b z => by
    simp only [wOf, List.mem_append] at z ⊢
    grind
  refine ⟨m, am, R.ri.perm h1, R.rm.perm h1, ?_, fun a ha => R.fr a (by simp [ha]), R.kp, R.pm, R.tb⟩
  have nd := R.nd
  simp only [wOf, List.nodup_append, List.mem_append] at nd ⊢
  grind
/-- what is handed to a def -/
theorem Rl.enter (R : Rl K Γ σ H st p m ar am ao ab) (r : Rp K H (wOf Γ ar am ao) m vs xs []) : Rp K H ((Γ.U ++ (ar ++ ao)) ++ am) m vs xs [] ∧ Rp K H ((Γ.U ++ (ar ++ ao)) ++ am) m (m.map V.ref) st.s am ∧ ((Γ.U ++ (ar ++ ao)) ++ am).Nodup ∧
    (∀ a ∈ Γ.U ++ (ar ++ ao), ∃ o, H a = some o ∧ mutO o = true) ∧ Tb Γ.T H := by
  have h1 : ∀ b, b ∈ (Γ.U ++ (ar ++ ao)) ++ am → b ∈ wOf Γ ar am ao := fun b z => by
    simp only [wOf, List.mem_append] at z ⊢
    grind
  refine ⟨r.perm h1, R.rm.perm h1, ?_, fun a ha => R.own a ?_, R.tb⟩
  · have nd := R.nd
    simp only [wOf, List.nodup_append, List.mem_append] at nd ⊢
    grind
  · simp only [wOf, List.mem_append] at ha ⊢
    grind
/-- back from it -/
theorem Rl.back (R : Rl K Γ σ H st p m ar am ao ab) {U : List Addr} (hU : U = Γ.U ++ (ar ++ ao)) (h : Pst K Γ.T U m am H vs xs S H') : ∃ m' am', Rl K Γ σ H' ⟨st.r, S⟩ p.nob m' ar am' ao [] ∧ Rp K H' (wOf Γ ar am' ao) m' vs xs [] := by
  subst hU
  obtain ⟨m', am', r1, r2, nd, fr, kp, pm, tb⟩ := h
  have w1 : ∀ b, b ∈ wOf Γ ar am' ao → b ∈ (Γ.U ++ (ar ++ ao)) ++ am' := fun b z => by
    simp only [wOf, List.mem_append] at z ⊢
    grind
  have k : Kp H H' am := ⟨fun b o e n t => by
    obtain ⟨o', e', f⟩ := kp b o e n
    rw [f t] at e'
    exact e', fun b hb => R.rm.there b hb⟩
  have t : Tr H H' (wOf Γ ar am ao) (wOf Γ ar am' ao) m m' am := by
    refine ⟨k, fun b hb => by simp only [wOf, List.mem_append]; grind, fun b ⟨o, e⟩ n z => ?_, pm⟩
    have f := fr b
    simp only [wOf, List.mem_append] at n z
    grind
  have dr : ∀ b ∈ ar, b ∉ am := fun b hb z => by
    have n := R.nd
    simp only [wOf, List.nodup_append, List.mem_append] at n
    grind
  have dq : ∀ b ∈ ao, b ∉ am := fun b hb z => by
    have n := R.nd
    simp only [wOf, List.nodup_append, List.mem_append] at n
    grind
  refine ⟨m', am', ⟨t.rs R.rs dr, r2.perm w1, t.rp0 R.ri, t.rp R.ro dq, .nil, ?_, fun a ha => ?_, fun a o e n => ?_, fun l a h => pm l a (R.pm l a h), R.gu, tb⟩, r1.perm w1⟩
  · simp only [wOf, List.nodup_append, List.mem_append] at nd ⊢
    grind
  · have f := fr a
    have g := R.fr a
    simp only [List.mem_append] at ha f g
    rcases ha with ha | ha | ha
    · exact g (.inl ha)
    · rcases f ha with z | z
      · exact g (.inr (.inl z))
      · exact R.free0 z
    · exact g (.inr (.inr ha))
  · obtain ⟨o1, e1, f1⟩ := R.kp a o e n
    by_cases c : a ∈ am
    · have g := R.fr a (by simp [c])
      rcases g with g | g
      · exact absurd g n
      · rw [e] at g; cases g
    · obtain ⟨o2, e2, f2⟩ := kp a o1 e1 c
      refine ⟨o2, e2, fun z => ?_⟩
      have z1 := f1 z
      subst z1
      exact f2 z
end
/-! ### a def of the text -/
structure FnN (P : Program) (w : World) (K : PySem.W.Frag) (mg : Str → Option Value) (base : Heap) (k : Nat) (f : Addr) (fd : FuncData) (ps : List Str) (sp : Sp) : Prop where
  len : ∀ vs H Q E, sp vs H Q E → vs.length = ps.length
  run : ∀ (A : Around) (outer : List Env) (s : Shared) (H : Hp) (args : Args) (us : List Value) (vs : List V) (Q : VK) (E : XK), A.guards = some [] → Room k A → Env0 P w K mg base A outer s H →
    BindsTo s fd args (ps.zip us) → Vals vs us → sp vs H Q E → codeAny (model P w) A (.call (.ref f) args) (CR (L2N.CX P w) outer P w H s Q E) s
abbrev cxN (P : Program) (w : World) (K : PySem.W.Frag) (mg : Str → Option Value) (base : Heap) (N : List Str) (qual : Str) (scope : Scope) (f : Addr) (cd : Value) (A : Around) (outer : List Env) (s : Shared) (H : Hp) (E : XK) : Cx :=
  cxOf (L2N.CX P w) P w K mg base N qual scope f cd A outer s H E
section
variable {P : Program} {w : World} {K : PySem.W.Frag} {mg : Str → Option Value} {base : Heap} {k : Nat} {f : Addr} {fd : FuncData} {ps N : List Str} {sp : Sp} {x qual : Str} {params : Arguments} {body : List Stmt} {scope : Scope} {dvs : List V} {kws : List (Str × V)} {T : List (Addr × Str)}
theorem okN (F : FunD K x qual params body scope dvs kws f fd) (S : FnScope N ps scope) (len : ∀ vs H Q E, sp vs H Q E → vs.length = ps.length)
    (hb : ∀ (cdv : Value) (A : Around) (outer : List Env) (s : Shared) (H : Hp) (vs : List V) (Q : VK) (E : XK), A.guards = some [] → Room k (A.deeper (envOfC qual scope s.heap.objs.size f cdv)) → sp vs H Q E →
      ∃ t, PSs (cxN P w K mg base N qual scope f cdv A outer s H E) body t ∧ t { nx := fun _ H' => Q .non H', rt := Q } (start N vs) H) : FnN P w K mg base (k + 1) f fd ps sp := by
  obtain ⟨oc, od, dV, kV, doc, pm, an, cdv, ct, osl, rfl, lk, hcd, _, _⟩ := F.ex
  refine ⟨len, ?_⟩
  intro A outer s H args us vs Q E hG hr e0 hbi r hsp
  have inK : K.In s.heap := e0.mod.kin.keeps fun b o e => (e0.bs b o e).1
  have lim : s.heap.NoLimit := e0.mod.nolimit.keeps fun b o e => (e0.bs b o e).1
  refine codeAny_call_function hr.depth (inK _ _ lk) rfl S.co S.gen rfl (PySem.W.codeRec_of inK hcd) (hbi _ _ _ _ ?_)
  refine wpAny_newFunctionEnv_cells S.kind ?_ ?_
  · rintro ⟨n, v⟩ hy
    rcases S.par n (List.of_mem_zip hy).1 with z | z
    · exact .inl z
    · exact .inr ⟨z, PySem.W.cellsFrom_some _ _ _ (.inl z)⟩
  intro env he s1 y
  subst he
  refine ⟨lim.keeps y.toInCall.keep, codeAny_func ?_⟩
  obtain ⟨t, ht, hq⟩ := hb cdv A outer s H vs Q E hG (hr.deeper _) hsp
  have I := inv_start (CX := L2N.CX P w) (E := E) S hr.hd e0 (len _ _ _ _ hsp) r y
  refine wpAny_mono (ht.run [] s1 (start N vs) H _ I hq) ?_ (fun e s' z => z)
  intro fl s' z
  cases fl with
  | ret u =>
    obtain ⟨v, σ', H', J, rv, q⟩ := z
    exact ⟨v, H', J.os, J.bare, J.base, J.hok, rv, q⟩
  | next =>
    obtain ⟨σ', H', J, q⟩ := z
    exact ⟨V.non, H', J.os, J.bare, J.base, J.hok, rfl, q⟩
  | brk => obtain ⟨_, _, _, q⟩ := z; exact q.elim
  | cont => obtain ⟨_, _, _, q⟩ := z; exact q.elim
theorem takes_N {cd : Value} {A : Around} {outer : List Env} {s : Shared} {H : Hp} {E : XK} : L2N.Takes (cxN P w K mg base N qual scope f cd A outer s H E) (fun cls d _ H => E cls d H) := L2N.takes_of rfl rfl rfl rfl
/-- a def by its body's plain meaning -/
theorem okM {mb : M Fl} {n : Nat} (F : FunD K x qual params body scope dvs kws f fd) (S : FnScope N ps scope) (hn : N.length - ps.length = n)
    (hb : ∀ (cdv : Value) (A : Around) (outer : List Env) (s : Shared) (H : Hp) (E : XK) (Γ : Gam), Γ.T = T → A.guards = some [] → Room k (A.deeper (envOfC qual scope s.heap.objs.size f cdv)) →
      PSs (cxN P w K mg base N qual scope f cdv A outer s H E) body (rdS K Γ (fun cls d _ H => E cls d H) mb)) : FnN P w K mg base (k + 1) f fd ps (spM K T ps.length (fnM n mb)) := by
  refine okN F S (fun vs H Q E h => h.1) ?_
  intro cdv A outer s H vs Q E hG hr hsp
  obtain ⟨hl, U, m, am, xs, S0, r1, r2, nd, hu, tb, h⟩ := hsp
  refine ⟨_, hb cdv A outer s H E ⟨U, H, am, m, T⟩ rfl hG hr, ?_⟩
  have e : L2.start N vs = vs.map some ++ List.replicate n none := by unfold L2.start; rw [hl, hn]
  rw [e]
  refine ⟨_, _, ent (n := n) r1 r2 nd hu tb, rfl, ?_⟩
  unfold fnM at h
  cases em : mb ⟨xs.map Sl.im ++ List.replicate n .no, S0⟩ with
  | bad => rw [em] at h; exact h
  | err c st => rw [em] at h; exact fun σ' H' R' => h H' (ext_ R' rfl rfl)
  | ok fl st =>
    rw [em] at h
    cases fl with
    | nx => exact fun σ' H' R' => h .non H' (ext_ R'.non rfl rfl)
    | rt d => exact fun v σ' H' R' => h v H' (ext_ R' rfl rfl)
    | bk => exact h.elim
    | ct => exact h.elim
end
/-- a function of the text that stands behind its name -/
structure CalN (P : Program) (w : World) (K : PySem.W.Frag) (mg : Str → Option Value) (base : Heap) (T : List (Addr × Str)) (k : Nat) (x : Str) (ps : List Str) (ds : List AV) (f : Fn) : Prop where
  ex : ∃ (a : Addr) (fd : FuncData) (dvs : List V) (us : List Value), FnN P w K mg base k a fd ps (spM K T ps.length f) ∧ mg x = some (.ref a) ∧ PySem.W.keepIn K (.ref a) = true ∧ Binds K fd ps us ∧ Vals dvs us ∧ ∀ H W m, Rp K H W m dvs ds []
/-- what a def leaves, taken over -/
def back (r : List Sl) : Res AV (List AV) → Res AV Ss
  | .ok d S => .ok d ⟨r, S⟩
  | .err c S => .err c ⟨r, S⟩
  | .bad => .bad
@[simp] theorem back_ok (r : List Sl) (d : AV) (S : List AV) : back r (.ok d S) = .ok d ⟨r, S⟩ := rfl
@[simp] theorem back_err (r : List Sl) (c : Str) (S : List AV) : back r (.err c S) = .err c ⟨r, S⟩ := rfl
@[simp] theorem back_bad (r : List Sl) : back r .bad = .bad := rfl
def eCall (n : Nat) (f : Fn) (ds : List AV) (a : M (List AV)) : M AV := fun st => (a st).bind fun xs s1 => if xs.length + ds.length = n then back s1.r (f (xs ++ ds) s1.s) else .bad
section
variable {X : Cx} {Γ : Gam} {W : WX} {σ : L2.St} {H : Hp} {st : Ss} {p : Pd} {K : PySem.W.Frag} {pos q : Pos} {k j : Nat} {x : Str} {ps : List Str} {ds : List AV} {f : Fn} {e : Expr} {es : List Expr} {ma : M (List AV)}
theorem run_N {pins : List (Addr × Obj)} {s : Shared} {Q : VK} {us ws : List Value} {vs dvs : List V} {a : Addr} {fd : FuncData} {sp : Sp} {E : XK} (F : FnN X.prog X.w X.K X.mg X.base k a fd ps sp) (hG : X.A.guards = some []) (hr : Room k X.A) (hb : Binds X.K fd ps ws) (hd : Vals dvs ws)
    (hx : PassesAt (L2N.CX X.prog X.w) X σ E) (I : Inv X pins σ H s) (r : Vals vs us) (h : sp (vs ++ dvs) H Q E) : wpAny (model X.prog X.w) X.A (call (.ref a) us) (EP X pins σ Q) X.xe s := by
  have r2 := r.append hd
  have hl : (us ++ ws).length = ps.length := r2.length.symm.trans (F.len _ _ _ _ h)
  refine wpAny_call (codeAny_mono (F.run X.A X.stack s H ⟨us, []⟩ (us ++ ws) (vs ++ dvs) Q E hG hr I.env0 (hb s us I.kIn hl) r2 h) ?_)
  intro r s' z
  cases r with
  | error e => exact hx pins H s e s' I z
  | ok fl => cases fl with
    | ret u => exact I.after z
    | next => exact z.elim
    | brk => exact z.elim
    | cont => exact z.elim
/-- arguments, then the def -/
theorem call_in {n : Nat} {dvs : List V} {Q : VK} (hd : ∀ H W m, Rp K H W m dvs ds []) (h : rdE K Γ W (eCall n f ds ma) σ H Q) : rdA K Γ W ma σ H fun vs H1 => spM K Γ.T n f (vs ++ dvs) H1 Q (WE W σ) := by
  obtain ⟨st, p, R, h⟩ := h
  refine ⟨st, p, R, ?_⟩
  unfold eCall at h
  cases ea : ma st with
  | bad => rw [ea] at h; exact h
  | err c s1 => rw [ea] at h; exact h
  | ok xs s1 =>
    rw [ea] at h
    simp only [Res.bind_ok] at h
    by_cases cn : xs.length + ds.length = n
    · rw [if_pos cn] at h
      intro vs H1 hl R1
      obtain ⟨m, ar, am, ao, ab, R2, r⟩ := Rel.args (p := p.nob) hl R1
      obtain ⟨c1, c2, c3, c4, c5⟩ := R2.enter (r.app (hd _ _ _))
      have l2 := (hd H1 [] []).len
      refine ⟨by rw [List.length_append]; omega, _, m, am, xs ++ ds, s1.s, c1, c2, c3, c4, c5, ?_⟩
      cases ef : f (xs ++ ds) s1.s with
      | bad => rw [ef] at h; exact h
      | err c S' =>
        rw [ef] at h
        intro H2 hp
        obtain ⟨m', am', R3, _⟩ := R2.back rfl hp
        exact h H2 R3.rel
      | ok d S' =>
        rw [ef] at h
        intro v H2 hp
        obtain ⟨m', am', R3, r3⟩ := R2.back rfl hp
        exact h v H2 (R3.sh r3)
    · rw [if_neg cn] at h
      exact h.elim
theorem s_call (F : CalN X.prog X.w X.K X.mg X.base Γ.T k x ps ds f) (hG : X.A.guards = some []) (hr : Room j X.A) (hk : k ≤ j) (hg : Gl X x) (tk : L2N.Takes X W) (ha : PA X (e :: es) (rdA X.K Γ W ma))
    (hdb : (x == ("__debug__" : Str)) = false := by decide) (he : starEach (e :: es) X.env = (false, eval e X.env) :: starEach es X.env := by rfl) (hpl : (backTo pos (starEach es X.env)).any (·.1) = false := by rfl) :
    PE X (.Call (.Name x q) (e :: es) [] pos) (rdE X.K Γ W (eCall ps.length f ds ma)) := by
  obtain ⟨a, fd, dvs, us, G, gm, kp, b, v, hd⟩ := F.ex
  refine ⟨fun pins s σ H Q I h => wpAny_Call_Name_kw (ld_glob I hg gm ?_ hdb)⟩
  refine PySem.W.callWith_K (h₀ := X.base) I.ok.mod.kin kp (thn (ha.run pos pins s σ H _ I (call_in hd h)) ?_) he hpl
  rintro us s1 ⟨vs, H1, I1, r, q⟩
  exact ⟨I1.kIn, run_N G hG (hr.mono hk) b v (L2N.passAt tk σ) I1 r q⟩
/-! ### raise -/
def sRaise (c : Str) : M Fl := fun st => .err c st
theorem s_raise {mt : Str} {i : Nat} {p1 p2 pos' : Pos} (F : ExcF X.K X.mg x) (hc : X.calm = true) (tk : L2N.Takes X W) (hg : Gl X x) (hdb : (x == ("__debug__" : Str)) = false := by decide) :
    PS X (.Raise (some (.Call (.Name x p1) [.Constant (.str mt) i p2] [] pos)) none pos') (rdS X.K Γ W (sRaise x)) := by
  refine ps_imp (L2N.ps_raise hc tk (L2N.pmk_own PySem.F.excBase_ValueError F.ex F.gl F.kp (raises_own F.sub F.ty) hg hdb)) fun D σ H h => ?_
  obtain ⟨st, p, R, hp, h⟩ := h
  exact h σ H R
end
end Fk
/-! ## targets, loops, comprehensions -/
namespace Fk
open PySem PySem.Spec PyProof.Rows L2
abbrev Tg := AV → Ss → Option Ss
/-- a target: ns are the slots that it stores to -/
def rdG (K : PySem.W.Frag) (Γ : Gam) (ns : List Nat) (t : Tg) : TG := fun v σ H Q => ∃ st p d st', Rel K Γ σ H st (p.sh v d) ∧ t d st = some st' ∧ ∀ σ' H', wipe σ' ns = wipe σ ns → Rel K Γ σ' H' st' p → Q σ' H'
def rdGs (K : PySem.W.Frag) (Γ : Gam) (ns : List Nat) (t : List AV → Ss → Option Ss) : TGs := fun vs σ H Q => ∃ st p ds st', vs.length = ds.length ∧ Rel K Γ σ H st { p with iv := vs ++ p.iv, ix := ds ++ p.ix } ∧ t ds st = some st' ∧ ∀ σ' H', wipe σ' ns = wipe σ ns → Rel K Γ σ' H' st' p → Q σ' H'
def gN (i : Nat) : Tg := fun d st => some ⟨setSl st.r i (.im d), st.s⟩
def gNil' : List AV → Ss → Option Ss
  | [], st => some st
  | _ :: _, _ => none
def gCons' (t : Tg) (u : List AV → Ss → Option Ss) : List AV → Ss → Option Ss
  | d :: ds, st => (t d st).bind fun s1 => u ds s1
  | [], _ => none
def gT (n : Nat) (u : List AV → Ss → Option Ss) : Tg := fun d st => match d with
  | .tup xs => if xs.length = n then u xs st else none
  | .lst _ xs => if xs.length = n then u xs st else none
  | _ => none
theorem pg_or {X : Cx} {tg : Expr} {g1 g2 : TG} (h1 : PG X tg g1) (h2 : PG X tg g2) : PG X tg (fun v σ H Q => g1 v σ H Q ∨ g2 v σ H Q) := ⟨fun pins s σ H v u Q I r h => h.elim (h1.run pins s σ H v u Q I r) (h2.run pins s σ H v u Q I r)⟩
theorem wipe_sub {σ σ' : L2.St} {ns ms : List Nat} (h : wipe σ' ns = wipe σ ns) (hs : ∀ i ∈ ns, i ∈ ms) : wipe σ' ms = wipe σ ms := by
  have len : σ'.length = σ.length := by rw [← wipe_length σ' ns, h, wipe_length]
  apply List.ext_getElem?
  intro i
  by_cases c : i ∈ ms
  · have z : ∀ (τ : L2.St) (l : List Nat), i ∈ l → (wipe τ l)[i]? = if i < τ.length then some none else none := fun τ l => by
      induction l with
      | nil => intro z; cases z
      | cons a l ih =>
        intro z
        unfold wipe
        by_cases e : a = i
        · subst e
          by_cases hl : a < τ.length
          · rw [if_pos hl, List.getElem?_set_self (by rw [wipe_length]; exact hl)]
          · rw [if_neg hl, List.getElem?_eq_none (by rw [List.length_set, wipe_length]; omega)]
        · rw [List.getElem?_set_ne e]
          exact ih (by
            rcases List.mem_cons.mp z with z | z
            · exact absurd z.symm e
            · exact z)
    rw [z _ _ c, z _ _ c, len]
  · rw [wipe_out c, wipe_out c]
    have c2 : i ∉ ns := fun z => c (hs i z)
    have e1 := wipe_out (σ := σ') c2
    have e2 := wipe_out (σ := σ) c2
    rw [← e1, ← e2, h]
theorem wipe_set {σ : L2.St} {i : Nat} {o : Option V} : wipe (σ.set i o) [i] = wipe σ [i] := by
  show ((σ.set i o).set i none) = σ.set i none
  rw [List.set_set]
section
variable {X : Cx} {Γ : Gam} {W : WX} {σ : L2.St} {H : Hp} {st : Ss} {p : Pd} {K : PySem.W.Frag} {pos : Pos}
theorem pg_imp {e : Expr} {t t' : TG} (h : PG X e t) (i : ∀ v σ H Q, t' v σ H Q → t v σ H Q) : PG X e t' := ⟨fun pins s σ H v u Q I r q => h.run pins s σ H v u Q I r (i v σ H Q q)⟩
theorem pgs_imp {e : List Expr} {t t' : TGs} (h : PGs X e t) (i : ∀ v σ H Q, t' v σ H Q → t v σ H Q) : PGs X e t' := ⟨fun pins s σ H v u Q I r q => h.run pins s σ H v u Q I r (i v σ H Q q)⟩
theorem s_gn {i : Nat} {x : Str} (hN : X.N.Nodup) (hi : X.N[i]? = some x) (hx : Loc X.env.scope x) (hf : X.fn x = true ∨ X.env.scope.names.lookup x = some .local := by first | exact .inl rfl | exact .inr rfl | assumption) : PG X (.Name x pos) (rdG X.K Γ [i] (gN i)) := by
  refine pg_imp (pg_name hN hi hx hf) fun v σ H Q h => ?_
  obtain ⟨st, p, d, st', R, e, h⟩ := h
  cases e
  exact h _ _ wipe_set (R.put i)
theorem s_gnil : PGs X [] (rdGs X.K Γ [] gNil') := by
  refine pgs_imp pgs_nil fun vs σ H Q h => ?_
  obtain ⟨st, p, ds, st', hl, R, e, h⟩ := h
  cases ds with
  | nil =>
    cases e
    cases vs with
    | nil => exact ⟨rfl, h _ _ rfl R⟩
    | cons _ _ => cases hl
  | cons _ _ => cases e
theorem s_gcons {e : Expr} {es : List Expr} {ns ms : List Nat} {t : Tg} {u : List AV → Ss → Option Ss} (h1 : PG X e (rdG X.K Γ ns t)) (h2 : PGs X es (rdGs X.K Γ ms u))
    (hs : (assignEach (e :: es) X.env).map (·.2) = assign e X.env :: (assignEach es X.env).map (·.2) := by rfl) : PGs X (e :: es) (rdGs X.K Γ (ns ++ ms) (gCons' t u)) := by
  refine pgs_imp (pgs_cons h1 h2 hs) fun vs σ H Q h => ?_
  obtain ⟨st, p, ds, st', hl, R, e, h⟩ := h
  cases ds with
  | nil => cases e
  | cons d ds =>
    cases vs with
    | nil => cases hl
    | cons v vs =>
      have e2 : (t d st).bind (fun s1 => u ds s1) = some st' := e
      cases et : t d st with
      | none => rw [et] at e2; cases e2
      | some s1 =>
        rw [et] at e2
        refine ⟨v, vs, rfl, st, { p with iv := vs ++ p.iv, ix := ds ++ p.ix }, d, s1, R, et, fun σ' H' w1 R1 => ⟨s1, p, ds, st', by simpa using hl, R1, e2, fun σ2 H2 w2 R2 => h σ2 H2 ?_ R2⟩⟩
        exact (wipe_sub w2 (fun i hi => by simp [hi])).trans (wipe_sub w1 (fun i hi => by simp [hi]))
theorem s_gt {es : List Expr} {k n : Nat} {ns : List Nat} {u : List AV → Ss → Option Ss} (hc : X.calm = true) (h : PGs X es (rdGs X.K Γ ns u)) (hn : (assignEach es X.env).length = n := by rfl) (hst : (assignEach es X.env).findIdx? (·.1) = none := by rfl) :
    PG X (.Tuple es k pos) (rdG X.K Γ ns (gT n u)) := by
  refine pg_imp (pg_or (pg_tup hc h hn hst) (pg_lst hc h hn hst)) fun v σ H Q h => ?_
  obtain ⟨st, p, d, st', R, e, h⟩ := h
  unfold gT at e
  cases d with
  | tup xs =>
    obtain ⟨m, ar, am, ao, ab, R0, r⟩ := R.one
    obtain ⟨a, us, rfl, hs, q⟩ := r.tup_i
    by_cases c : xs.length = n
    · simp only [c, if_true] at e
      exact .inl ⟨a, us, rfl, hs, by rw [q.len]; exact c, st, p, xs, st', q.len, ⟨m, ar, am, ao, ab, R0.setI (q.app R0.ri)⟩, e, h⟩
    · simp only [c, if_false] at e
      cases e
  | lst o xs =>
    obtain ⟨m, ar, am, ao, ab, R0, r⟩ := R.one
    obtain ⟨a, us, rfl, hs, q⟩ := r.lst_i
    by_cases c : xs.length = n
    · simp only [c, if_true] at e
      exact .inr ⟨a, us, rfl, SqL.of hs, by rw [q.len]; exact c, st, p, xs, st', q.len, ⟨m, ar, am, ao, ab, R0.setI (q.app R0.ri)⟩, e, h⟩
    · simp only [c, if_false] at e
      cases e
  | _ => cases e
/-! ### what is walked -/
abbrev Pd.shs (p : Pd) (vs : List V) (xs : List AV) : Pd := { p with iv := vs ++ p.iv, ix := xs ++ p.ix }
theorem Rel.dropL {vs : List V} {xs : List AV} (hl : vs.length = xs.length) (R : Rel K Γ σ H st (p.shs vs xs)) : Rel K Γ σ H st p := by
  obtain ⟨m, ar, am, ao, ab, R, _⟩ := Rel.args hl R
  exact R.rel
theorem Rel.dropL1 {vs : List V} {xs : List AV} {v : V} {d : AV} (hl : vs.length = xs.length) (R : Rel K Γ σ H st ((p.shs vs xs).sh v d)) : Rel K Γ σ H st (p.sh v d) := by
  obtain ⟨m, ar, am, ao, ab, R, r⟩ := R.one
  obtain ⟨a1, a2, e, r1, r2⟩ := Rp.app_inv hl R.ri
  obtain ⟨e1, e2⟩ := List.append_eq_nil_iff.mp e.symm
  subst e1 e2
  exact ⟨m, ar, am, ao, ab, R.setI (p := p.shs vs xs) (r.cons0 r2)⟩
/-- J walks ds as long as what is pending stands -/
def ItR (K : PySem.W.Frag) (Γ : Gam) (J : It) (p : Pd) (ds : List AV) : Prop :=
  (∀ (i : Nat) d σ H st ov ox, ds[i]? = some d → Rel K Γ σ H st { p with ov := ov, ox := ox } → J.go i H ∧ ∀ x H', J.yld i H x H' → Rel K Γ σ H' st ({ p with ov := ov, ox := ox }.sh x d)) ∧ ∀ σ H st ov ox, Rel K Γ σ H st { p with ov := ov, ox := ox } → J.stop ds.length H
def rdI (K : PySem.W.Frag) (Γ : Gam) (W : WX) (m : M (List AV)) : TI := fun σ H R => ∃ st p, Rel K Γ σ H st p ∧ match m st with
  | .ok ds st' => ∀ J H' vs xs, vs.length = xs.length → Rel K Γ σ H' st' (p.nob.shs vs xs) → ItR K Γ J (p.nob.shs vs xs) ds → R J H'
  | .err c st' => ∀ H', Rel K Γ σ H' st' p.nob → W (.ref (He.ga K c)) none σ H'
  | .bad => False
theorem pi_imp {tg it : Expr} {t t' : TI} (h : PI X tg it t) (i : ∀ σ H R, t' σ H R → t σ H R) : PI X tg it t' := ⟨fun pins s σ H R I q => h.run pins s σ H R I (i σ H R q)⟩
/-- a list's, a tuple's items -/
def itemsOf : AV → Option (List AV)
  | .lst _ xs => some xs
  | .tup xs => some xs
  | .scr xs => some xs
  | _ => none
def iOf (m : M AV) : M (List AV) := fun st => (m st).bind fun x s1 => ofO (itemsOf x) s1
theorem s_it {tg e : Expr} {m : M AV} (h : PE X e (rdE X.K Γ W m)) : PI X tg e (rdI X.K Γ W (iOf m)) := by
  refine pi_imp (pi_or (pi_list h) (pi_tup h)) fun σ H R q => ?_
  obtain ⟨st, p, R0, q⟩ := q
  unfold iOf at q
  cases ea : m st with
  | bad => rw [ea] at q; exact q.elim
  | err c s1 =>
    rw [ea] at q
    exact .inl ⟨st, p, R0, by rw [ea]; exact q⟩
  | ok d s1 =>
    rw [ea] at q
    simp only [Res.bind_ok] at q
    cases d with
    | lst o xs =>
      refine .inl ⟨st, p, R0, ?_⟩
      rw [ea]
      intro v H1 R1
      obtain ⟨mm, ar, am, ao, ab, R2, r⟩ := R1.one
      obtain ⟨a, us, rfl, hs, _⟩ := r.lst_i
      refine ⟨a, rfl, ⟨us, SqL.of hs⟩, q (Itl X.K a) H1 [.ref a] [(.lst o xs)] rfl R1 ⟨fun i d σ H st ov ox e R3 => ?_, fun σ H st ov ox R3 => ?_⟩⟩
      · obtain ⟨m3, ar3, am3, ao3, ab3, R4, r4⟩ := Rel.one (p := { p.nob with ov := ov, ox := ox }) R3
        obtain ⟨a2, us2, e2, hs2, q2⟩ := r4.lst_i
        cases e2
        obtain ⟨u, eu, ru⟩ := q2.get0 e
        refine ⟨⟨us2, u, SqL.of hs2, eu⟩, fun x H' y => ?_⟩
        obtain ⟨eh, y⟩ := y
        subst eh
        have z := y us2 (SqL.of hs2)
        rw [eu] at z
        cases z
        exact ⟨m3, ar3, am3, ao3, ab3, R4.setI (ru.cons0 (r4.cons0 R4.ri))⟩
      · obtain ⟨m3, ar3, am3, ao3, ab3, R4, r4⟩ := Rel.one (p := { p.nob with ov := ov, ox := ox }) R3
        obtain ⟨a2, us2, e2, hs2, q2⟩ := r4.lst_i
        cases e2
        exact ⟨us2, SqL.of hs2, Nat.le_of_eq q2.len⟩
    | scr xs =>
      refine .inl ⟨st, p, R0, ?_⟩
      rw [ea]
      intro v H1 R1
      obtain ⟨mm, ar, am, ao, ab, R2, r⟩ := R1.one
      obtain ⟨a, us, rfl, hs, _⟩ := r.scr_i
      refine ⟨a, rfl, ⟨us, hs.sq⟩, q (Itl X.K a) H1 [.ref a] [(.scr xs)] rfl R1 ⟨fun i d σ H st ov ox e R3 => ?_, fun σ H st ov ox R3 => ?_⟩⟩
      · obtain ⟨m3, ar3, am3, ao3, ab3, R4, r4⟩ := Rel.one (p := { p.nob with ov := ov, ox := ox }) R3
        obtain ⟨a2, us2, e2, hs2, q2⟩ := r4.scr_i
        cases e2
        obtain ⟨u, eu, ru⟩ := q2.get0 e
        refine ⟨⟨us2, u, hs2.sq, eu⟩, fun x H' y => ?_⟩
        obtain ⟨eh, y⟩ := y
        subst eh
        have z := y us2 hs2.sq
        rw [eu] at z
        cases z
        exact ⟨m3, ar3, am3, ao3, ab3, R4.setI (ru.cons0 (r4.cons0 R4.ri))⟩
      · obtain ⟨m3, ar3, am3, ao3, ab3, R4, r4⟩ := Rel.one (p := { p.nob with ov := ov, ox := ox }) R3
        obtain ⟨a2, us2, e2, hs2, q2⟩ := r4.scr_i
        cases e2
        exact ⟨us2, hs2.sq, Nat.le_of_eq q2.len⟩
    | tup xs =>
      refine .inr ⟨st, p, R0, ?_⟩
      rw [ea]
      intro v H1 R1
      obtain ⟨mm, ar, am, ao, ab, R2, r⟩ := R1.one
      obtain ⟨a, us, rfl, hs, _⟩ := r.tup_i
      refine ⟨a, rfl, ⟨us, hs⟩, q (Itt X.K a) H1 [.ref a] [(.tup xs)] rfl R1 ⟨fun i d σ H st ov ox e R3 => ?_, fun σ H st ov ox R3 => ?_⟩⟩
      · obtain ⟨m3, ar3, am3, ao3, ab3, R4, r4⟩ := Rel.one (p := { p.nob with ov := ov, ox := ox }) R3
        obtain ⟨a2, us2, e2, hs2, q2⟩ := r4.tup_i
        cases e2
        obtain ⟨u, eu, ru⟩ := q2.get0 e
        refine ⟨⟨us2, u, hs2, eu⟩, fun x H' y => ?_⟩
        obtain ⟨eh, y⟩ := y
        subst eh
        have z := y us2 hs2
        rw [eu] at z
        cases z
        exact ⟨m3, ar3, am3, ao3, ab3, R4.setI (ru.cons0 (r4.cons0 R4.ri))⟩
      · obtain ⟨m3, ar3, am3, ao3, ab3, R4, r4⟩ := Rel.one (p := { p.nob with ov := ov, ox := ox }) R3
        obtain ⟨a2, us2, e2, hs2, q2⟩ := r4.tup_i
        cases e2
        exact ⟨us2, hs2, Nat.le_of_eq q2.len⟩
    | _ => exact q.elim
/-- range -/
def rngL (lo hi : Int) : List AV := (List.range (hi - lo).toNat).map fun (i : Nat) => AV.int (lo + i)
def rng1 : List AV → Option (List AV)
  | [.int n] => if -(2 ^ 62) ≤ n ∧ n < 2 ^ 62 then some (rngL 0 n) else none
  | _ => none
def iArg (f : List AV → Option (List AV)) (m : M (List AV)) : M (List AV) := fun st => (m st).bind fun xs s1 => ofO (f xs) s1
theorem itr_r {lo : Int} {n : Nat} : ItR K Γ (Itr lo n) p ((List.range n).map fun (i : Nat) => AV.int (lo + i)) := by
  refine ⟨fun i d σ H st ov ox e R => ?_, fun σ H st ov ox R => by rw [List.length_map, List.length_range]; exact Nat.le_refl _⟩
  rw [List.getElem?_map] at e
  by_cases c : i < n
  · rw [List.getElem?_range c] at e
    cases e
    refine ⟨c, fun x H' y => ?_⟩
    obtain ⟨eh, ex⟩ := y
    subst eh ex
    exact R.int _
  · rw [List.getElem?_eq_none (by rw [List.length_range]; omega)] at e
    cases e
theorem s_rng1 {tg a : Expr} {ma : M (List AV)} {q : Pos} (hg : Gl X "range") (hm : X.mg "range" = none) (ha : PA X [a] (rdA X.K Γ W ma)) (hs : starEach [a] X.env = [(false, eval a X.env)] := by rfl) : PI X tg (.Call (.Name "range" q) [a] [] pos) (rdI X.K Γ W (iArg rng1 ma)) := by
  refine pi_imp (pi_range1 hg hm ha hs) fun σ H R h => ?_
  obtain ⟨st, p, R0, h⟩ := h
  refine ⟨st, p, R0, ?_⟩
  unfold iArg at h
  cases ea : ma st with
  | bad => rw [ea] at h; exact h
  | err c s1 => rw [ea] at h; exact h
  | ok xs s1 =>
    rw [ea] at h
    simp only [Res.bind_ok] at h
    intro vs H1 hl R1
    obtain ⟨m, ar, am, ao, ab, R2, r⟩ := Rel.args (p := p.nob) hl R1
    cases e : rng1 xs with
    | none => rw [e] at h; exact h.elim
    | some ds =>
      rw [e] at h
      unfold rng1 at e
      split at e
      · split at e
        · cases e
          rename_i n c
          obtain ⟨v, vs', rfl⟩ : ∃ v vs', vs = v :: vs' := by
            cases vs with
            | nil => cases hl
            | cons v vs' => exact ⟨v, vs', rfl⟩
          have e1 := r.head0.1.int_i
          have e2 := (r.head0.2.nil_inv).1
          subst e1 e2
          refine ⟨n, rfl, c.1, c.2, h _ H1 [] [] rfl R2.rel ?_⟩
          have e3 : n.toNat = (n - 0).toNat := by omega
          unfold rngL
          rw [← e3]
          exact itr_r
        · cases e
      · cases e
/-! ### for -/
def forM (t : Tg) (body : M Fl) : List AV → M Fl
  | [], st => .ok .nx st
  | d :: ds, st => match t d st with
    | none => .bad
    | some s0 => match body s0 with
      | .ok .nx s1 => forM t body ds s1
      | .ok .ct s1 => forM t body ds s1
      | .ok .bk s1 => .ok .nx s1
      | .ok (.rt d) s1 => .ok (.rt d) s1
      | .err c s1 => .err c s1
      | .bad => .bad
def sFor (mi : M (List AV)) (t : Tg) (body : M Fl) : M Fl := fun st => (mi st).bind fun ds s1 => forM t body ds s1
def Pos_ (K : PySem.W.Frag) (Γ : Gam) (W : WX) (D : Ends) (p : Pd) (r : Res Fl Ss) : Prop := match r with
  | .ok .nx st' => ∀ σ' H', Rel K Γ σ' H' st' p → D.nx σ' H'
  | .ok (.rt d) st' => ∀ v σ' H', Rel K Γ σ' H' st' (p.sh v d) → D.rt v H'
  | .ok .bk st' => ∀ σ' H', Rel K Γ σ' H' st' p → D.bk σ' H'
  | .ok .ct st' => ∀ σ' H', Rel K Γ σ' H' st' p → D.ct σ' H'
  | .err c st' => ∀ σ' H', Rel K Γ σ' H' st' p → W (.ref (He.ga K c)) none σ' H'
  | .bad => False
theorem s_for {tg iter : Expr} {body : List Stmt} {mi : M (List AV)} {ns : List Nat} {t : Tg} {mb : M Fl} (hp : PassesOwn (model X.prog X.w) X.A X.env X.xe) (hc : X.calm = true) (hi : PI X tg iter (rdI X.K Γ W mi)) (hg : PG X tg (rdG X.K Γ ns t)) (hb : PSs X body (rdS X.K Γ W mb))
    (hs : ∀ x, foldedSetIterable iter X.env x = pure x := by intro _; rfl) : PS X (.For tg iter body [] pos) (rdS X.K Γ W (sFor mi t mb)) := by
  refine ps_imp (ps_for hp hc hi hg hb hs) fun D σ H h => ?_
  obtain ⟨st, p, R, hp, h⟩ := h
  refine ⟨st, p, R, ?_⟩
  unfold sFor at h
  cases ea : mi st with
  | bad => rw [ea] at h; exact h
  | err c s1 => rw [ea] at h; exact fun H' R' => h σ H' (hp ▸ R')
  | ok ds s1 =>
    rw [ea] at h
    simp only [Res.bind_ok] at h
    have h : Pos_ X.K Γ W D p (forM t mb ds s1) := h
    intro J H1 vs xs hl R1 J1
    rw [hp] at R1 J1
    have hw : ∀ σ H st, Rel X.K Γ σ H st (p.shs vs xs) → Rel X.K Γ σ H st p := fun _ _ _ z => z.dropL hl
    have np : (p.shs vs xs).nob = p.shs vs xs := by
      have e := hp
      have e1 : p.bv = [] := by rw [← hp]
      have e2 : p.bx = [] := by rw [← hp]
      show { p.shs vs xs with bv := [], bx := [] } = p.shs vs xs
      rw [← e1, ← e2]
    refine ⟨fun i n σ H => n = ds.length - i ∧ i ≤ ds.length ∧ ∃ st, Rel X.K Γ σ H st (p.shs vs xs) ∧ Pos_ X.K Γ W D p (forM t mb (ds.drop i) st), ⟨_, rfl, Nat.zero_le _, s1, R1, h⟩, ?_⟩
    rintro i n σ H ⟨rfl, hi, st, R2, h2⟩
    by_cases c : i < ds.length
    · rw [List.drop_eq_getElem_cons c] at h2
      unfold forM at h2
      cases et : t ds[i] st with
      | none => rw [et] at h2; exact h2.elim
      | some s0 =>
        rw [et] at h2
        have h2 : Pos_ X.K Γ W D p (match mb s0 with
          | .ok .nx s1 => forM t mb (ds.drop (i + 1)) s1
          | .ok .ct s1 => forM t mb (ds.drop (i + 1)) s1
          | .ok .bk s1 => .ok .nx s1
          | .ok (.rt d) s1 => .ok (.rt d) s1
          | .err c s1 => .err c s1
          | .bad => .bad) := h2
        obtain ⟨go, yl⟩ := J1.1 i ds[i] σ H st p.ov p.ox (by simp [c]) R2
        refine .inr ⟨go, fun σ' H' => ∃ st, Rel X.K Γ σ' H' st (p.shs vs xs) ∧ Pos_ X.K Γ W D p (forM t mb (ds.drop (i + 1)) st), fun σ' H' ⟨st, R3, h3⟩ => ⟨_, by omega, rfl, c, st, R3, h3⟩, fun x H' y => ?_⟩
        refine ⟨st, p.shs vs xs, ds[i], s0, yl x H' y, et, fun σ2 H2 _ R3 => ⟨s0, p.shs vs xs, R3, np, ?_⟩⟩
        cases em : mb s0 with
        | bad => rw [em] at h2; exact h2
        | err c s2 => rw [em] at h2; exact fun σ3 H3 R4 => h2 σ3 H3 (hw _ _ _ R4)
        | ok f s2 =>
          rw [em] at h2
          cases f with
          | nx => exact fun σ3 H3 R4 => ⟨s2, R4, h2⟩
          | ct => exact fun σ3 H3 R4 => ⟨s2, R4, h2⟩
          | bk => exact fun σ3 H3 R4 => h2 σ3 H3 (hw _ _ _ R4)
          | rt d => exact fun v σ3 H3 R4 => h2 v σ3 H3 (R4.dropL1 hl)
    · have e : i = ds.length := by omega
      subst e
      rw [List.drop_length] at h2
      exact .inl ⟨J1.2 σ H st p.ov p.ox R2, h2 σ H (hw _ _ _ R2)⟩
end
end Fk
/-! ## list comprehensions -/
namespace Fk
open PySem PySem.Spec PyProof.Rows L2
def wipeSl (r : List Sl) : List Nat → List Sl
  | [] => r
  | v :: vs => setSl (wipeSl r vs) v .no
abbrev Ss.wipe (st : Ss) (vs : List Nat) : Ss := ⟨wipeSl st.r vs, st.s⟩
def noX : WX := fun _ _ _ _ => False
def compM (t : Tg) (tt : M Bool) (te : M AV) (vs : List Nat) : List AV → List AV → Ss → Res (List AV) Ss
  | [], acc, st => .ok acc st
  | d :: ds, acc, st => match t d st with
    | none => .bad
    | some s0 => match tt s0 with
      | .ok true s1 => (match te s1 with
        | .ok y s2 => if acc.length < 16777216 then compM t tt te vs ds (acc ++ [y]) (s2.wipe vs) else .bad
        | _ => .bad)
      | .ok false s1 => compM t tt te vs ds acc (s1.wipe vs)
      | _ => .bad
theorem wipe_wipe {σ : L2.St} {vs : List Nat} : L2.wipe (L2.wipe σ vs) vs = L2.wipe σ vs := by
  apply List.ext_getElem?
  intro i
  by_cases c : i ∈ vs
  · have z : ∀ (τ : L2.St) (l : List Nat), i ∈ l → (L2.wipe τ l)[i]? = if i < τ.length then some none else none := fun τ l => by
      induction l with
      | nil => intro z; cases z
      | cons a l ih =>
        intro z
        unfold L2.wipe
        by_cases e : a = i
        · subst e
          by_cases hl : a < τ.length
          · rw [if_pos hl, List.getElem?_set_self (by rw [wipe_length]; exact hl)]
          · rw [if_neg hl, List.getElem?_eq_none (by rw [List.length_set, wipe_length]; omega)]
        · rw [List.getElem?_set_ne e]
          exact ih (by
            rcases List.mem_cons.mp z with z | z
            · exact absurd z.symm e
            · exact z)
    rw [z _ _ c, z _ _ c, wipe_length]
  · rw [wipe_out c]
def tTrue : M Bool := fun st => .ok true st
def lcM (mi : M (List AV)) (t : Tg) (tt : M Bool) (te : M AV) (vs : List Nat) : M (List AV) := fun st => (mi st).bind fun ds s1 => compM t tt te vs ds [] (s1.wipe vs)
def eLc (o : Bool) (m : M (List AV)) : M AV := fun st => (m st).bind fun xs s1 => .ok (.lst o xs) s1
section
variable {K : PySem.W.Frag} {H H' : Hp} {W m : List Addr} {as : List Addr} {σ : L2.St} {r : List Sl}
theorem Rs.wipe1 (q : Rs K H W m σ r as) (i : Nat) : ∃ as', (∀ b ∈ as', b ∈ as) ∧ (as.Nodup → as'.Nodup) ∧ Rs K H W m (σ.set i none) (setSl r i .no) as' := by
  obtain ⟨as', h1, h2, h3⟩ := q.drop i
  refine ⟨as', h1, h2, ?_⟩
  clear h1 h2 q
  induction r generalizing i σ as' with
  | nil =>
    cases h3
    exact .nil
  | cons x r ih => cases i with
    | zero =>
      cases h3 with
      | no q => exact .no q
    | succ i =>
      cases h3 with
      | no q => exact .no (ih _ _ q)
      | im h0 q => exact .im h0 (ih _ _ q)
      | ow h0 q => exact .ow h0 (ih _ _ q)
theorem Rs.wipes (q : Rs K H W m σ r as) : ∀ vs : List Nat, ∃ as', (∀ b ∈ as', b ∈ as) ∧ (as.Nodup → as'.Nodup) ∧ Rs K H W m (L2.wipe σ vs) (wipeSl r vs) as'
  | [] => ⟨as, fun _ z => z, fun z => z, q⟩
  | v :: vs => by
    obtain ⟨a1, h1, h2, h3⟩ := q.wipes vs
    obtain ⟨a2, g1, g2, g3⟩ := h3.wipe1 v
    exact ⟨a2, fun b z => h1 b (g1 b z), fun z => g2 (h2 z), g3⟩
/-- a slot that tells nothing may hold anything -/
theorem Rs.any1 {i : Nat} {o : Option V} (q : Rs K H W m (σ.set i o) (setSl r i .no) as) : Rs K H W m σ (setSl r i .no) as := by
  induction r generalizing i σ as with
  | nil =>
    cases σ with
    | nil => exact q
    | cons a b =>
      have l := q.len
      simp [setSl] at l
  | cons x r ih => cases i with
    | zero =>
      cases σ with
      | nil => exact q
      | cons a b =>
        cases q with
        | no q => exact .no q
    | succ i =>
      cases σ with
      | nil => exact q
      | cons a b =>
        cases q with
        | no q => exact .no (ih q)
        | im h0 q => exact .im h0 (ih q)
        | ow h0 q => exact .ow h0 (ih q)
theorem setSl_comm : ∀ (r : List Sl) (i j : Nat), setSl (setSl r i .no) j .no = setSl (setSl r j .no) i .no
  | [], _, _ => rfl
  | _ :: _, 0, 0 => rfl
  | _ :: _, 0, _ + 1 => rfl
  | _ :: _, _ + 1, 0 => rfl
  | x :: r, i + 1, j + 1 => by simp [setSl_comm r i j]
theorem wipeSl_set : ∀ (vs : List Nat) (r : List Sl) (i : Nat), wipeSl (setSl r i .no) vs = setSl (wipeSl r vs) i .no
  | [], _, _ => rfl
  | v :: vs, r, i => by
    show setSl (wipeSl (setSl r i .no) vs) v .no = setSl (setSl (wipeSl r vs) v .no) i .no
    rw [wipeSl_set vs r i, setSl_comm]
theorem Rs.any : ∀ (vs : List Nat) {σ : L2.St} {r : List Sl} {as : List Addr}, Rs K H W m (L2.wipe σ vs) (wipeSl r vs) as → Rs K H W m σ (wipeSl r vs) as
  | [], _, _, _, q => q
  | v :: vs, σ, r, as, q => by
    have q1 : Rs K H W m (L2.wipe σ vs) (setSl (wipeSl r vs) v .no) as := Rs.any1 (show Rs K H W m ((L2.wipe σ vs).set v none) (setSl (wipeSl r vs) v .no) as from q)
    rw [← wipeSl_set] at q1
    have q2 := Rs.any vs q1
    rw [wipeSl_set] at q2
    exact q2
end
section
variable {X : Cx} {Γ : Gam} {W : WX} {σ : L2.St} {H : Hp} {st : Ss} {p : Pd} {K : PySem.W.Frag} {pos : Pos}
theorem Rel.wipe (R : Rel K Γ σ H st p) (vs : List Nat) : Rel K Γ (L2.wipe σ vs) H (st.wipe vs) p := by
  obtain ⟨m, ar, am, ao, ab, R⟩ := R
  obtain ⟨ar', h1, h2, h3⟩ := R.rs.wipes vs
  have nd := R.nd
  have fr := R.fr
  have t : Tr H H (wOf Γ ar am ao) (wOf Γ ar' am ao) m m [] := Tr.same fun c z => by
    simp only [wOf, List.mem_append] at z ⊢
    grind
  refine ⟨m, ar', am, ao, ab, t.rs h3 (fun _ _ z => nomatch z), t.rp R.rm (fun _ _ z => nomatch z), t.rp0 R.ri, t.rp R.ro (fun _ _ z => nomatch z), t.rp R.rb (fun _ _ z => nomatch z), ?_, ?_, R.kp, R.pm, R.gu, R.tb⟩
  · simp only [wOf, List.nodup_append, List.mem_append] at nd ⊢
    grind
  · intro a ha
    have z := fr a
    simp only [List.mem_append] at z ha
    grind
theorem Rel.unwipe {vs : List Nat} {s0 : Ss} (R : Rel K Γ (L2.wipe σ vs) H (s0.wipe vs) p) : Rel K Γ σ H (s0.wipe vs) p := by
  obtain ⟨m, ar, am, ao, ab, R⟩ := R
  exact ⟨m, ar, am, ao, ab, Rs.any vs R.rs, R.rm, R.ri, R.ro, R.rb, R.nd, R.fr, R.kp, R.pm, R.gu, R.tb⟩
/-- the owned list that is pending gets an item more -/
theorem Rel.appO {D : Addr} {acc : List AV} {y : V} {d : AV} (R : Rel K Γ σ H st ((p.own (.ref D) (.lst true acc)).sh y d)) : ∃ us, H D = some (.lst us) ∧ us.length = acc.length ∧ Rel K Γ σ (upd H D (.lst (us ++ [y]))) st (p.own (.ref D) (.lst true (acc ++ [d]))).nob := by
  obtain ⟨m, ar, am, ao, ab, R⟩ := R
  have ry := R.ri.head0.1
  have ri := R.ri.head0.2
  obtain ⟨b, ao', eo, r1, r2⟩ := R.ro.head
  obtain ⟨_, us, e0, rfl, h, q⟩ := r1.lsO_i
  cases e0
  · subst eo
    have nd := R.nd
    have hD : D ∈ wOf Γ ar am ([D] ++ ao') := by simp [wOf]
    have t : Tr H (upd H D (.lst (us ++ [y]))) (wOf Γ ar am ([D] ++ ao')) (wOf Γ ar am ([D] ++ ao')) m m [D] := Tr.put h rfl hD fun _ z => z
    have n1 : ∀ b ∈ ar, b ∉ [D] := fun b hb z => by
      simp only [wOf, List.nodup_append, List.mem_append, List.mem_singleton] at nd z
      grind
    have n2 : ∀ b ∈ am, b ∉ [D] := fun b hb z => by
      simp only [wOf, List.nodup_append, List.mem_append, List.mem_singleton] at nd z
      grind
    have n3 : ∀ b ∈ ao', b ∉ [D] := fun b hb z => by
      simp only [wOf, List.nodup_append, List.mem_append, List.mem_singleton] at nd z
      grind
    refine ⟨us, h, q.len, m, ar, am, [D] ++ ao', [], t.rs R.rs n1, t.rp R.rm n2, t.rp0 ri, (Rp.lsO upd_same ((t.rp0 q).app (t.rp0 ry)) .nil).cons (t.rp r2 n3), .nil, nd, R.fr, fun a o e n => ?_, R.pm, R.gu, tabs_put R.tb h rfl⟩
    obtain ⟨o', e', f⟩ := R.kp a o e n
    have ne : a ≠ D := by
      rintro rfl
      rcases R.fr a (by simp) with z | z
      · exact n z
      · rw [e] at z; cases z
    exact ⟨o', by rw [upd_ne ne]; exact e', f⟩
/-- what is owned and pending is given up -/
theorem Rel.frzO {v : V} {x d : AV} (R : Rel K Γ σ H st (p.own v x)) (e : Fk.frz x = some d) : Rel K Γ σ H st (p.sh v d) := by
  obtain ⟨m, ar, am, ao, ab, R⟩ := R
  obtain ⟨b, ao', eo, r1, r2⟩ := R.ro.head
  subst eo
  have nd := R.nd
  have fr := R.fr
  have hw : ∀ c, c ∈ wOf Γ ar am ao' → c ∈ wOf Γ ar am (b ++ ao') := fun c z => by
    simp only [wOf, List.mem_append] at z ⊢
    grind
  have t : Tr H H (wOf Γ ar am (b ++ ao')) (wOf Γ ar am ao') m m [] := Tr.same hw
  have rd := r1.frz e hw (fun c z => by
    simp only [wOf, List.nodup_append, List.mem_append] at nd ⊢
    grind)
  refine ⟨m, ar, am, ao', ab, t.rs R.rs (fun _ _ z => nomatch z), t.rp R.rm (fun _ _ z => nomatch z), rd.cons0 (t.rp0 R.ri), t.rp r2 (fun _ _ z => nomatch z), t.rp R.rb (fun _ _ z => nomatch z), ?_, ?_, R.kp, R.pm, R.gu, R.tb⟩
  · simp only [wOf, List.nodup_append, List.mem_append] at nd ⊢
    grind
  · intro a ha
    have z := fr a
    simp only [List.mem_append] at z ha
    grind
theorem pts_imp {es : List Expr} {t t' : TT} (h : PTs X es t) (i : ∀ σ H Q, t' σ H Q → t σ H Q) : PTs X es t' := ⟨fun pins s σ H Q I q => h.run pins s σ H Q I (i σ H Q q)⟩
theorem s_ts0 : PTs X [] (rdT X.K Γ W tTrue) := by
  refine pts_imp pts_nil fun σ H Q h => ?_
  obtain ⟨st, p, R, h⟩ := h
  exact h H R.nob
theorem s_ts1 {c : Expr} {m : M Bool} (h : PT X c (rdT X.K Γ W m)) : PTs X [c] (rdT X.K Γ W m) := pts_one h
/-- the comprehension's reading, the list that comes owned -/
theorem lc_in {mi : M (List AV)} {ns vs : List Nat} {t : Tg} {mt : M Bool} {me : M AV} {Q : VK} (hns : ∀ i ∈ ns, i ∈ vs) (h : rdO K Γ W (eLc true (lcM mi t mt me vs)) σ H Q) : tLc (rdI K Γ W mi) (rdG K Γ ns t) (rdT K Γ noX mt) (rdE K Γ noX me) vs σ H Q := by
  obtain ⟨st, p, R, h⟩ := h
  refine ⟨st, p, R, ?_⟩
  unfold eLc lcM at h
  cases ea : mi st with
  | bad => rw [ea] at h; exact h
  | err c s1 => rw [ea] at h; exact h
  | ok ds s1 =>
    rw [ea] at h
    simp only [Res.bind_ok] at h
    have h : match compM t mt me vs ds [] (s1.wipe vs) with
      | .ok xs st' => ∀ v H', Rel K Γ σ H' st' (p.nob.own v (.lst true xs)) → Q v H'
      | _ => False := by
      cases ec : compM t mt me vs ds [] (s1.wipe vs) with
      | bad => rw [ec] at h; exact h
      | err c s => 
        exfalso
        have noerr : ∀ (ds acc : List AV) (st : Ss) (c : Str) (s : Ss), compM t mt me vs ds acc st ≠ .err c s := fun ds => by
          induction ds with
          | nil => intro acc st c s z; cases z
          | cons d ds ih =>
            intro acc st c s z
            unfold compM at z
            cases e1 : t d st with
            | none => rw [e1] at z; cases z
            | some s0 =>
              rw [e1] at z
              cases e2 : mt s0 with
              | bad => simp only [e2] at z; cases z
              | err _ _ => simp only [e2] at z; cases z
              | ok b s1 =>
                cases b with
                | false => simp only [e2] at z; exact ih _ _ _ _ z
                | true =>
                  simp only [e2] at z
                  cases e3 : me s1 with
                  | bad => simp only [e3] at z; cases z
                  | err _ _ => simp only [e3] at z; cases z
                  | ok y s2 =>
                    simp only [e3] at z
                    split at z
                    · exact ih _ _ _ _ z
                    · cases z
        exact noerr _ _ _ _ _ ec
      | ok xs s => rw [ec] at h; exact h
    intro J H1 pv px hl R1 J1 D hD
    refine ⟨fun i n H => n = ds.length - i ∧ i ≤ ds.length ∧ ∃ (s0 : Ss) (acc : List AV), Rel K Γ (L2.wipe σ vs) H (s0.wipe vs) ((p.nob.shs pv px).own (.ref D) (.lst true acc)) ∧ (match compM t mt me vs (ds.drop i) acc (s0.wipe vs) with
      | .ok xs st' => ∀ v H', Rel K Γ σ H' st' (p.nob.own v (.lst true xs)) → Q v H'
      | _ => False), ⟨_, rfl, Nat.zero_le _, s1, [], ?_, h⟩, ?_⟩
    · obtain ⟨m, ar, am, ao, ab, R2⟩ := R1.wipe vs
      exact R2.newLst hD .nil
    rintro i n H ⟨rfl, hi, s0, acc, R2, h2⟩
    by_cases c : i < ds.length
    · rw [List.drop_eq_getElem_cons c] at h2
      unfold compM at h2
      cases et : t ds[i] (s0.wipe vs) with
      | none => rw [et] at h2; exact h2.elim
      | some s2 =>
        rw [et] at h2
        obtain ⟨go, yl⟩ := J1.1 i ds[i] (L2.wipe σ vs) H (s0.wipe vs) _ _ (by simp [c]) R2
        refine .inr ⟨go, fun H' => ∃ (s0 : Ss) (acc : List AV), Rel K Γ (L2.wipe σ vs) H' (s0.wipe vs) ((p.nob.shs pv px).own (.ref D) (.lst true acc)) ∧ (match compM t mt me vs (ds.drop (i + 1)) acc (s0.wipe vs) with
          | .ok xs st' => ∀ v H', Rel K Γ σ H' st' (p.nob.own v (.lst true xs)) → Q v H'
          | _ => False), fun H' ⟨s3, acc3, R3, h3⟩ => ⟨_, by omega, rfl, c, s3, acc3, R3, h3⟩, fun x H' y => ?_⟩
        refine ⟨_, _, ds[i], s2, yl x H' y, et, fun σ2 H2 w1 R3 => ⟨?_, s2, _, R3, ?_⟩⟩
        · have w2 := wipe_sub w1 hns
          have w3 : L2.wipe (L2.wipe σ vs) vs = L2.wipe σ vs := wipe_wipe
          exact w2.trans w3
        have back : ∀ {H : Hp} {st : Ss} {q : Pd}, Rel K Γ σ2 H st q → Rel K Γ (L2.wipe σ vs) H (st.wipe vs) q := fun z => by
          have z1 := z.wipe vs
          have w2 := wipe_sub w1 hns
          have w3 : L2.wipe (L2.wipe σ vs) vs = L2.wipe σ vs := wipe_wipe
          rw [w2.trans w3] at z1
          exact z1
        cases em : mt s2 with
        | bad => simp only [em] at h2
        | err _ _ => simp only [em] at h2
        | ok b s3 =>
          intro H3 R4
          cases b with
          | false =>
            simp only [em] at h2
            rw [if_neg Bool.false_ne_true]
            exact ⟨s3, acc, back R4, h2⟩
          | true =>
            simp only [em] at h2
            rw [if_pos rfl]
            refine ⟨s3, _, R4, ?_⟩
            cases ee : me s3 with
            | bad => simp only [ee] at h2
            | err _ _ => simp only [ee] at h2
            | ok d s4 =>
              simp only [ee] at h2
              intro y H4 R5
              obtain ⟨us, e1, e2, R6⟩ := Rel.appO (p := p.nob.shs pv px) R5
              by_cases cz : acc.length < 16777216
              · simp only [cz, if_true] at h2
                exact ⟨us, e1, by rw [e2, mx_eq]; exact cz, s4, acc ++ [d], back R6, h2⟩
              · simp only [cz, if_false] at h2
    · have e : i = ds.length := by omega
      subst e
      rw [List.drop_length] at h2
      refine .inl ⟨J1.2 _ H _ _ _ R2, ?_⟩
      have R3 := R2.unwipe
      exact h2 (.ref D) H (Rel.dropL (p := p.nob.own (.ref D) (.lst true acc)) hl R3)
theorem s_lcO {elt tg iter : Expr} {ifs : List Expr} {scope : Scope} {own : List (Str × Nat)} {mi : M (List AV)} {ns : List Nat} {t : Tg} {mt : M Bool} {me : M AV} (hc : X.calm = true) (hN : X.N.Nodup) (hi : PI X tg iter (rdI X.K Γ W mi)) (ok : BlkOk X.N X.env.scope scope own)
    (hg : ∀ (s : Shared) (H : Hp) (C : Addr) (cl : List (Str × Addr)) (fp : List Addr), PG (X.blk s H scope (compEnvC scope cl C X.env) fp) tg (rdG X.K Γ ns t)) (ht : ∀ (s : Shared) (H : Hp) (C : Addr) (cl : List (Str × Addr)) (fp : List Addr), PTs (X.blk s H scope (compEnvC scope cl C X.env) fp) ifs (rdT X.K Γ noX mt))
    (he : ∀ (s : Shared) (H : Hp) (C : Addr) (cl : List (Str × Addr)) (fp : List Addr), PE (X.blk s H scope (compEnvC scope cl C X.env) fp) elt (rdE X.K Γ noX me)) (hns : ∀ i ∈ ns, i ∈ own.map (·.2) := by decide) (hs : ∀ x, foldedSetIterable iter X.env x = pure x := by intro _; rfl) :
    PE X (.ListComp elt [⟨tg, iter, ifs, 0⟩] scope pos) (rdO X.K Γ W (eLc true (lcM mi t mt me (own.map (·.2))))) :=
  pe_imp (pe_lc hc hN hi ok hg ht he hs) fun σ H Q h => lc_in hns h
theorem frz_in {m : M (List AV)} {Q : VK} (h : rdE K Γ W (eLc false m) σ H Q) : rdO K Γ W (eLc true m) σ H Q := by
  obtain ⟨st, p, R, h⟩ := h
  refine ⟨st, p, R, ?_⟩
  unfold eLc at h ⊢
  cases ea : m st with
  | bad => rw [ea] at h; exact h
  | err c s1 => rw [ea] at h; exact h
  | ok xs s1 => rw [ea] at h; exact fun v H' R' => h v H' (R'.frzO rfl)
theorem s_lc {elt tg iter : Expr} {ifs : List Expr} {scope : Scope} {own : List (Str × Nat)} {mi : M (List AV)} {ns : List Nat} {t : Tg} {mt : M Bool} {me : M AV} (hc : X.calm = true) (hN : X.N.Nodup) (hi : PI X tg iter (rdI X.K Γ W mi)) (ok : BlkOk X.N X.env.scope scope own)
    (hg : ∀ (s : Shared) (H : Hp) (C : Addr) (cl : List (Str × Addr)) (fp : List Addr), PG (X.blk s H scope (compEnvC scope cl C X.env) fp) tg (rdG X.K Γ ns t)) (ht : ∀ (s : Shared) (H : Hp) (C : Addr) (cl : List (Str × Addr)) (fp : List Addr), PTs (X.blk s H scope (compEnvC scope cl C X.env) fp) ifs (rdT X.K Γ noX mt))
    (he : ∀ (s : Shared) (H : Hp) (C : Addr) (cl : List (Str × Addr)) (fp : List Addr), PE (X.blk s H scope (compEnvC scope cl C X.env) fp) elt (rdE X.K Γ noX me)) (hns : ∀ i ∈ ns, i ∈ own.map (·.2) := by decide) (hs : ∀ x, foldedSetIterable iter X.env x = pure x := by intro _; rfl) :
    PE X (.ListComp elt [⟨tg, iter, ifs, 0⟩] scope pos) (rdE X.K Γ W (eLc false (lcM mi t mt me (own.map (·.2))))) :=
  pe_imp (s_lcO hc hN hi ok hg ht he hns hs) fun σ H Q h => frz_in h
/-- name = [..] on one line -/
theorem s_asgLc {i : Nat} {y : Str} {py spos : Pos} {elt tg iter : Expr} {ifs : List Expr} {scope : Scope} {own : List (Str × Nat)} {mi : M (List AV)} {ns : List Nat} {t : Tg} {mt : M Bool} {me : M AV} (hc : X.calm = true) (hN : X.N.Nodup) (hy : X.N[i]? = some y) (hyl : X.env.scope.names.lookup y = some .local)
    (hsw : swapsWith (.ListComp elt [⟨tg, iter, ifs, 0⟩] scope pos) (some (.Name y py)) spos.line X.env = pure true) (hi : PI X tg iter (rdI X.K Γ W mi)) (ok : BlkOk X.N X.env.scope scope own)
    (hg : ∀ (s : Shared) (H : Hp) (C : Addr) (cl : List (Str × Addr)) (fp : List Addr), PG (X.blk s H scope (compEnvC scope cl C X.env) fp) tg (rdG X.K Γ ns t)) (ht : ∀ (s : Shared) (H : Hp) (C : Addr) (cl : List (Str × Addr)) (fp : List Addr), PTs (X.blk s H scope (compEnvC scope cl C X.env) fp) ifs (rdT X.K Γ noX mt))
    (he : ∀ (s : Shared) (H : Hp) (C : Addr) (cl : List (Str × Addr)) (fp : List Addr), PE (X.blk s H scope (compEnvC scope cl C X.env) fp) elt (rdE X.K Γ noX me)) (hns : ∀ i ∈ ns, i ∈ own.map (·.2) := by decide) (hs : ∀ x, foldedSetIterable iter X.env x = pure x := by intro _; rfl) :
    PS X (.Assign [.Name y py] (.ListComp elt [⟨tg, iter, ifs, 0⟩] scope pos) spos) (rdS X.K Γ W (sAsg i (eLc false (lcM mi t mt me (own.map (·.2)))))) := by
  refine ps_imp (ps_setLc hc hN hy hyl hsw hi ok hg ht he hs) fun D σ H h => ?_
  obtain ⟨st, p, R, hp, h⟩ := h
  refine lc_in hns (frz_in ⟨st, p, R, ?_⟩)
  unfold sAsg at h
  cases ea : eLc false (lcM mi t mt me (own.map (·.2))) st with
  | bad => rw [ea] at h; exact h
  | err c s1 => rw [ea] at h; exact fun H' R' => h σ H' (hp ▸ R')
  | ok d s1 =>
    rw [ea] at h
    simp only [Res.bind_ok] at h
    exact fun v H' R' => h _ H' (Rel.put (nob_sh hp ▸ R') i)
theorem takes_noX : L2N.Takes X noX := fun u s' x => by
  obtain ⟨_, _, _, _, _, _, _, _, _, _, _, _, _, _, _, _, w⟩ := x
  exact w.elim
end
end Fk
/-! ## built-ins, subscripts, what is looked at alone -/
namespace Fk
open PySem PySem.Spec PyProof.Rows L2
/-- from values (the objects told) a shared one -/
def OpA (K : PySem.W.Frag) (r : List V → Hp → VK → Prop) (f : List AV → List AV → Option AV) : Prop := ∀ (Γ : Gam) (σ : L2.St) (H : Hp) (st : Ss) (p : Pd) (m ar am ao ab : List Addr) (vs : List V) (xs : List AV) (as : List Addr) (d : AV) (Q : VK),
  Rl K Γ σ H st p m ar am ao ab → Rp K H (wOf Γ ar am ao) m vs xs as → f st.s xs = some d → (∀ v H', Rel K Γ σ H' st (p.nob.sh v d) → Q v H') → r vs H Q
/-- .. a new list -/
def OpL (K : PySem.W.Frag) (r : List V → Hp → VK → Prop) (f : List AV → List AV → Option (List AV)) : Prop := ∀ (Γ : Gam) (σ : L2.St) (H : Hp) (st : Ss) (p : Pd) (m ar am ao ab : List Addr) (vs : List V) (xs : List AV) (as : List Addr) (ys : List AV) (Q : VK),
  Rl K Γ σ H st p m ar am ao ab → Rp K H (wOf Γ ar am ao) m vs xs as → f st.s xs = some ys → (∀ q us, H q = none → Rp K H (wOf Γ ar am ao) m us ys [] → Q (.ref q) (upd H q (.lst us))) → r vs H Q
def eB (f : List AV → List AV → Option AV) (a : M (List AV)) : M AV := fun st => (a st).bind fun xs s1 => ofO (f s1.s xs) s1
def fL (o : Bool) (f : List AV → List AV → Option (List AV)) : List AV → List AV → Option AV := fun S xs => (f S xs).map (AV.lst o)
/-- arguments that are looked at alone -/
def rdAP (K : PySem.W.Frag) (Γ : Gam) (m : Ss → Option (List AV)) : TA := fun σ H Q => ∃ st p ds, Rel K Γ σ H st p ∧ m st = some ds ∧ ∀ vs, vs.length = ds.length → Rel K Γ σ H st { p with bv := vs ++ p.bv, bx := ds ++ p.bx } → Q vs H
def eBP (f : List AV → List AV → Option AV) (a : Ss → Option (List AV)) : M AV := fun st => match a st with
  | some xs => ofO (f st.s xs) st
  | none => .bad
def pNil : Ss → Option (List AV) := fun _ => some []
def pCons (a : Ss → Option AV) (r : Ss → Option (List AV)) : Ss → Option (List AV) := fun st => (a st).bind fun x => (r st).map (x :: ·)
def pVar (i : Nat) : Ss → Option AV := fun st => match getSl st.r i with
  | .im d => some d
  | .ow d => some d
  | .no => none
def pC (d : AV) : Ss → Option AV := fun _ => some d
def p2 (f : AV → AV → Option AV) (a b : Ss → Option AV) : Ss → Option AV := fun st => (a st).bind fun x => (b st).bind fun y => f x y
def imm : AV → Bool
  | .lst o _ => !o
  | .dct o _ _ => !o
  | .nst _ => false
  | .ndc _ _ => false
  | .ins _ _ _ => false
  | .set _ => false
  | _ => true
def eP (m : Ss → Option AV) : M AV := fun st => match m st with
  | some d => bif imm d then .ok d st else .bad
  | none => .bad
section
variable {X : Cx} {Γ : Gam} {W : WX} {σ : L2.St} {H : Hp} {st : Ss} {p : Pd} {K : PySem.W.Frag} {pos q : Pos} {e : Expr} {es : List Expr} {ma : M (List AV)} {mp : Ss → Option (List AV)}
theorem Rl.freshL {m ar am ao ab : List Addr} (R : Rl K Γ σ H st p m ar am ao ab) {q : Addr} {us : List V} {ys : List AV} (h : H q = none) (r : Rp K H (wOf Γ ar am ao) m us ys []) (o : Bool) : (o = false → Rel K Γ σ (upd H q (.lst us)) st (p.nob.sh (.ref q) (.lst o ys))) ∧ (o = true → Rel K Γ σ (upd H q (.lst us)) st (p.nob.own (.ref q) (.lst o ys))) :=
  ⟨fun e => by subst e; exact (R.nob.lst h r).rel, fun e => by subst e; exact R.nob.newLst h r⟩
theorem OpL.a {r : List V → Hp → VK → Prop} {f : List AV → List AV → Option (List AV)} (h : OpL K r f) : OpA K r (fL false f) := by
  intro Γ σ H st p m ar am ao ab vs xs as d Q R r1 e q
  obtain ⟨ys, ey, rfl⟩ := Option.map_eq_some_iff.mp e
  exact h Γ σ H st p m ar am ao ab vs xs as ys Q R r1 ey fun a us ha ru => q _ _ ((R.freshL ha ru false).1 rfl)
theorem callB_in {r : List V → Hp → VK → Prop} {f : List AV → List AV → Option AV} {Q : VK} (ho : OpA K r f) (h : rdE K Γ W (eB f ma) σ H Q) : rdA K Γ W ma σ H fun vs H1 => r vs H1 Q := by
  obtain ⟨st, p, R, h⟩ := h
  refine ⟨st, p, R, ?_⟩
  unfold eB at h
  cases ea : ma st with
  | bad => rw [ea] at h; exact h
  | err c s1 => rw [ea] at h; exact h
  | ok xs s1 =>
    rw [ea] at h
    simp only [Res.bind_ok] at h
    intro vs H1 hl R1
    obtain ⟨m, ar, am, ao, ab, R2, r1⟩ := Rel.args (p := p.nob) hl R1
    cases ef : f s1.s xs with
    | none => simp only [ef, ofO_none] at h
    | some d =>
      simp only [ef, ofO_some] at h
      exact ho Γ σ H1 s1 _ m ar am ao ab vs xs _ d Q R2 r1 ef h
theorem callBP_in {r : List V → Hp → VK → Prop} {f : List AV → List AV → Option AV} {Q : VK} (ho : OpA K r f) (h : rdE K Γ W (eBP f mp) σ H Q) : rdAP K Γ mp σ H fun vs H1 => r vs H1 Q := by
  obtain ⟨st, p, R, h⟩ := h
  unfold eBP at h
  cases ea : mp st with
  | none => simp only [ea] at h
  | some xs =>
    simp only [ea] at h
    cases ef : f st.s xs with
    | none => simp only [ef, ofO_none] at h
    | some d =>
      simp only [ef, ofO_some] at h
      refine ⟨st, p, xs, R, ea, fun vs hl R1 => ?_⟩
      obtain ⟨m, ar, am, ao, ab, R1⟩ := R1
      obtain ⟨a1, a2, _, r1, r2⟩ := Rp.app_inv hl R1.rb
      exact ho Γ σ H st p m ar am ao a2 vs xs _ d Q (R1.setB (p := { p with bv := vs ++ p.bv, bx := xs ++ p.bx }) r2) r1 ef h
theorem callOP_in {r : List V → Hp → VK → Prop} {f : List AV → List AV → Option (List AV)} {Q : VK} (ho : OpL K r f) (h : rdO K Γ W (eBP (fL true f) mp) σ H Q) : rdAP K Γ mp σ H fun vs H1 => r vs H1 Q := by
  obtain ⟨st, p, R, h⟩ := h
  unfold eBP at h
  cases ea : mp st with
  | none => simp only [ea] at h
  | some xs =>
    simp only [ea, fL] at h
    cases ef : f st.s xs with
    | none => simp only [ef, Option.map_none, ofO_none] at h
    | some ys =>
      simp only [ef, Option.map_some, ofO_some] at h
      refine ⟨st, p, xs, R, ea, fun vs hl R1 => ?_⟩
      obtain ⟨m, ar, am, ao, ab, R1⟩ := R1
      obtain ⟨a1, a2, _, r1, r2⟩ := Rp.app_inv hl R1.rb
      have R2 := R1.setB (p := { p with bv := vs ++ p.bv, bx := xs ++ p.bx }) r2
      exact ho Γ σ H st p m ar am ao a2 vs xs _ ys Q R2 r1 ef fun a us ha ru => h _ _ ((R2.freshL ha ru true).2 rfl)
/-! calls by name -/
variable {id : String} {x : Str} {r : List V → Hp → VK → Prop} {f : List AV → List AV → Option AV} {fl : List AV → List AV → Option (List AV)} {T : String}
theorem s_cb (hc : CallR X (.builtin id) r) (ho : OpA X.K r f) (hg : Gl X x) (hm : X.mg x = none) (hv : bootBuiltins x = some (.builtin id)) (ha : PA X (e :: es) (rdA X.K Γ W ma)) (hn : x ≠ "__name__" := by decide) (hdb : (x == ("__debug__" : Str)) = false := by decide)
    (he : starEach (e :: es) X.env = (false, eval e X.env) :: starEach es X.env := by rfl) (hpl : (backTo pos (starEach es X.env)).any (·.1) = false := by rfl) : PE X (.Call (.Name x q) (e :: es) [] pos) (rdE X.K Γ W (eB f ma)) :=
  pe_imp (pe_callB hc hg hm hv ha hn hdb he hpl) fun σ H Q h => callB_in ho h
theorem s_cbP (hc : CallR X (.builtin id) r) (ho : OpA X.K r f) (hg : Gl X x) (hm : X.mg x = none) (hv : bootBuiltins x = some (.builtin id)) (ha : PA X (e :: es) (rdAP X.K Γ mp)) (hn : x ≠ "__name__" := by decide) (hdb : (x == ("__debug__" : Str)) = false := by decide)
    (he : starEach (e :: es) X.env = (false, eval e X.env) :: starEach es X.env := by rfl) (hpl : (backTo pos (starEach es X.env)).any (·.1) = false := by rfl) : PE X (.Call (.Name x q) (e :: es) [] pos) (rdE X.K Γ W (eBP f mp)) :=
  pe_imp (pe_callB hc hg hm hv ha hn hdb he hpl) fun σ H Q h => callBP_in ho h
theorem s_cbOP (hc : CallR X (.builtin id) r) (ho : OpL X.K r fl) (hg : Gl X x) (hm : X.mg x = none) (hv : bootBuiltins x = some (.builtin id)) (ha : PA X (e :: es) (rdAP X.K Γ mp)) (hn : x ≠ "__name__" := by decide) (hdb : (x == ("__debug__" : Str)) = false := by decide)
    (he : starEach (e :: es) X.env = (false, eval e X.env) :: starEach es X.env := by rfl) (hpl : (backTo pos (starEach es X.env)).any (·.1) = false := by rfl) : PE X (.Call (.Name x q) (e :: es) [] pos) (rdO X.K Γ W (eBP (fL true fl) mp)) :=
  pe_imp (pe_callB hc hg hm hv ha hn hdb he hpl) fun σ H Q h => callOP_in ho h
theorem s_ct (hc : CallR X (.type T) r) (ho : OpA X.K r f) (hg : Gl X x) (hm : X.mg x = none) (hv : bootBuiltins x = some (.type T)) (ha : PA X (e :: es) (rdA X.K Γ W ma)) (hn : x ≠ "__name__" := by decide) (hdb : (x == ("__debug__" : Str)) = false := by decide)
    (he : starEach (e :: es) X.env = (false, eval e X.env) :: starEach es X.env := by rfl) (hpl : (backTo pos (starEach es X.env)).any (·.1) = false := by rfl) : PE X (.Call (.Name x q) (e :: es) [] pos) (rdE X.K Γ W (eB f ma)) :=
  pe_imp (pe_callTy hc hg hm hv ha hn hdb he hpl) fun σ H Q h => callB_in ho h
theorem s_ctP (hc : CallR X (.type T) r) (ho : OpA X.K r f) (hg : Gl X x) (hm : X.mg x = none) (hv : bootBuiltins x = some (.type T)) (ha : PA X (e :: es) (rdAP X.K Γ mp)) (hn : x ≠ "__name__" := by decide) (hdb : (x == ("__debug__" : Str)) = false := by decide)
    (he : starEach (e :: es) X.env = (false, eval e X.env) :: starEach es X.env := by rfl) (hpl : (backTo pos (starEach es X.env)).any (·.1) = false := by rfl) : PE X (.Call (.Name x q) (e :: es) [] pos) (rdE X.K Γ W (eBP f mp)) :=
  pe_imp (pe_callTy hc hg hm hv ha hn hdb he hpl) fun σ H Q h => callBP_in ho h
/-! looked at alone -/
theorem Rel.lkC {v : V} {d : AV} (R : Rel K Γ σ H st p) (h : ∀ W m, Rp K H W m [v] [d] []) : Rel K Γ σ H st (p.lk v d) := by
  obtain ⟨m, ar, am, ao, ab, R⟩ := R
  exact ⟨m, ar, am, ao, ab, R.setB ((h _ _).cons0 R.rb)⟩
theorem q_var {i : Nat} (hN : X.N[i]? = some x) (hv : Vis X.env.scope x) (hd : (x == ("__debug__" : Str)) = false := by decide) (hcd : (x == ("__classdict__" : Str)) = false := by decide) : PE X (.Name x pos) (rdP X.K Γ (pVar i)) := by
  refine pe_imp (pe_var hN hv hd hcd) fun σ H Q h => ?_
  obtain ⟨st, p, d, R, e, h⟩ := h
  obtain ⟨m, ar, am, ao, ab, R⟩ := R
  unfold pVar at e
  cases eg : getSl st.r i with
  | no => rw [eg] at e; cases e
  | im d' =>
    rw [eg] at e
    cases e
    obtain ⟨v, ev, rv⟩ := R.rs.getIm eg
    exact ⟨v, ev, h v ⟨m, ar, am, ao, ab, R.setB (rv.cons0 R.rb)⟩⟩
  | ow d' =>
    rw [eg] at e
    cases e
    obtain ⟨v, a1, b, a2, ev, _, rv, _⟩ := R.rs.getOw eg
    exact ⟨v, ev, h v ⟨m, ar, am, ao, b ++ ab, R.setB (rv.cons R.rb)⟩⟩
theorem q_int {i : Int} {j : Nat} : PE X (.Constant (.int i) j pos) (rdP X.K Γ (pC (.int i))) := by
  refine pe_imp pe_int fun σ H Q h => ?_
  obtain ⟨st, p, d, R, e, h⟩ := h
  cases e
  exact h _ (R.lkC fun _ _ => .int .nil)
theorem q_str {i : Str} {j : Nat} : PE X (.Constant (.str i) j pos) (rdP X.K Γ (pC (.str i))) := by
  refine pe_imp pe_str fun σ H Q h => ?_
  obtain ⟨st, p, d, R, e, h⟩ := h
  cases e
  exact h _ (R.lkC fun _ _ => .str .nil)
theorem q_non {j : Nat} : PE X (.Constant .none j pos) (rdP X.K Γ (pC .non)) := by
  refine pe_imp pe_non fun σ H Q h => ?_
  obtain ⟨st, p, d, R, e, h⟩ := h
  cases e
  exact h _ (R.lkC fun _ _ => .non .nil)
theorem q_bl {i : Bool} {j : Nat} : PE X (.Constant (.bool i) j pos) (rdP X.K Γ (pC (.bl i))) := by
  refine pe_imp pe_bl fun σ H Q h => ?_
  obtain ⟨st, p, d, R, e, h⟩ := h
  cases e
  exact h _ (R.lkC fun _ _ => .bl .nil)
theorem imm_nil {v : V} {d : AV} {W m as : List Addr} (r : Rp K H W m [v] [d] as) (h : imm d = true) : as = [] := by
  cases r with
  | ded r => exact r.nil_inv.2
  | non r => exact r.nil_inv.2
  | bl r => exact r.nil_inv.2
  | int r => exact r.nil_inv.2
  | str r => exact r.nil_inv.2
  | tup _ _ r => exact r.nil_inv.2
  | lsI _ _ _ r => exact r.nil_inv.2
  | lsO _ _ r => cases h
  | dcI _ _ _ _ r => exact r.nil_inv.2
  | dcO _ _ _ r => cases h
  | scr _ _ r => exact r.nil_inv.2
  | nst _ _ r => cases h
  | ndc _ _ _ r => cases h
  | ins _ _ _ r => cases h
  | set _ _ _ => cases h
  | tud _ _ _ r => exact r.nil_inv.2
  | loc _ r => exact r.nil_inv.2
theorem s_ofP {m : Ss → Option AV} (h : PE X e (rdP X.K Γ m)) : PE X e (rdE X.K Γ W (eP m)) := by
  refine pe_imp h fun σ H Q h => ?_
  obtain ⟨st, p, R, h⟩ := h
  unfold eP at h
  cases em : m st with
  | none => simp only [em] at h
  | some d =>
    simp only [em] at h
    refine ⟨st, p, d, R, em, fun v R1 => ?_⟩
    cases ei : imm d with
    | false => simp only [ei, cond_false] at h
    | true =>
      simp only [ei, cond_true] at h
      obtain ⟨m, ar, am, ao, ab, R1⟩ := R1
      obtain ⟨a1, a2, _, r1, r2⟩ := R1.rb.head
      rw [imm_nil r1 ei] at r1
      exact h v H ⟨m, ar, am, ao, [], (R1.setB (p := p.lk v d) .nil).setI (r1.cons0 R1.ri)⟩
theorem q_nil : PA X [] (rdAP X.K Γ pNil) := by
  refine pa_imp pa_nil fun σ H Q h => ?_
  obtain ⟨st, p, ds, R, e, h⟩ := h
  cases e
  exact h [] rfl R
theorem q_cons {m : Ss → Option AV} {mr : Ss → Option (List AV)} (ha : PE X e (rdP X.K Γ m)) (hr : PA X es (rdAP X.K Γ mr)) (hs : starEach (e :: es) X.env = (false, eval e X.env) :: starEach es X.env := by rfl) : PA X (e :: es) (rdAP X.K Γ (pCons m mr)) := by
  refine pa_imp (pa_cons ha hr hs) fun σ H Q h => ?_
  obtain ⟨st, p, ds, R, e, h⟩ := h
  unfold pCons at e
  cases em : m st with
  | none => rw [em] at e; cases e
  | some d =>
    rw [em] at e
    obtain ⟨xs, er, rfl⟩ := Option.map_eq_some_iff.mp e
    refine ⟨st, p, d, R, em, fun v R1 => ⟨st, _, xs, R1, er, fun vs hl R2 => h (v :: vs) (by simp [hl]) ?_⟩⟩
    obtain ⟨m, ar, am, ao, ab, R2⟩ := R2
    obtain ⟨a1, a2, _, r1, r2⟩ := Rp.app_inv hl R2.rb
    obtain ⟨b1, b2, _, r3, r4⟩ := r2.head
    exact ⟨m, ar, am, ao, _, R2.setB (p := { p.lk v d with bv := vs ++ v :: p.bv, bx := xs ++ d :: p.bx }) (r3.cons (r1.app r4))⟩
/-- two that are looked at, an operator -/
theorem p2_in {r : R2} {f : AV → AV → Option AV} {a b : Ss → Option AV} {Q : VK} (ho : Op2 K r f) (h : rdE K Γ W (fun st => match p2 f a b st with | some d => .ok d st | none => .bad) σ H Q) : tOp r (rdP K Γ a) (rdP K Γ b) σ H Q := by
  obtain ⟨st, p, R, h⟩ := h
  unfold p2 at h
  cases ea : a st with
  | none => simp only [ea, Option.bind_none] at h
  | some x =>
    cases eb : b st with
    | none => simp only [ea, eb, Option.bind_some, Option.bind_none] at h
    | some y =>
      simp only [ea, eb, Option.bind_some] at h
      cases ef : f x y with
      | none => simp only [ef] at h
      | some d =>
        simp only [ef] at h
        refine ⟨st, p, x, R, ea, fun v1 R1 => ⟨st, _, y, R1, eb, fun v2 R2 => ?_⟩⟩
        obtain ⟨m, ar, am, ao, ab, R2⟩ := R2
        obtain ⟨c1, c2, _, r1, r2⟩ := R2.rb.head
        obtain ⟨c3, c4, _, r3, r4⟩ := r2.head
        exact ho Γ σ H st p m ar am ao _ v1 v2 x y d _ _ Q (R2.setB (p := (p.lk v1 x).lk v2 y) r4) r3 r1 ef h
def e2P (f : AV → AV → Option AV) (a b : Ss → Option AV) : M AV := fun st => match p2 f a b st with
  | some d => .ok d st
  | none => .bad
theorem s_cmpP {a b : Expr} {op : CmpOp} {r : R2} {f : AV → AV → Option AV} {ma mb : Ss → Option AV} (hr : OpR X (compareOp op) r) (ho : Op2 X.K r f) (ha : PE X a (rdP X.K Γ ma)) (hb : PE X b (rdP X.K Γ mb)) (hm : behindInMarks op b = false) : PE X (.Compare a [op] [b] pos) (rdE X.K Γ W (e2P f ma mb)) :=
  pe_imp (pe_cmpR hr ha hb hm) fun σ H Q h => p2_in ho h
theorem s_tcmpP {a b : Expr} {op : CmpOp} {r : R2} {f : AV → AV → Option AV} {ma mb : Ss → Option AV} (hr : OpR X (compareOp op) r) (ho : Op2 X.K r f) (ha : PE X a (rdP X.K Γ ma)) (hb : PE X b (rdP X.K Γ mb)) (hm : behindInMarks op b = false) : PT X (.Compare a [op] [b] pos) (rdT X.K Γ W (tOf (e2P f ma mb))) := by
  refine pt_imp (pt_cmpR hr ha hb hm) fun σ H Q h => ?_
  obtain ⟨st, p, R, h⟩ := tOf_in h
  exact p2_in ho ⟨st, p, R, h⟩
end
end Fk
/-! ## what the built-ins are worth -/
namespace Fk
open PySem PySem.Spec PyProof.Rows L2
theorem CallR.or {X : Cx} {f : Value} {r r' : List V → Hp → VK → Prop} (h : CallR X f r) (h' : CallR X f r') : CallR X f (fun xs H Q => r xs H Q ∨ r' xs H Q) := by
  intro pins s σ H xs us Q I rv q
  rcases q with q | q
  · exact h pins s σ H xs us Q I rv q
  · exact h' pins s σ H xs us Q I rv q
/-- an object looked up -/
def deref (S : List AV) : AV → Option AV
  | .loc l => S[l]?
  | x => some x
def lenA : AV → Option Nat
  | .lst _ xs => some xs.length
  | .tup xs => some xs.length
  | .scr xs => some xs.length
  | .nst xs => some xs.length
  | .str z => if z.length ≤ 16777216 then some z.length else none
  | .dct _ ks _ => some ks.length
  | .ndc ks _ => some ks.length
  | _ => none
def fLen (S : List AV) : List AV → Option AV
  | [x] => ((deref S x).bind lenA).map fun n => .int (n : Nat)
  | _ => none
def fInt (_ : List AV) : List AV → Option AV
  | [.int i] => some (.int i)
  | [.bl b] => some (.int (if b then 1 else 0))
  | _ => none
def fMax2 (_ : List AV) : List AV → Option AV
  | [.int i, .int j] => some (.int (if j > i then j else i))
  | _ => none
def fMin2 (_ : List AV) : List AV → Option AV
  | [.int i, .int j] => some (.int (if j < i then j else i))
  | _ => none
def asBs : List AV → Option (List Bool)
  | [] => some []
  | .bl b :: xs => (asBs xs).map (b :: ·)
  | _ :: _ => none
def asIs : List AV → Option (List Int)
  | [] => some []
  | .int b :: xs => (asIs xs).map (b :: ·)
  | _ :: _ => none
def lsOf : AV → Option (List AV)
  | .lst _ xs => some xs
  | _ => none
def fAll (_ : List AV) : List AV → Option AV
  | [x] => ((lsOf x).bind asBs).map fun bs => .bl (bs.all id)
  | _ => none
def fTup (S : List AV) : List AV → Option AV
  | [.lst _ xs] => some (.tup xs)
  | [.tup xs] => some (.tup xs)
  | [.loc l] => (match S[l]? with
    | some (.lst _ xs) => some (.tup xs)
    | _ => none)
  | _ => none
/-- ints in order -/
def insI (x : Int) : List Int → List Int
  | [] => [x]
  | y :: ys => if x ≤ y then x :: y :: ys else y :: insI x ys
def srtI : List Int → List Int
  | [] => []
  | x :: xs => insI x (srtI xs)
def keysI : List Key → Option (List Int)
  | [] => some []
  | .inl i :: ks => (keysI ks).map (i :: ·)
  | .inr _ :: _ => none
def fSrt (_ : List AV) : List AV → Option (List AV)
  | [.lst _ xs] => (asIs xs).map fun ns => (srtI ns).map .int
  | [.dct _ ks _] => (keysI ks).bind fun ns => if ns.length < 64 then some ((srtI ns).map .int) else none
  | _ => none
def isMt : AV → Bool
  | .dct _ ks xs => ks.isEmpty && xs.isEmpty
  | _ => false
/-- {k: v} of ints -/
def isD1 : AV → Option (Int × Int)
  | .dct _ [.inl k] [.int v] => some (k, v)
  | _ => none
def rpD1 (p : Int × Int) : PyData := .dict [(.int p.1, .int p.2)]
def fRepr (_ : List AV) : List AV → Option AV
  | [x] => if isMt x then some (.str "{}") else if pl x && (dat x).showable && decide ((dat x).depth ≤ 60) && !(dat x).hasDict && decide ((dat x).shown.length ≤ 16777216) then some (.str (dat x).shown) else (isD1 x).bind fun p => if (rpD1 p).showable && decide ((rpD1 p).shown.length ≤ 16777216) then some (.str (rpD1 p).shown) else none
  | _ => none
def isT (n : String) : AV → Bool
  | .bl _ => n == "bool" || n == "int"
  | .int _ => n == "int"
  | .str _ => n == "str"
  | .tup _ => n == "tuple"
  | .lst _ _ => n == "list"
  | .dct _ _ _ => n == "dict"
  | _ => false
def okT : AV → Bool
  | .non => true
  | .bl _ => true
  | .int _ => true
  | .str _ => true
  | .tup _ => true
  | .lst _ _ => true
  | .dct _ _ _ => true
  | _ => false
def eIsi (n : String) (m : M AV) : M AV := fun st => (m st).bind fun x s1 => bif okT x then .ok (.bl (isT n x)) s1 else .bad
section
variable {K : PySem.W.Frag} {H : Hp} {W m as : List Addr} {v : V} {vs : List V} {xs : List AV} {x : AV} {Γ : Gam} {σ : L2.St} {st : Ss} {p : Pd} {ar am ao ab : List Addr}
theorem Rp.one (r : Rp K H W m vs [x] as) : ∃ v, vs = [v] ∧ Rp K H W m [v] [x] as := by
  cases vs with
  | nil => cases r.nil_inv'.1
  | cons v vs =>
    obtain ⟨a1, a2, e, r1, r2⟩ := r.head
    obtain ⟨rfl, rfl⟩ := r2.nil_inv
    rw [List.append_nil] at e
    subst e
    exact ⟨v, rfl, r1⟩
theorem Rp.twoL {y : AV} (r : Rp K H W m vs [x, y] as) : ∃ v w' a1 a2, vs = [v, w'] ∧ Rp K H W m [v] [x] a1 ∧ Rp K H W m [w'] [y] a2 := by
  cases vs with
  | nil => cases r.nil_inv'.1
  | cons v vs =>
    obtain ⟨a1, a2, e, r1, r2⟩ := r.head
    obtain ⟨w', rfl, r3⟩ := r2.one
    exact ⟨v, w', a1, a2, rfl, r1, r3⟩
theorem Rl.deref (R : Rl K Γ σ H st p m ar am ao ab) {z : AV} (r : Rp K H (wOf Γ ar am ao) m [v] [x] as) (e : Fk.deref st.s x = some z) : ∃ as', Rp K H (wOf Γ ar am ao) m [v] [z] as' := by
  cases x with
  | loc l =>
    obtain ⟨a, rfl, hm⟩ := r.loc_i
    obtain ⟨v', a1, b, a2, e1, e2, _, r2, _⟩ := R.rm.at_ e
    rw [List.getElem?_map, hm] at e1
    cases e1
    exact ⟨b, r2⟩
  | _ =>
    cases e
    exact ⟨as, r⟩
/-- what stands behind a list's, a tuple's .. value -/
theorem Rp.sq {n : Nat} (r : Rp K H W m [v] [x] as) (e : lenA x = some n) : LenV K v H n ∨ ∃ a kvs, v = .ref a ∧ H a = some (.dK kvs) ∧ n = kvs.length := by
  cases r with
  | @str z _ _ _ _ =>
    have e2 : (if z.length ≤ 16777216 then some z.length else none) = some n := e
    by_cases c : z.length ≤ 16777216
    · rw [if_pos c] at e2
      cases e2
      exact .inl ⟨by rw [mx_eq]; exact c, rfl⟩
    · rw [if_neg c] at e2
      cases e2
  | tup h q _ => cases e; exact .inl (.inr ⟨_, h, q.len.symm⟩)
  | lsI h _ q _ => cases e; exact .inl (.inl ⟨_, SqL.of h, q.len.symm⟩)
  | lsO h q _ => cases e; exact .inl (.inl ⟨_, SqL.of h, q.len.symm⟩)
  | nst h q _ => cases e; exact .inl (.inl ⟨_, SqL.of h, q.len.symm⟩)
  | scr h q _ => cases e; exact .inl (.inl ⟨_, h.sq, q.len.symm⟩)
  | dcI h _ ek q _ => cases e; exact .inr ⟨_, _, rfl, h, by rw [← ek]; simp⟩
  | dcO h ek q _ => cases e; exact .inr ⟨_, _, rfl, h, by rw [← ek]; simp⟩
  | ndc h ek q _ => cases e; exact .inr ⟨_, _, rfl, h, by rw [← ek]; simp⟩
  | _ => cases e
def uLen (K : PySem.W.Frag) : List V → Hp → VK → Prop := fun xs H Q => (∃ x n, xs = [x] ∧ LenV K x H n ∧ Q (.int n) H) ∨ ∃ d kvs, xs = [.ref d] ∧ H d = some (.dK kvs) ∧ Q (.int kvs.length) H
theorem o_len : OpA K (uLen K) fLen := by
  intro Γ σ H st p m ar am ao ab vs xs as d Q R r e h
  unfold fLen at e
  split at e
  · obtain ⟨v, rfl, r1⟩ := r.one
    obtain ⟨n, en, rfl⟩ := Option.map_eq_some_iff.mp e
    obtain ⟨z, ez, el⟩ := Option.bind_eq_some_iff.mp en
    obtain ⟨as', r2⟩ := R.deref r1 ez
    rcases r2.sq el with q | ⟨a, kvs, rfl, q1, rfl⟩
    · exact .inl ⟨v, n, rfl, q, h _ _ (R.nob.rel.int _)⟩
    · exact .inr ⟨a, kvs, rfl, q1, h _ _ (R.nob.rel.int _)⟩
  · cases e
theorem o_int : OpA K uInt fInt := by
  intro Γ σ H st p m ar am ao ab vs xs as d Q R r e h
  unfold fInt at e
  split at e
  · cases e
    obtain ⟨v, rfl, r1⟩ := r.one
    obtain rfl := r1.int_i
    exact .inl ⟨_, rfl, h _ _ (R.nob.rel.int _)⟩
  · cases e
    obtain ⟨v, rfl, r1⟩ := r.one
    obtain rfl := r1.bl_i
    exact .inr ⟨_, rfl, h _ _ (R.nob.rel.int _)⟩
  · cases e
theorem o_max2 : OpA K uMax2 fMax2 := by
  intro Γ σ H st p m ar am ao ab vs xs as d Q R r e h
  unfold fMax2 at e
  split at e
  · cases e
    obtain ⟨v, w', a1, a2, rfl, r1, r2⟩ := r.twoL
    obtain rfl := r1.int_i
    obtain rfl := r2.int_i
    exact ⟨_, _, rfl, h _ _ (R.nob.rel.int _)⟩
  · cases e
theorem o_min2 : OpA K uMin2 fMin2 := by
  intro Γ σ H st p m ar am ao ab vs xs as d Q R r e h
  unfold fMin2 at e
  split at e
  · cases e
    obtain ⟨v, w', a1, a2, rfl, r1, r2⟩ := r.twoL
    obtain rfl := r1.int_i
    obtain rfl := r2.int_i
    exact ⟨_, _, rfl, h _ _ (R.nob.rel.int _)⟩
  · cases e
theorem asBs_v : ∀ {xs : List AV} {bs : List Bool} {us : List V} {as : List Addr}, Rp K H W m us xs as → asBs xs = some bs → us = bs.map V.bl
  | [], bs, us, as, r, e => by cases e; exact r.nil_inv.1
  | x :: xs, bs, us, as, r, e => by
    cases x with
    | bl b =>
      obtain ⟨cs, ec, rfl⟩ := Option.map_eq_some_iff.mp (show (asBs xs).map (b :: ·) = some bs from e)
      cases us with
      | nil => cases r.nil_inv'.1
      | cons u us =>
        obtain ⟨a1, a2, _, r1, r2⟩ := r.head
        rw [r1.bl_i, asBs_v r2 ec]
        rfl
    | _ => cases e
theorem asIs_v : ∀ {xs : List AV} {bs : List Int} {us : List V} {as : List Addr}, Rp K H W m us xs as → asIs xs = some bs → us = bs.map V.int
  | [], bs, us, as, r, e => by cases e; exact r.nil_inv.1
  | x :: xs, bs, us, as, r, e => by
    cases x with
    | int b =>
      obtain ⟨cs, ec, rfl⟩ := Option.map_eq_some_iff.mp (show (asIs xs).map (b :: ·) = some bs from e)
      cases us with
      | nil => cases r.nil_inv'.1
      | cons u us =>
        obtain ⟨a1, a2, _, r1, r2⟩ := r.head
        rw [r1.int_i, asIs_v r2 ec]
        rfl
    | _ => cases e
theorem lsOf_v {ys : List AV} (r : Rp K H W m [v] [x] as) (e : lsOf x = some ys) : ∃ a us, v = .ref a ∧ H a = some (.lst us) ∧ Rp K H W m us ys [] := by
  cases x with
  | lst o xs => cases e; exact r.lst_i
  | _ => cases e
theorem o_all : OpA K (rAll K) fAll := by
  intro Γ σ H st p m ar am ao ab vs xs as d Q R r e h
  unfold fAll at e
  split at e
  · obtain ⟨v, rfl, r1⟩ := r.one
    obtain ⟨bs, en, rfl⟩ := Option.map_eq_some_iff.mp e
    obtain ⟨z, ez, el⟩ := Option.bind_eq_some_iff.mp en
    obtain ⟨a, us, rfl, hs, q⟩ := lsOf_v r1 ez
    have eu := asBs_v q el
    subst eu
    exact ⟨a, bs, rfl, SqL.of hs, h _ _ (R.nob.rel.bl _)⟩
  · cases e
theorem o_tuple : OpA K (uTuple K) fTup := by
  intro Γ σ H st p m ar am ao ab vs xs as d Q R r e h
  unfold fTup at e
  split at e
  · cases e
    obtain ⟨v, rfl, r1⟩ := r.one
    obtain ⟨a, us, rfl, hs, q⟩ := r1.lst_i
    exact ⟨a, us, rfl, .inl ⟨SqL.of hs, fun l hl => h _ _ (R.nob.tup hl q).rel⟩⟩
  · cases e
    obtain ⟨v, rfl, r1⟩ := r.one
    obtain ⟨a, us, rfl, hs, q⟩ := r1.tup_i
    exact ⟨a, us, rfl, .inr ⟨hs, h _ _ (R.nob.sh (.tup hs q .nil))⟩⟩
  · rename_i l
    obtain ⟨v, rfl, r1⟩ := r.one
    split at e
    · rename_i o ys ez
      cases e
      obtain ⟨as', r2⟩ := R.deref r1 (z := .lst o ys) ez
      obtain ⟨a, us, rfl, hs, q⟩ := r2.lst_i
      exact ⟨a, us, rfl, .inl ⟨SqL.of hs, fun l hl => h _ _ (R.nob.tup hl q).rel⟩⟩
    · cases e
  · cases e
theorem insI_perm (x : Int) : ∀ ys : List Int, (insI x ys).Perm (x :: ys)
  | [] => List.Perm.refl _
  | y :: ys => by
    unfold insI
    split
    · exact List.Perm.refl _
    · exact (List.Perm.cons y (insI_perm x ys)).trans (List.Perm.swap x y ys)
theorem srtI_perm : ∀ xs : List Int, (srtI xs).Perm xs
  | [] => List.Perm.refl _
  | x :: xs => (insI_perm x (srtI xs)).trans (List.Perm.cons x (srtI_perm xs))
theorem insI_srt (x : Int) : ∀ {ys : List Int}, ys.Pairwise (· ≤ ·) → (insI x ys).Pairwise (· ≤ ·)
  | [], _ => by simp [insI]
  | y :: ys, h => by
    unfold insI
    obtain ⟨h1, h2⟩ := List.pairwise_cons.mp h
    split
    · rename_i c
      refine List.pairwise_cons.mpr ⟨fun z hz => ?_, h⟩
      rcases List.mem_cons.mp hz with e | hz
      · omega
      · have := h1 z hz
        omega
    · rename_i c
      refine List.pairwise_cons.mpr ⟨fun z hz => ?_, insI_srt x h2⟩
      rcases List.mem_cons.mp ((insI_perm x ys).mem_iff.mp hz) with e | hz
      · omega
      · exact h1 z hz
theorem srtI_srt : ∀ xs : List Int, (srtI xs).Pairwise (· ≤ ·)
  | [] => List.Pairwise.nil
  | x :: xs => insI_srt x (srtI_srt xs)
theorem srt_uniq : ∀ {xs ys : List Int}, xs.Perm ys → xs.Pairwise (· ≤ ·) → ys.Pairwise (· ≤ ·) → xs = ys := fun p h1 h2 =>
  List.Perm.eq_of_pairwise (le := (· ≤ ·)) (fun a b _ _ h h' => by omega) h1 h2 p
theorem rp_ints : ∀ ns : List Int, Rp K H W m (ns.map V.int) (ns.map AV.int) []
  | [] => .nil
  | n :: ns => .int (rp_ints ns)
theorem keysI_v : ∀ {ks : List Key} {ns : List Int}, keysI ks = some ns → ks = ns.map Sum.inl
  | [], ns, e => by cases e; rfl
  | .inl i :: ks, ns, e => by
    obtain ⟨cs, ec, rfl⟩ := Option.map_eq_some_iff.mp (show (keysI ks).map (i :: ·) = some ns from e)
    rw [keysI_v ec]
    rfl
  | .inr _ :: _, ns, e => by cases e
def uSrt (K : PySem.W.Frag) : List V → Hp → VK → Prop := fun vs H Q => rSortedI K vs H Q ∨ ∃ (a : Addr) (kvs : List (Key × V)) (ks : List Int), vs = [.ref a] ∧ Rd H a (.dK kvs) ∧ kvs.map (·.1) = ks.map Sum.inl ∧ ks.length < 64 ∧
    ∀ (ys : List Int) (p : Addr), ys.Perm ks → ys.Pairwise (· ≤ ·) → H p = none → Q (.ref p) (upd H p (.lst (ys.map V.int)))
theorem c_srt {X : Cx} (hc : X.calm = true) : CallR X (.builtin "sorted") (uSrt X.K) := CallR.or cr_sortedI (call_sortedDI hc)
theorem o_srt : OpL K (uSrt K) fSrt := by
  intro Γ σ H st p m ar am ao ab vs xs as ys Q R r e h
  unfold fSrt at e
  split at e
  · obtain ⟨v, rfl, r1⟩ := r.one
    obtain ⟨ns, en, rfl⟩ := Option.map_eq_some_iff.mp e
    obtain ⟨a, us, rfl, hs, q⟩ := r1.lst_i
    have eu := asIs_v q en
    subst eu
    refine .inl ⟨a, ns, rfl, SqL.of hs, fun ns' q p1 p2 hq => ?_⟩
    have e1 : ns' = srtI ns := srt_uniq (p1.trans (srtI_perm ns).symm) p2 (srtI_srt ns)
    subst e1
    exact h q _ hq (rp_ints _)
  · obtain ⟨v, rfl, r1⟩ := r.one
    obtain ⟨ns, en, e2⟩ := Option.bind_eq_some_iff.mp e
    split at e2
    · cases e2
      obtain ⟨a, kvs, rfl, hs, ek, q⟩ := r1.dct_i
      refine .inr ⟨a, kvs, ns, rfl, .inl hs, ek.trans (keysI_v en), by assumption, fun ns' q p1 p2 hq => ?_⟩
      have e1 : ns' = srtI ns := srt_uniq (p1.trans (srtI_perm ns).symm) p2 (srtI_srt ns)
      subst e1
      exact h q _ hq (rp_ints _)
    · cases e2
  · cases e
theorem o_repr : OpA K (uReprD K) fRepr := by
  intro Γ σ H st p m ar am ao ab vs xs as d Q R r e h
  unfold fRepr at e
  split at e
  · split at e
    · rename_i x c
      cases e
      obtain ⟨v, rfl, r1⟩ := r.one
      cases x with
      | dct o ks xs =>
        simp only [isMt, Bool.and_eq_true, List.isEmpty_iff] at c
        obtain ⟨rfl, rfl⟩ := c
        obtain ⟨a, kvs, rfl, hs, ek, q⟩ := r1.dct_i
        obtain rfl : kvs = [] := by simpa using ek
        exact ⟨_, .dict [], rfl, .inr (.dct (ns := []) hs), by rfl, by decide, fun z => (by cases z), by rw [mx_eq]; decide, h _ _ (R.nob.rel.str _)⟩
      | _ => cases c
    split at e
    · cases e
      rename_i c
      simp only [Bool.and_eq_true, decide_eq_true_eq, Bool.not_eq_true'] at c
      obtain ⟨v, rfl, r1⟩ := r.one
      exact ⟨v, _, rfl, .inl (r1.dp c.1.1.1.1), c.1.1.1.2, c.1.1.2, fun _ => c.1.2, by rw [mx_eq]; exact c.2, h _ _ (R.nob.rel.str _)⟩
    · obtain ⟨⟨k, v⟩, e1, e2⟩ := Option.bind_eq_some_iff.mp e
      split at e2
      · cases e2
        rename_i c
        simp only [Bool.and_eq_true, decide_eq_true_eq] at c
        obtain ⟨w, rfl, r1⟩ := r.one
        unfold isD1 at e1
        split at e1
        · cases e1
          obtain ⟨a, kvs, rfl, hs, ek, q⟩ := r1.dct_i
          match kvs, ek, q with
          | [(k', u)], ek, q =>
            have e3 : k' = Sum.inl k := by simpa using ek
            subst e3
            have e4 : u = V.int v := Rp.int_i q
            subst e4
            exact ⟨_, rpD1 (k, v), rfl, .inr (.dct (ns := [(k, v)]) hs), c.1, Nat.le_of_ble_eq_true rfl, fun z => (by cases z), by rw [mx_eq]; exact c.2, h _ _ (R.nob.rel.str _)⟩
        · cases e1
      · cases e2
  · cases e
end
/-! ### isinstance -/
section
variable {X : Cx} {Γ : Gam} {W : WX} {σ : L2.St} {H : Hp} {st : Ss} {p : Pd} {K : PySem.W.Frag} {pos q : Pos}
def tyA : AV → String
  | .non => "NoneType"
  | .bl _ => "bool"
  | .int _ => "int"
  | .str _ => "str"
  | .tup _ => "tuple"
  | .dct _ _ _ => "dict"
  | _ => "list"
theorem tyX_of {W m as : List Addr} {v : V} {x : AV} (r : Rp K H W m [v] [x] as) (h : okT x = true) : TyX K H v (.type (tyA x)) := by
  cases r with
  | non _ => exact .base .non
  | bl _ => exact .base (.bl _)
  | int _ => exact .base (.int _)
  | str _ => exact .base (.str _)
  | tup hs _ _ =>
    rcases hs with (hs | ⟨o, hs⟩) | ⟨o, _, _, hk, hc, _⟩
    · exact .base (.tup hs)
    · exact .fTuple hs
    · exact .kTuple hk hc
  | lsI hs _ _ _ => exact .base (.lst hs)
  | lsO hs _ _ => exact .base (.lst hs)
  | dcI hs _ _ _ _ => exact .base (.dK hs)
  | dcO hs _ _ _ => exact .base (.dK hs)
  | _ => cases h
theorem kit_A {n : String} (hn : n = "int" ∨ n = "bool" ∨ n = "str" ∨ n = "tuple" ∨ n = "list" ∨ n = "dict") {x : AV} (h : okT x = true) : kitB (tyA x) n = some (isT n x) := by
  cases x with
  | non => rcases hn with rfl | rfl | rfl | rfl | rfl | rfl <;> (simp only [tyA, isT]; decide +kernel)
  | bl _ => rcases hn with rfl | rfl | rfl | rfl | rfl | rfl <;> (simp only [tyA, isT]; decide +kernel)
  | int _ => rcases hn with rfl | rfl | rfl | rfl | rfl | rfl <;> (simp only [tyA, isT]; decide +kernel)
  | str _ => rcases hn with rfl | rfl | rfl | rfl | rfl | rfl <;> (simp only [tyA, isT]; decide +kernel)
  | tup _ => rcases hn with rfl | rfl | rfl | rfl | rfl | rfl <;> (simp only [tyA, isT]; decide +kernel)
  | lst _ _ => rcases hn with rfl | rfl | rfl | rfl | rfl | rfl <;> (simp only [tyA, isT]; decide +kernel)
  | dct _ _ _ => rcases hn with rfl | rfl | rfl | rfl | rfl | rfl <;> (simp only [tyA, isT]; decide +kernel)
  | _ => cases h
/-- isinstance(e, T), T a built-in type -/
theorem s_isi {e : Expr} {n : String} {y : Str} {m : M AV} {q2 : Pos} (hn : n = "int" ∨ n = "bool" ∨ n = "str" ∨ n = "tuple" ∨ n = "list" ∨ n = "dict") (hg : Gl X "isinstance") (hm : X.mg "isinstance" = none) (hgt : Gl X y) (hmt : X.mg y = none) (hvt : bootBuiltins y = some (.type n)) (he : PE X e (rdE X.K Γ W m))
    (hny : y ≠ "__name__" := by decide) (hdy : (y == ("__debug__" : Str)) = false := by decide)
    (hs : starEach [e, .Name y q2] X.env = (false, eval e X.env) :: starEach [.Name y q2] X.env := by rfl) (hs2 : starEach [.Name y q2] X.env = (false, eval (.Name y q2) X.env) :: starEach [] X.env := by rfl) (hpl : (backTo pos (starEach [.Name y q2] X.env)).any (·.1) = false := by rfl) :
    PE X (.Call (.Name "isinstance" q) [e, .Name y q2] [] pos) (rdE X.K Γ W (eIsi n m)) := by
  refine pe_imp (pe_callB call_isi hg hm (by decide +kernel) (pa_cons he (pa_cons (pe_bltn (v := .ty n) hgt hmt hvt rfl hny hdy) pa_nil hs2) hs) (by decide) (by decide) hs hpl) fun σ H Q h => ?_
  obtain ⟨st, p, R, h⟩ := h
  refine ⟨st, p, R, ?_⟩
  unfold eIsi at h
  cases ea : m st with
  | bad => rw [ea] at h; exact h
  | err c s1 => rw [ea] at h; exact h
  | ok x s1 =>
    rw [ea] at h
    simp only [Res.bind_ok] at h
    intro v H1 R1
    cases eo : okT x with
    | false => simp only [eo, cond_false] at h
    | true =>
      simp only [eo, cond_true] at h
      obtain ⟨mm, ar, am, ao, ab, R2, r⟩ := R1.one
      exact ⟨v, .ty n, .type (tyA x), .type n, isT n x, rfl, .ty n, tyX_of r eo, kit_ty (kit_A hn eo), h _ _ (R2.rel.bl _)⟩
end
end Fk
/-! ## subscripts, slices, globals, zip and enumerate -/
namespace Fk
open PySem PySem.Spec PyProof.Rows L2
def getK : List Key → List AV → Key → Option AV
  | k' :: ks, x :: xs, k => if k' = k then some x else getK ks xs k
  | _, _, _ => none
def keyA : AV → Option Key
  | .int i => some (.inl i)
  | .str x => some (.inr x)
  | _ => none
def seqA : AV → Option (List AV)
  | .lst _ xs => some xs
  | .tup xs => some xs
  | .scr xs => some xs
  | .nst xs => some xs
  | _ => none
def dicA : AV → Option (List Key × List AV)
  | .dct _ ks xs => some (ks, xs)
  | .ndc ks xs => some (ks, xs)
  | _ => none
/-- an item -/
def itA (x y : AV) : Option AV := match seqA x with
  | some xs => (match y with
    | .int i => atI xs i
    | _ => none)
  | none => match dicA x with
    | some (ks, xs) => (keyA y).bind fun k => getK ks xs k
    | none => match x, y with
      | .str z, .int i => if z.length ≤ 16777216 then (atI z.cps.toList i).map fun c => .str ⟨#[c]⟩ else none
      | _, _ => none
def ixA (S : List AV) (x y : AV) : Option AV := (deref S x).bind fun z => itA z y
def eIx (a b : M AV) : M AV := fun st => (a st).bind fun x s1 => (b s1).bind fun y s2 => match ixA s2.s x y with
  | some d => bif imm d then .ok d s2 else .bad
  | none => .bad
def pIx (a b : Ss → Option AV) : Ss → Option AV := fun st => (a st).bind fun x => (b st).bind fun y => ixA st.s x y
def rDG : R2 := fun x y H Q => ∃ a v, x = .ref a ∧ DGet H a y (some v) ∧ Q v H
section
variable {K : PySem.W.Frag} {H : Hp} {W m as a1 a2 : List Addr} {v v1 v2 : V} {x y d : AV} {Γ : Gam} {σ : L2.St} {st : Ss} {p : Pd} {ar am ao ab : List Addr}
theorem getK_v : ∀ {kvs : List (Key × V)} {ys : List AV} {as : List Addr} {k : Key}, Rp K H W m (kvs.map (·.2)) ys as → getK (kvs.map (·.1)) ys k = some d → ∃ v b, valV kvs k = some v ∧ Rp K H W m [v] [d] b
  | [], ys, as, k, r, e => by cases ys <;> cases e
  | (k', v) :: kvs, [], as, k, r, e => by cases e
  | (k', v) :: kvs, z :: ys, as, k, r, e => by
    obtain ⟨b1, b2, _, r1, r2⟩ := Rp.head (show Rp K H W m (v :: kvs.map (·.2)) (z :: ys) as from r)
    have e2 : (if k' = k then some z else getK (kvs.map (·.1)) ys k) = some d := e
    by_cases c : k' = k
    · rw [if_pos c] at e2
      cases e2
      exact ⟨v, b1, valV_pos (p := (k', v)) c, r1⟩
    · rw [if_neg c] at e2
      obtain ⟨v2, b, h1, h2⟩ := getK_v r2 e2
      exact ⟨v2, b, (valV_neg (p := (k', v)) c).trans h1, h2⟩
theorem keyA_v {k : Key} (r : Rp K H W m [v] [y] as) (e : keyA y = some k) : v = kV k := by
  cases y with
  | int i => cases e; exact r.int_i
  | str i => cases e; exact r.str_i
  | _ => cases e
theorem seqA_v {zs : List AV} (r : Rp K H W m [v] [x] as) (e : seqA x = some zs) : ∃ a us b, v = .ref a ∧ (SqL K H a us ∨ SqT K H a us) ∧ Rp K H W m us zs b := by
  cases r with
  | tup h q _ => cases e; exact ⟨_, _, _, rfl, .inr h, q⟩
  | lsI h _ q _ => cases e; exact ⟨_, _, _, rfl, .inl (SqL.of h), q⟩
  | lsO h q _ => cases e; exact ⟨_, _, _, rfl, .inl (SqL.of h), q⟩
  | nst h q _ => cases e; exact ⟨_, _, _, rfl, .inl (SqL.of h), q⟩
  | scr h q _ => cases e; exact ⟨_, _, _, rfl, .inl h.sq, q⟩
  | _ => cases e
theorem dicA_v {ks : List Key} {zs : List AV} (r : Rp K H W m [v] [x] as) (e : dicA x = some (ks, zs)) : ∃ a kvs b, v = .ref a ∧ H a = some (.dK kvs) ∧ kvs.map (·.1) = ks ∧ Rp K H W m (kvs.map (·.2)) zs b := by
  cases r with
  | dcI h _ ek q _ => cases e; exact ⟨_, _, _, rfl, h, ek, q⟩
  | dcO h ek q _ => cases e; exact ⟨_, _, _, rfl, h, ek, q⟩
  | ndc h ek q _ => cases e; exact ⟨_, _, _, rfl, h, ek, q⟩
  | _ => cases e
theorem atI_len {α β : Type} {xs : List α} {ys : List β} {i : Int} {x : α} (hl : xs.length = ys.length) (e : atI xs i = some x) : ∃ j y, ixN ys.length i = some j ∧ xs[j]? = some x ∧ ys[j]? = some y := by
  unfold atI at e
  obtain ⟨j, ej, ex⟩ := Option.bind_eq_some_iff.mp e
  have hj : j < xs.length := (List.getElem?_eq_some_iff.mp ex).1
  rw [hl] at ej
  exact ⟨j, ys[j]'(by omega), ej, ex, by simp⟩
/-- an item, by values -/
theorem it_sem (r1 : Rp K H W m [v1] [x] a1) (r2 : Rp K H W m [v2] [y] a2) (e : itA x y = some d) : ∃ v b, Rp K H W m [v] [d] b ∧ (dicA x = none → ∀ Q : VK, Q v H → rIx K v1 v2 H Q) ∧ (dicA x ≠ none → ∀ Q : VK, Q v H → rDG v1 v2 H Q) := by
  unfold itA at e
  cases es : seqA x with
  | some zs =>
    rw [es] at e
    obtain ⟨a, us, b, rfl, hs, q⟩ := seqA_v r1 es
    cases y with
    | int i =>
      obtain rfl := r2.int_i
      obtain ⟨j, u, ej, ez, eu⟩ := atI_len q.len.symm e
      obtain ⟨v', c1, c, c2, ev, _, _, rv, _⟩ := q.at_ ez
      rw [eu] at ev
      cases ev
      have hat : atI us i = some u := by
        unfold atI
        rw [ej]
        exact eu
      refine ⟨u, c, rv, fun _ Q hQ => ?_, fun z => absurd (by cases x <;> first | rfl | cases es) z⟩
      rcases hs with hs | hs
      · exact .inl ⟨a, us, i, u, rfl, rfl, hs, hat, hQ⟩
      · exact .inr (.inl ⟨a, us, i, u, rfl, rfl, hs, hat, hQ⟩)
    | _ => cases e
  | none =>
    rw [es] at e
    cases ed : dicA x with
    | some kz =>
      obtain ⟨ks, zs⟩ := kz
      rw [ed] at e
      obtain ⟨k, ek, eg⟩ := Option.bind_eq_some_iff.mp (show (keyA y).bind (fun k => getK ks zs k) = some d from e)
      obtain ⟨a, kvs, b, rfl, hs, hk, q⟩ := dicA_v r1 ed
      subst hk
      obtain ⟨v, c, h1, h2⟩ := getK_v q eg
      refine ⟨v, c, h2, (fun z => by cases z), fun _ Q hQ => ⟨a, v, rfl, ?_, hQ⟩⟩
      rw [keyA_v r2 ek, ← h1]
      exact DGet.k hs
    | none =>
      rw [ed] at e
      cases x with
      | str z =>
        cases y with
        | int i =>
          obtain rfl := r1.str_i
          obtain rfl := r2.int_i
          have e2 : (if z.length ≤ 16777216 then (atI z.cps.toList i).map fun c => AV.str ⟨#[c]⟩ else none) = some d := e
          by_cases c : z.length ≤ 16777216
          · rw [if_pos c] at e2
            obtain ⟨ch, ec, rfl⟩ := Option.map_eq_some_iff.mp e2
            exact ⟨.str ⟨#[ch]⟩, [], .str .nil, fun _ Q hQ => .inr (.inr ⟨z, i, ch, rfl, rfl, by rw [mx_eq]; exact c, ec, hQ⟩), fun z => absurd rfl z⟩
          · rw [if_neg c] at e2
            cases e2
        | _ => cases e
      | _ => cases e
end
section
variable {X : Cx} {Γ : Gam} {W : WX} {σ : L2.St} {H : Hp} {st : Ss} {p : Pd} {K : PySem.W.Frag} {pos q : Pos} {a b : Expr}
theorem s_ix {ma mb : M AV} (hu : X.A.units + 1 < cLine) (ha : PE X a (rdE X.K Γ W ma)) (hb : PE X b (rdE X.K Γ W mb)) (hs : PlainIx b := by exact fun _ _ => rfl) : PE X (.Subscript a b pos) (rdE X.K Γ W (eIx ma mb)) := by
  have hd : PE X (.Subscript a b pos) (tOp rDG (rdE X.K Γ W ma) (rdE X.K Γ W mb)) := pe_dget hu ha hb hs
  refine pe_imp (Fk.pe_or (pe_ix ix_seq ha hb hs) hd) fun σ H Q h => ?_
  obtain ⟨st, p, R, h⟩ := h
  unfold eIx at h
  -- the values that come decide which rule is taken
  have main : ∀ r : R2, (∀ x s1 y s2, ma st = .ok x s1 → mb s1 = .ok y s2 → ∀ v1 v2 H2, Rel X.K Γ σ H2 s2 ((p.nob.sh v1 x).sh v2 y) → r v1 v2 H2 Q) → tOp r (rdE X.K Γ W ma) (rdE X.K Γ W mb) σ H Q := by
    intro r hr
    refine ⟨st, p, R, ?_⟩
    cases ea : ma st with
    | bad => rw [ea] at h; exact h
    | err c s1 => rw [ea] at h; exact h
    | ok x s1 =>
      rw [ea] at h
      simp only [Res.bind_ok] at h
      intro v1 H1 R1
      refine ⟨s1, _, R1, ?_⟩
      cases eb : mb s1 with
      | bad => rw [eb] at h; exact h
      | err c s2 => rw [eb] at h; exact fun H2 R2 => h H2 R2.drop
      | ok y s2 => exact fun v2 H2 R2 => hr x s1 y s2 ea eb v1 v2 H2 R2
  cases ea : ma st with
  | bad => rw [ea] at h; exact h.elim
  | err c s1 =>
    left
    refine main _ fun x s1 y s2 e1 => ?_
    rw [ea] at e1; cases e1
  | ok x s1 =>
    rw [ea] at h
    simp only [Res.bind_ok] at h
    cases eb : mb s1 with
    | bad => rw [eb] at h; exact h.elim
    | err c s2 =>
      left
      refine main _ fun x' s1' y s2 e1 e2 => ?_
      rw [ea] at e1; cases e1
      rw [eb] at e2; cases e2
    | ok y s2 =>
      rw [eb] at h
      simp only [Res.bind_ok] at h
      cases ei : ixA s2.s x y with
      | none => simp only [ei] at h
      | some d =>
        simp only [ei] at h
        cases em : imm d with
        | false => simp only [em, cond_false] at h
        | true =>
          simp only [em, cond_true] at h
          obtain ⟨z, ez, e2⟩ := Option.bind_eq_some_iff.mp ei
          have fin : ∀ v1 v2 H2, Rel X.K Γ σ H2 s2 ((p.nob.sh v1 x).sh v2 y) → (dicA z = none → rIx X.K v1 v2 H2 Q) ∧ (dicA z ≠ none → rDG v1 v2 H2 Q) := fun v1 v2 H2 R2 => by
            obtain ⟨m, ar, am, ao, ab, R3, r1, r2⟩ := R2.two
            obtain ⟨as', r3⟩ := R3.deref r1 ez
            obtain ⟨v, b, rv, h1, h2⟩ := it_sem r3 r2 e2
            rw [imm_nil rv em] at rv
            exact ⟨fun z => h1 z Q (h v H2 (R3.nob.sh rv)), fun z => h2 z Q (h v H2 (R3.nob.sh rv))⟩
          by_cases c : dicA z = none
          · left
            refine main _ fun x' s1' y' s2' e1 e3 v1 v2 H2 R2 => ?_
            rw [ea] at e1; cases e1
            rw [eb] at e3; cases e3
            exact (fin v1 v2 H2 R2).1 c
          · right
            refine main _ fun x' s1' y' s2' e1 e3 v1 v2 H2 R2 => ?_
            rw [ea] at e1; cases e1
            rw [eb] at e3; cases e3
            exact (fin v1 v2 H2 R2).2 c
theorem q_ix {ma mb : Ss → Option AV} (hu : X.A.units + 1 < cLine) (ha : PE X a (rdP X.K Γ ma)) (hb : PE X b (rdP X.K Γ mb)) (hs : PlainIx b := by exact fun _ _ => rfl) : PE X (.Subscript a b pos) (rdP X.K Γ (pIx ma mb)) := by
  have hd : PE X (.Subscript a b pos) (tOp rDG (rdP X.K Γ ma) (rdP X.K Γ mb)) := pe_dget hu ha hb hs
  refine pe_imp (Fk.pe_or (pe_ix ix_seq ha hb hs) hd) fun σ H Q h => ?_
  obtain ⟨st, p, d, R, e, h⟩ := h
  obtain ⟨x, ea, e⟩ := Option.bind_eq_some_iff.mp e
  obtain ⟨y, eb, e⟩ := Option.bind_eq_some_iff.mp e
  obtain ⟨z, ez, e⟩ := Option.bind_eq_some_iff.mp e
  have fin : ∀ v1 v2, Rel X.K Γ σ H st ((p.lk v1 x).lk v2 y) → (dicA z = none → rIx X.K v1 v2 H Q) ∧ (dicA z ≠ none → rDG v1 v2 H Q) := fun v1 v2 R2 => by
    obtain ⟨m, ar, am, ao, ab, R2⟩ := R2
    obtain ⟨c1, c2, _, r2, r0⟩ := R2.rb.head
    obtain ⟨c3, c4, _, r1, r4⟩ := r0.head
    have R3 := R2.setB (p := (p.lk v1 x).lk v2 y) r4
    obtain ⟨as', r3⟩ := Rl.deref (p := p) R3 r1 ez
    obtain ⟨v, b, rv, h1, h2⟩ := it_sem r3 r2 e
    have R5 : Rel X.K Γ σ H st (p.lk v d) := ⟨m, ar, am, ao, _, R2.setB (p := (p.lk v1 x).lk v2 y) (rv.cons r4)⟩
    exact ⟨fun z => h1 z Q (h v R5), fun z => h2 z Q (h v R5)⟩
  by_cases c : dicA z = none
  · exact .inl ⟨st, p, x, R, ea, fun v1 R1 => ⟨st, _, y, R1, eb, fun v2 R2 => (fin v1 v2 R2).1 c⟩⟩
  · exact .inr ⟨st, p, x, R, ea, fun v1 R1 => ⟨st, _, y, R1, eb, fun v2 R2 => (fin v1 v2 R2).2 c⟩⟩
/-! ### slices -/
def cutA (xs : List AV) (lo hi : Option Int) : List AV := (xs.drop (HT.sIx xs.length 0 lo)).take (HT.sIx xs.length xs.length hi - HT.sIx xs.length 0 lo)
theorem cut_rp {W m : List Addr} {us : List V} {xs : List AV} {lo hi : Option Int} (r : Rp K H W m us xs []) : Rp K H W m (cutV us lo hi) (cutA xs lo hi) [] := by
  have dr : ∀ (n : Nat) {us : List V} {xs : List AV}, Rp K H W m us xs [] → Rp K H W m (us.drop n) (xs.drop n) [] := fun n => by
    induction n with
    | zero => intro us xs r; exact r
    | succ n ih =>
      intro us xs r
      cases us with
      | nil => obtain ⟨rfl, _⟩ := r.nil_inv'; exact .nil
      | cons u us => cases xs with
        | nil => cases r.nil_inv.1
        | cons x xs => exact ih r.head0.2
  have tk : ∀ (n : Nat) {us : List V} {xs : List AV}, Rp K H W m us xs [] → Rp K H W m (us.take n) (xs.take n) [] := fun n => by
    induction n with
    | zero => intro us xs r; exact .nil
    | succ n ih =>
      intro us xs r
      cases us with
      | nil => obtain ⟨rfl, _⟩ := r.nil_inv'; exact .nil
      | cons u us => cases xs with
        | nil => cases r.nil_inv.1
        | cons x xs => exact r.head0.1.cons0 (ih r.head0.2)
  have l := r.len
  unfold cutV cutA
  rw [l]
  exact tk _ (dr _ r)
def slA (x : AV) (lo hi : Option Int) : Option AV := match x with
  | .lst _ xs => some (.lst false (cutA xs lo hi))
  | .tup xs => some (.tup (cutA xs lo hi))
  | .str z => if z.length ≤ 16777216 then some (.str (cutS z lo hi)) else none
  | _ => none
theorem sl_sem {m ar am ao ab as : List Addr} {v : V} {x d : AV} {lo hi : Option Int} {Q : VK} (R : Rl K Γ σ H st p m ar am ao ab) (r : Rp K H (wOf Γ ar am ao) m [v] [x] as) (e : slA x lo hi = some d) (h : ∀ v H', Rel K Γ σ H' st (p.nob.sh v d) → Q v H') : uSl K v lo hi H Q := by
  unfold slA at e
  split at e
  · cases e
    obtain ⟨a, us, rfl, hs, q⟩ := r.lst_i
    exact .inl ⟨a, us, rfl, SqL.of hs, fun l hl => h _ _ (R.nob.lst hl (cut_rp q)).rel⟩
  · cases e
    obtain ⟨a, us, rfl, hs, q⟩ := r.tup_i
    refine .inr (.inl ⟨a, us, rfl, hs, fun c => ?_, fun _ l hl => h _ _ (R.nob.tup hl (cut_rp q)).rel⟩)
    have e1 : ∀ {xs : List AV}, us.length = xs.length → cutA xs lo hi = xs := fun {xs} l => by
      unfold cutA
      rw [← l, c.1, c.2]
      simp [l]
    rw [e1 q.len] at h
    exact h _ _ (R.nob.sh (.tup hs q .nil))
  · split at e
    · cases e
      obtain rfl := r.str_i
      exact .inr (.inr ⟨_, rfl, by rw [mx_eq]; assumption, h _ _ (R.nob.rel.str _)⟩)
    · cases e
  · cases e
/-- a slice's part -/
def oPart (o : Option (M AV)) : M (Option Int) := match o with
  | none => fun st => .ok none st
  | some m => fun st => (m st).bind fun x s1 => match x with
    | .int i => .ok (some i) s1
    | _ => .bad
def rdPO (K : PySem.W.Frag) (Γ : Gam) (W : WX) (m : M (Option Int)) : TO := fun σ H Q => ∃ st p, Rel K Γ σ H st p ∧ match m st with
  | .ok o st' => ∀ H', Rel K Γ σ H' st' p.nob → Q o H'
  | .err c st' => ∀ H', Rel K Γ σ H' st' p.nob → W (.ref (He.ga K c)) none σ H'
  | .bad => False
theorem po_imp {e : Option Expr} {t t' : TO} (h : PO X e t) (i : ∀ σ H Q, t' σ H Q → t σ H Q) : PO X e t' := ⟨fun pins s σ H Q I q => h.run pins s σ H Q I (i σ H Q q)⟩
theorem s_po0 : PO X none (rdPO X.K Γ W (oPart none)) := by
  refine po_imp po_none fun σ H Q h => ?_
  obtain ⟨st, p, R, h⟩ := h
  exact h H R.nob
theorem s_po1 {e : Expr} {m : M AV} (he : PE X e (rdE X.K Γ W m)) : PO X (some e) (rdPO X.K Γ W (oPart (some m))) := by
  refine po_imp (po_some he) fun σ H Q h => ?_
  obtain ⟨st, p, R, h⟩ := h
  refine ⟨st, p, R, ?_⟩
  simp only [oPart] at h
  cases ea : m st with
  | bad => rw [ea] at h; exact h
  | err c s1 => rw [ea] at h; exact h
  | ok x s1 =>
    rw [ea] at h
    simp only [Res.bind_ok] at h
    intro v H1 R1
    cases x with
    | int i =>
      obtain ⟨mm, ar, am, ao, ab, R2, r⟩ := R1.one
      exact ⟨i, r.int_i, h H1 R2.rel⟩
    | _ => exact h.elim
def eSl (a : M AV) (lo hi : Option (M AV)) : M AV := fun st => (a st).bind fun x s1 => (oPart lo s1).bind fun l s2 => (oPart hi s2).bind fun u s3 => ofO (slA x l u) s3
theorem s_sl {e : Expr} {lo hi : Option Expr} {me : M AV} {ml mh : Option (M AV)} {q2 : Pos} (he : PE X e (rdE X.K Γ W me)) (hl : PO X lo (rdPO X.K Γ W (oPart ml))) (hh : PO X hi (rdPO X.K Γ W (oPart mh))) : PE X (.Subscript e (.Slice lo hi none q2) pos) (rdE X.K Γ W (eSl me ml mh)) := by
  refine pe_imp (pe_slice sl_any he hl hh) fun σ H Q h => ?_
  obtain ⟨st, p, R, h⟩ := h
  refine ⟨st, p, R, ?_⟩
  unfold eSl at h
  cases ea : me st with
  | bad => rw [ea] at h; exact h
  | err c s1 => rw [ea] at h; exact h
  | ok x s1 =>
    rw [ea] at h
    simp only [Res.bind_ok] at h
    intro v H1 R1
    refine ⟨s1, _, R1, ?_⟩
    cases el : oPart ml s1 with
    | bad => rw [el] at h; exact h
    | err c s2 => rw [el] at h; exact fun H2 R2 => h H2 R2.drop
    | ok l s2 =>
      rw [el] at h
      simp only [Res.bind_ok] at h
      intro H2 R2
      refine ⟨s2, _, R2, ?_⟩
      cases eh : oPart mh s2 with
      | bad => rw [eh] at h; exact h
      | err c s3 => rw [eh] at h; exact fun H3 R3 => h H3 R3.drop
      | ok u s3 =>
        rw [eh] at h
        simp only [Res.bind_ok] at h
        intro H3 R3
        cases es : slA x l u with
        | none => simp only [es, ofO_none] at h
        | some d =>
          simp only [es, ofO_some] at h
          obtain ⟨m, ar, am, ao, ab, R4, r⟩ := Rel.one (p := p.nob) R3
          exact sl_sem R4 r es h
def revA : AV → Option AV
  | .lst _ xs => some (.lst false xs.reverse)
  | .tup xs => some (.tup xs.reverse)
  | _ => none
theorem rev_rp {W m : List Addr} : ∀ {us : List V} {xs : List AV}, Rp K H W m us xs [] → Rp K H W m us.reverse xs.reverse []
  | [], xs, r => by obtain ⟨rfl, _⟩ := r.nil_inv'; exact .nil
  | u :: us, [], r => by cases r.nil_inv.1
  | u :: us, x :: xs, r => by
    rw [List.reverse_cons, List.reverse_cons]
    exact (rev_rp r.head0.2).app r.head0.1
theorem s_rev {e : Expr} {m : M AV} {k : Nat} {p1 p2 p3 : Pos} (he : PE X e (rdE X.K Γ W m)) : PE X (.Subscript e (.Slice none none (some (.UnaryOp .USub (.Constant (.int 1) k p1) p2)) p3) pos) (rdE X.K Γ W (e1 revA m)) := by
  refine pe_imp (pe_rev he) fun σ H Q h => ?_
  obtain ⟨st, p, R, h⟩ := h
  unfold e1 at h
  cases ea : m st with
  | bad => rw [ea] at h; exact h.elim
  | err c s1 =>
    rw [ea] at h
    exact .inl ⟨st, p, R, by rw [ea]; exact h⟩
  | ok x s1 =>
    rw [ea] at h
    simp only [Res.bind_ok] at h
    cases x with
    | lst o xs =>
      refine .inl ⟨st, p, R, ?_⟩
      rw [ea]
      intro v H1 R1
      obtain ⟨mm, ar, am, ao, ab, R2, r⟩ := R1.one
      obtain ⟨a, us, rfl, hs, q⟩ := r.lst_i
      exact ⟨a, us, rfl, SqL.of hs, fun l hl => h _ _ (R2.lst hl (rev_rp q)).rel⟩
    | tup xs =>
      refine .inr ⟨st, p, R, ?_⟩
      rw [ea]
      intro v H1 R1
      obtain ⟨mm, ar, am, ao, ab, R2, r⟩ := R1.one
      obtain ⟨a, us, rfl, hs, q⟩ := r.tup_i
      exact ⟨a, us, rfl, hs, fun l hl => h _ _ (R2.tup hl (rev_rp q)).rel⟩
    | _ => exact h.elim
/-! ### a module's constants -/
theorem s_gl {x : Str} {v : V} {u : Value} {d : AV} (hg : Gl X x) (hm : X.mg x = some u) (r : RelV v u) (hr : ∀ H W m, Rp X.K H W m [v] [d] []) (hd : (x == ("__debug__" : Str)) = false := by decide) : PE X (.Name x pos) (rdE X.K Γ W (eC d)) := by
  refine pe_imp (pe_glob hg hm r hd) fun σ H Q h => ?_
  obtain ⟨st, p, R, h⟩ := h
  exact h _ _ (R.nob.shC (hr H))
theorem q_gl {x : Str} {v : V} {u : Value} {d : AV} (hg : Gl X x) (hm : X.mg x = some u) (r : RelV v u) (hr : ∀ H W m, Rp X.K H W m [v] [d] []) (hd : (x == ("__debug__" : Str)) = false := by decide) : PE X (.Name x pos) (rdP X.K Γ (pC d)) := by
  refine pe_imp (pe_glob hg hm r hd) fun σ H Q h => ?_
  obtain ⟨st, p, d, R, e, h⟩ := h
  cases e
  exact h _ (R.lkC (hr H))
end
end Fk
/-! ## stores -/
namespace Fk
open PySem PySem.Spec PyProof.Rows L2
section
variable {K : PySem.W.Frag} {H : Hp} {Γ : Gam} {σ : L2.St} {st : Ss} {p : Pd} {m ar am ao ab : List Addr}
theorem set_same {σ : L2.St} {i : Nat} {v : V} (e : σ[i]? = some (some v)) : σ.set i (some v) = σ := by
  apply List.ext_getElem?
  intro j
  by_cases c : i = j
  · subst c
    rw [List.getElem?_set_self (List.getElem?_eq_some_iff.mp e).1, e]
  · rw [List.getElem?_set_ne c]
/-- an owned thing in a slot is written -/
theorem Rl.wrSlot (R : Rl K Γ σ H st p m ar am ao ab) {i : Nat} {d : AV} (e : getSl st.r i = .ow d) : ∃ v b, σ[i]? = some (some v) ∧ Rp K H (wOf Γ ar am ao) m [v] [d] b ∧ (∀ c ∈ b, c ∈ wOf Γ ar am ao) ∧
    ∀ {q : Addr} {o u : HO} {d' : AV}, q ∈ b → H q = some u → mutO u = true → NoTbl o → (∀ {H' : Hp}, Tr H H' (wOf Γ ar am ao) (wOf Γ ar am ao) m m [q] → H' q = some o → (∀ c, c ≠ q → H' c = H c) → Rp K H' (wOf Γ ar am ao) m [v] [d'] b) → Rel K Γ σ (upd H q o) ⟨setSl st.r i (.ow d'), st.s⟩ p.nob := by
  obtain ⟨v, a1, b, a2, ev, ea, rv, rn⟩ := R.rs.getOw e
  have nd := R.nd
  refine ⟨v, b, ev, rv, fun c hc => by simp only [wOf, ea, List.mem_append]; grind, ?_⟩
  intro q o u d' hq hu hm no hr
  have hi : i < st.r.length := getSl_lt (by rw [e]; exact fun z => nomatch z)
  have hqw : q ∈ wOf Γ ar am ao := by simp only [wOf, ea, List.mem_append]; grind
  have t : Tr H (upd H q o) (wOf Γ ar am ao) (wOf Γ ar am ao) m m [q] := Tr.put hu hm hqw fun _ z => z
  have n1 : ∀ c ∈ a1 ++ a2, c ∉ [q] := fun c hc z => by
    simp only [wOf, ea, List.nodup_append, List.mem_append, List.mem_singleton] at nd z hc
    grind
  have n2 : ∀ c ∈ am, c ∉ [q] := fun c hc z => by
    simp only [wOf, ea, List.nodup_append, List.mem_append, List.mem_singleton] at nd z
    grind
  have n3 : ∀ c ∈ ao, c ∉ [q] := fun c hc z => by
    simp only [wOf, ea, List.nodup_append, List.mem_append, List.mem_singleton] at nd z
    grind
  obtain ⟨c1, c2, ec, rs⟩ := (t.rs rn n1).setOw hi (hr t upd_same fun c hc => upd_ne hc)
  rw [set_same ev] at rs
  have hmem : ∀ x, x ∈ c1 ++ (b ++ c2) ↔ x ∈ ar := fun x => by
    have h1 : x ∈ a1 ++ a2 ↔ x ∈ c1 ++ c2 := by rw [ec]
    simp only [ea, List.mem_append] at h1 ⊢
    grind
  have hw : ∀ x, x ∈ wOf Γ (c1 ++ (b ++ c2)) am ao ↔ x ∈ wOf Γ ar am ao := fun x => by
    have h1 := hmem x
    simp only [wOf, List.mem_append] at h1 ⊢
    grind
  have t2 : Tr (upd H q o) (upd H q o) (wOf Γ ar am ao) (wOf Γ (c1 ++ (b ++ c2)) am ao) m m [] := Tr.same fun c z => (hw c).mp z
  refine ⟨m, c1 ++ (b ++ c2), am, ao, [], t2.rs rs (fun _ _ z => nomatch z), t2.rp (t.rp R.rm n2) (fun _ _ z => nomatch z), t2.rp0 (t.rp0 R.ri), t2.rp (t.rp R.ro n3) (fun _ _ z => nomatch z), .nil, ?_, ?_, ?_, R.pm, R.gu, tabs_put R.tb hu hm no⟩
  · have pn : (c1 ++ (b ++ c2)).Perm ar := by
      rw [ea]
      have e1 : (c1 ++ (b ++ c2)).Perm (b ++ (c1 ++ c2)) := by
        rw [← List.append_assoc, ← List.append_assoc]
        exact List.Perm.append_right _ List.perm_append_comm
      have e2 : (a1 ++ (b ++ a2)).Perm (b ++ (a1 ++ a2)) := by
        rw [← List.append_assoc, ← List.append_assoc]
        exact List.Perm.append_right _ List.perm_append_comm
      rw [ec] at e2
      exact e1.trans e2.symm
    have pw : (wOf Γ (c1 ++ (b ++ c2)) am ao).Perm (wOf Γ ar am ao) := List.Perm.append_left _ (List.Perm.append_right _ pn)
    exact pw.nodup_iff.mpr nd
  · intro x hx
    have h1 := hmem x
    have h2 := R.fr x
    simp only [List.mem_append] at h1 h2 hx
    grind
  · intro a' o' e' n'
    obtain ⟨o2, e2, f2⟩ := R.kp a' o' e' n'
    have ne : a' ≠ q := by
      rintro rfl
      rcases R.fr a' (by simp only [ea, List.mem_append]; grind) with z | z
      · exact n' z
      · rw [e'] at z; cases z
    exact ⟨o2, by rw [upd_ne ne]; exact e2, f2⟩
end
/-! ### lists and dicts in slots -/
def ownL : Sl → Option (List AV)
  | .ow (.lst true xs) => some xs
  | _ => none
def ownD : Sl → Option (List Key × List AV)
  | .ow (.dct true ks xs) => some (ks, xs)
  | _ => none
@[simp] theorem ownL_ow (xs : List AV) : ownL (.ow (.lst true xs)) = some xs := rfl
@[simp] theorem ownD_ow (ks : List Key) (xs : List AV) : ownD (.ow (.dct true ks xs)) = some (ks, xs) := rfl
theorem ownL_eq {s : Sl} {xs : List AV} (h : ownL s = some xs) : s = .ow (.lst true xs) := by
  unfold ownL at h
  split at h
  · cases h; rfl
  · cases h
theorem ownD_eq {s : Sl} {ks : List Key} {xs : List AV} (h : ownD s = some (ks, xs)) : s = .ow (.dct true ks xs) := by
  unfold ownD at h
  split at h
  · cases h; rfl
  · cases h
def putL (i : Nat) (xs : List AV) (st : Ss) : Ss := ⟨setSl st.r i (.ow (.lst true xs)), st.s⟩
def putD (i : Nat) (ks : List Key) (xs : List AV) (st : Ss) : Ss := ⟨setSl st.r i (.ow (.dct true ks xs)), st.s⟩
def eApp (i : Nat) (m : M AV) : M AV := fun st => match ownL (getSl st.r i) with
  | none => .bad
  | some _ => (m st).bind fun d s1 => match ownL (getSl s1.r i) with
    | none => .bad
    | some xs => if xs.length < 16777216 then .ok .non (putL i (xs ++ [d]) s1) else .bad
def asI : AV → Option Int
  | .int i => some i
  | _ => none
def popA (xs : List AV) (d : AV) : Option (AV × List AV) := (asI d).bind fun k => if 0 ≤ k ∧ k < xs.length ∧ xs.length ≤ 16777216 then (xs[k.toNat]?).map fun y => (y, xs.eraseIdx k.toNat) else none
def ePop (i : Nat) (m : M AV) : M AV := fun st => match ownL (getSl st.r i) with
  | none => .bad
  | some _ => (m st).bind fun d s1 => match ownL (getSl s1.r i) with
    | none => .bad
    | some xs => match popA xs d with
      | some (y, ys) => .ok y (putL i ys s1)
      | none => .bad
section
variable {X : Cx} {Γ : Gam} {W : WX} {σ : L2.St} {H : Hp} {st : Ss} {p : Pd} {K : PySem.W.Frag} {pos apos cpos : Pos} {e : Expr} {x : Str} {i : Nat}
theorem Rl.slotL {m ar am ao ab : List Addr} {xs : List AV} (R : Rl K Γ σ H st p m ar am ao ab) (e : ownL (getSl st.r i) = some xs) : ∃ l us, σ[i]? = some (some (.ref l)) ∧ H l = some (.lst us) ∧ Rp K H (wOf Γ ar am ao) m us xs [] ∧
    ∀ {us' : List V} {ys : List AV}, Rp K H (wOf Γ ar am ao) m us' ys [] → Rel K Γ σ (upd H l (.lst us')) (putL i ys st) p.nob ∧ ∀ {v : V} {d : AV}, Rp K H (wOf Γ ar am ao) m [v] [d] [] → Rel K Γ σ (upd H l (.lst us')) (putL i ys st) (p.nob.sh v d) := by
  have main : ∀ {p : Pd}, Rl K Γ σ H st p m ar am ao ab → ∃ l us, σ[i]? = some (some (.ref l)) ∧ H l = some (.lst us) ∧ Rp K H (wOf Γ ar am ao) m us xs [] ∧ ∀ {us' : List V} {ys : List AV}, Rp K H (wOf Γ ar am ao) m us' ys [] → Rel K Γ σ (upd H l (.lst us')) (putL i ys st) p.nob := fun {p} R => by
    obtain ⟨v, b, ev, rv, _, f⟩ := R.wrSlot (ownL_eq e)
    obtain ⟨l, us, rfl, rfl, hs, q⟩ := rv.lsO_i
    exact ⟨l, us, ev, hs, q, fun {us' ys} r => f (o := .lst us') (d' := .lst true ys) (by simp) hs rfl (fun _ z => by cases z) fun t h1 _ => .lsO h1 (t.rp0 r) .nil⟩
  obtain ⟨l, us, ev, hs, q, f⟩ := main R
  refine ⟨l, us, ev, hs, q, fun {us' ys} r => ⟨f r, fun {v d} rd => ?_⟩⟩
  obtain ⟨l', us2, ev', hs', _, f'⟩ := main (R.setI (rd.cons0 R.ri))
  rw [ev] at ev'
  cases ev'
  exact f' r
/-- a method of a list in a slot -/
theorem slotM {m : M AV} {r : V → List V → Hp → VK → Prop} {id : String} {nm : Str} {q : Pos} {g : List AV → AV → Option (AV × List AV)} (hN : X.N[i]? = some x) (hv : Vis X.env.scope x) (he : PE X e (rdE X.K Γ W m)) (hM : MtR X id r)
    (hd : (x == ("__debug__" : Str)) = false) (hcd : (x == ("__classdict__" : Str)) = false)
    (hbm : ∀ {r : V → List V → Hp → VK → Prop} {to : TE} {t : TA}, MtR X id r → PE X (.Name x q) to → PA X [e] t → PE X (.Call (.Attribute (.Name x q) nm apos) [e] [] cpos) (tBM X.K "list" r to t))
    (hs : starEach [e] X.env = (false, eval e X.env) :: starEach [] X.env)
    (hr : ∀ {l : Addr} {us : List V} {xs ys : List AV} {v : V} {d y : AV} {H : Hp} {W' mm : List Addr} {Q : VK}, H l = some (.lst us) → Rp X.K H W' mm us xs [] → Rp X.K H W' mm [v] [d] [] → g xs d = some (y, ys) → (∀ w us', Rp X.K H W' mm [w] [y] [] → Rp X.K H W' mm us' ys [] → Q w (upd H l (.lst us'))) → r (.ref l) [v] H Q) :
    PE X (.Call (.Attribute (.Name x q) nm apos) [e] [] cpos) (rdE X.K Γ W fun st => match ownL (getSl st.r i) with
      | none => .bad
      | some _ => (m st).bind fun d s1 => match ownL (getSl s1.r i) with
        | none => .bad
        | some xs => match g xs d with
          | some (y, ys) => .ok y (putL i ys s1)
          | none => .bad) := by
  refine pe_imp (hbm hM (pe_var hN hv hd hcd) (pa_cons he pa_nil hs)) fun σ H Q h => ?_
  obtain ⟨st, p, R, h⟩ := h
  cases e0 : ownL (getSl st.r i) with
  | none => simp only [e0] at h
  | some xs0 =>
    simp only [e0] at h
    have Rc := R
    obtain ⟨mm, ar, am, ao, ab, R0⟩ := Rc
    obtain ⟨l, us0, ev, hs0, _, _⟩ := R0.slotL e0
    refine ⟨.ref l, ev, .inl ⟨rfl, us0, SqL.of hs0⟩, st, p, R, ?_⟩
    cases ea : m st with
    | bad => rw [ea] at h; exact h
    | err c s1 => rw [ea] at h; exact h
    | ok d s1 =>
      rw [ea] at h
      simp only [Res.bind_ok] at h
      intro v H1 R1
      cases e1 : ownL (getSl s1.r i) with
      | none => simp only [e1] at h
      | some xs =>
        simp only [e1] at h
        obtain ⟨mm, ar, am, ao, ab, R2, rd⟩ := R1.one
        obtain ⟨l', us, ev', hs', q, f⟩ := R2.slotL e1
        rw [ev] at ev'
        cases ev'
        cases eg : g xs d with
        | none => simp only [eg] at h
        | some yy =>
          obtain ⟨y, ys⟩ := yy
          simp only [eg] at h
          exact hr hs' q rd eg fun w us' rw' ru => h w _ ((f ru).2 rw')
theorem s_app {m : M AV} {q : Pos} (hN : X.N[i]? = some x) (hv : Vis X.env.scope x) (he : PE X e (rdE X.K Γ W m))
    (hbm : ∀ {r : V → List V → Hp → VK → Prop} {to : TE} {t : TA}, MtR X "list.append" r → PE X (.Name x q) to → PA X [e] t → PE X (.Call (.Attribute (.Name x q) "append" apos) [e] [] cpos) (tBM X.K "list" r to t))
    (hd : (x == ("__debug__" : Str)) = false := by decide) (hcd : (x == ("__classdict__" : Str)) = false := by decide) (hs : starEach [e] X.env = (false, eval e X.env) :: starEach [] X.env := by rfl) : PE X (.Call (.Attribute (.Name x q) "append" apos) [e] [] cpos) (rdE X.K Γ W (eApp i m)) := by
  refine pe_imp (slotM (g := fun xs d => if xs.length < 16777216 then some (.non, xs ++ [d]) else none) hN hv he mt_append hd hcd hbm hs ?_) fun σ H Q h => ?_
  · intro l us xs ys v d y H W' mm Q h1 q rd eg hq
    split at eg
    · cases eg
      rename_i c
      exact ⟨l, us, v, rfl, rfl, h1, by rw [q.len, mx_eq]; exact c, hq .non _ (.non .nil) (q.app rd)⟩
    · cases eg
  · obtain ⟨st, p, R, h⟩ := h
    refine ⟨st, p, R, ?_⟩
    unfold eApp at h
    cases e0 : ownL (getSl st.r i) with
    | none => simp only [e0] at h
    | some xs0 =>
      simp only [e0] at h ⊢
      cases ea : m st with
      | bad => rw [ea] at h; exact h
      | err c s1 => rw [ea] at h; exact h
      | ok d s1 =>
        rw [ea] at h
        simp only [Res.bind_ok] at h ⊢
        cases e1 : ownL (getSl s1.r i) with
        | none => simp only [e1] at h
        | some xs =>
          simp only [e1] at h ⊢
          by_cases c : xs.length < 16777216
          · simp only [c, if_true] at h ⊢
            exact h
          · simp only [c, if_false] at h
theorem s_pop {m : M AV} {q : Pos} (hN : X.N[i]? = some x) (hv : Vis X.env.scope x) (he : PE X e (rdE X.K Γ W m))
    (hbm : ∀ {r : V → List V → Hp → VK → Prop} {to : TE} {t : TA}, MtR X "list.pop" r → PE X (.Name x q) to → PA X [e] t → PE X (.Call (.Attribute (.Name x q) "pop" apos) [e] [] cpos) (tBM X.K "list" r to t))
    (hd : (x == ("__debug__" : Str)) = false := by decide) (hcd : (x == ("__classdict__" : Str)) = false := by decide) (hs : starEach [e] X.env = (false, eval e X.env) :: starEach [] X.env := by rfl) : PE X (.Call (.Attribute (.Name x q) "pop" apos) [e] [] cpos) (rdE X.K Γ W (ePop i m)) := by
  refine slotM (g := popA) hN hv he mt_popAt hd hcd hbm hs ?_
  intro l us xs ys v d y H W' mm Q h1 q rd eg hq
  unfold popA at eg
  obtain ⟨k, ek, eg⟩ := Option.bind_eq_some_iff.mp eg
  split at eg
  · rename_i c
    obtain ⟨z, ez, e2⟩ := Option.map_eq_some_iff.mp eg
    cases e2
    cases d with
    | int k' =>
      cases ek
      obtain rfl := rd.int_i
      obtain ⟨u, a1, b, a2, eu, ea, r1, r2, r3⟩ := q.at_ ez
      obtain ⟨e1, e2⟩ := List.append_eq_nil_iff.mp ea.symm
      obtain ⟨e3, e4⟩ := List.append_eq_nil_iff.mp e2
      subst e1 e3 e4
      have hl := q.len
      have er : ∀ {α : Type} (zs : List α) (n : Nat), zs.eraseIdx n = zs.take n ++ zs.drop (n + 1) := fun zs n => List.eraseIdx_eq_take_drop_succ zs n
      refine ⟨l, us, k, k.toNat, u, rfl, rfl, h1, by omega, by omega, ?_, eu, hq u _ r2 (by rw [er, er]; exact r1.app r3)⟩
      have hix : ixN us.length k = some k.toNat := by
        unfold ixN
        rw [if_pos c.1, if_pos (by rw [hl]; exact c.2.1)]
      exact (ixN_seq hix).1
    | _ => cases ek
  · cases eg
/-! stores into slots' lists and dicts -/
def updA (k : Key) (d : AV) : List Key → List AV → List AV
  | k' :: ks, x :: xs => (if k' = k then d else x) :: updA k d ks xs
  | _, xs => xs
def hasK (ks : List Key) (k : Key) : Bool := ks.any fun k' => decide (k' = k)
def putKA (ks : List Key) (xs : List AV) (k : Key) (d : AV) : List Key × List AV := bif hasK ks k then (ks, updA k d ks xs) else (ks ++ [k], xs ++ [d])
theorem updA_v {W m : List Addr} {k : Key} {v : V} {d : AV} : ∀ {kvs : List (Key × V)} {ys : List AV}, Rp K H W m (kvs.map (·.2)) ys [] → Rp K H W m [v] [d] [] → Rp K H W m ((kvs.map fun kv => if kv.1 = k then (kv.1, v) else kv).map (·.2)) (updA k d (kvs.map (·.1)) ys) []
  | [], ys, r, rd => by
    obtain ⟨rfl, _⟩ := r.nil_inv'
    exact .nil
  | (k', v') :: kvs, [], r, rd => by cases r.nil_inv.1
  | (k', v') :: kvs, y :: ys, r, rd => by
    have r0 := Rp.head0 (show Rp K H W m (v' :: kvs.map (·.2)) (y :: ys) [] from r)
    have ih := updA_v (k := k) r0.2 rd
    by_cases c : k' = k
    · have h1 := rd.cons0 ih
      show Rp K H W m ((if k' = k then (k', v) else (k', v')).2 :: _) ((if k' = k then d else y) :: _) []
      rw [if_pos c, if_pos c]
      exact h1
    · have h1 := r0.1.cons0 ih
      show Rp K H W m ((if k' = k then (k', v) else (k', v')).2 :: _) ((if k' = k then d else y) :: _) []
      rw [if_neg c, if_neg c]
      exact h1
theorem putK_v {W m : List Addr} {k : Key} {v : V} {d : AV} {kvs : List (Key × V)} {ys : List AV} (r : Rp K H W m (kvs.map (·.2)) ys []) (rd : Rp K H W m [v] [d] []) : ((putK kvs k v).map (·.1)) = (putKA (kvs.map (·.1)) ys k d).1 ∧ Rp K H W m ((putK kvs k v).map (·.2)) (putKA (kvs.map (·.1)) ys k d).2 [] := by
  have ea : hasK (kvs.map (·.1)) k = (kvs.any fun kv => decide (kv.1 = k)) := by
    unfold hasK
    rw [List.any_map]
    rfl
  unfold putK putKA
  rw [ea]
  cases c : kvs.any fun kv => decide (kv.1 = k) with
  | true =>
    refine ⟨?_, updA_v r rd⟩
    show ((kvs.map fun kv => if kv.1 = k then (kv.1, v) else kv).map (·.1)) = kvs.map (·.1)
    rw [List.map_map]
    refine List.map_congr_left fun kv _ => ?_
    show (if kv.1 = k then (kv.1, v) else kv).1 = kv.1
    split <;> rfl
  | false =>
    rw [if_neg Bool.false_ne_true]
    refine ⟨by simp, ?_⟩
    show Rp K H W m ((kvs ++ [(k, v)]).map (·.2)) (ys ++ [d]) []
    rw [List.map_append]
    exact r.app rd
theorem Rl.slotD {m ar am ao ab : List Addr} {ks : List Key} {xs : List AV} (R : Rl K Γ σ H st p m ar am ao ab) (e : ownD (getSl st.r i) = some (ks, xs)) : ∃ l kvs, σ[i]? = some (some (.ref l)) ∧ H l = some (.dK kvs) ∧ kvs.map (·.1) = ks ∧ Rp K H (wOf Γ ar am ao) m (kvs.map (·.2)) xs [] ∧
    ∀ {kvs' : List (Key × V)} {ys : List AV}, Rp K H (wOf Γ ar am ao) m (kvs'.map (·.2)) ys [] → Rel K Γ σ (upd H l (.dK kvs')) (putD i (kvs'.map (·.1)) ys st) p.nob := by
  obtain ⟨v, b, ev, rv, _, f⟩ := R.wrSlot (ownD_eq e)
  cases rv with
  | @dcO l kvs _ _ _ _ _ hs ek q r0 =>
    obtain ⟨_, rfl⟩ := r0.nil_inv
    exact ⟨l, kvs, ev, hs, ek, q, fun {kvs' ys} r => f (q := l) (o := .dK kvs') (u := .dK kvs) (d' := AV.dct true (List.map (fun (z : Key × V) => z.1) kvs') ys) (by simp) hs rfl (fun _ z => by cases z) fun t h1 _ => Rp.dcO h1 rfl (t.rp0 r) .nil⟩
def setIx (xs : List AV) (y d : AV) : Option (List AV) := (asI y).bind fun k => (ixN xs.length k).map fun j => xs.set j d
def isOw : Sl → Bool
  | .ow _ => true
  | _ => false
/-- the list or dict in a slot gets a value at a place -/
def storeB (i : Nat) (y d : AV) (st : Ss) : Res Fl Ss := match ownL (getSl st.r i) with
  | some xs => (match setIx xs y d with
    | some ys => .ok .nx (putL i ys st)
    | none => .bad)
  | none => match ownD (getSl st.r i) with
    | some (ks, xs) => (match keyA y with
      | some k => if ks.length < 16777216 then .ok .nx (putD i (putKA ks xs k d).1 (putKA ks xs k d).2 st) else .bad
      | none => .bad)
    | none => .bad
/-- name[y] = value -/
def sSetB (i : Nat) (mk mv : M AV) : M Fl := fun st => (mv st).bind fun d s1 => bif isOw (getSl s1.r i) then (mk s1).bind fun y s2 => storeB i y d s2 else .bad
theorem ps_or {s : Stmt} {a b : TS} (h1 : PS X s a) (h2 : PS X s b) : PS X s (fun D σ H => a D σ H ∨ b D σ H) :=
  ⟨fun pins s σ H D I h => h.elim (fun q => h1.run pins s σ H D I q) (fun q => h2.run pins s σ H D I q)⟩
theorem isOw_v {m ar am ao ab : List Addr} (R : Rl K Γ σ H st p m ar am ao ab) (e : isOw (getSl st.r i) = true) : ∃ v, σ[i]? = some (some v) := by
  cases eg : getSl st.r i with
  | ow d =>
    obtain ⟨v, _, _, _, ev, _⟩ := R.rs.getOw eg
    exact ⟨v, ev⟩
  | _ => rw [eg] at e; cases e
theorem s_setB {ek ev : Expr} {mk mv : M AV} {q pos' : Pos} (hN : X.N[i]? = some x) (hv : Vis X.env.scope x) (hu : X.A.units + 1 < cLine) (he : PE X ev (rdE X.K Γ W mv)) (hk : PE X ek (rdE X.K Γ W mk))
    (hd : (x == ("__debug__" : Str)) = false := by decide) (hcd : (x == ("__classdict__" : Str)) = false := by decide)
    (hsw : swapsWith ev (some (.Subscript (.Name x q) ek pos')) pos.line X.env = pure false := by rfl)
    (hs1 : swapsWithSole [.Subscript (.Name x q) ek pos'] ev pos.line X.env = pure false := by rfl) (hw1 : swappedStores [.Subscript (.Name x q) ek pos'] ev X.env = pure none := by rfl)
    (ha : ∀ v, assign (.Subscript (.Name x q) ek pos') X.env v = (do
      let ov ← holding [v] (eval (.Name x q) X.env)
      let iv ← holding [v, ov] (eval ek X.env)
      standAt pos'
      holding [v, ov, iv] (setItem ov iv v)
      release [v, ov, iv] []) := by intro _; rfl) : PS X (.Assign [.Subscript (.Name x q) ek pos'] ev pos) (rdS X.K Γ W (sSetB i mk mv)) := by
  have h1 : PS X (.Assign [.Subscript (.Name x q) ek pos'] ev pos) (tAsg (rdE X.K Γ W mv) (gSub (tVar i) (rdE X.K Γ W mk) rSetL)) := ps_asg he (pg_sub (pe_var hN hv hd hcd) hk set_list ha) hs1 hw1
  have h2 : PS X (.Assign [.Subscript (.Name x q) ek pos'] ev pos) (sDPut (tVar i) (rdE X.K Γ W mk) (rdE X.K Γ W mv)) := ps_dput hu (pe_var hN hv hd hcd) hk he hsw
  refine ps_imp (ps_or h1 h2) fun D σ H h => ?_
  obtain ⟨st, p, R, hp, h⟩ := h
  unfold sSetB at h
  -- value, place, then what is done with them
  have main : ∀ k : V → V → V → Hp → Prop, (∀ d s1 y s2, mv st = .ok d s1 → mk s1 = .ok y s2 → ∀ v o w' H2, σ[i]? = some (some o) → Rel X.K Γ σ H2 s2 ((p.nob.sh v d).sh w' y) → k v o w' H2) →
      rdE X.K Γ W mv σ H fun v H1 => tVar i σ H1 fun o H2 => rdE X.K Γ W mk σ H2 fun y H3 => k v o y H3 := by
    intro k hk'
    refine ⟨st, p, R, ?_⟩
    cases ea : mv st with
    | bad => rw [ea] at h; exact h
    | err c s1 => rw [ea] at h; exact fun H' R' => h σ H' (hp ▸ R')
    | ok d s1 =>
      rw [ea] at h
      simp only [Res.bind_ok] at h
      cases eo : isOw (getSl s1.r i) with
      | false => simp only [eo, cond_false] at h
      | true =>
        simp only [eo, cond_true] at h
        intro v H1 R1
        have Rc := R1
        obtain ⟨mm, ar, am, ao, ab, R2⟩ := Rc
        obtain ⟨o, ev⟩ := isOw_v R2 eo
        refine ⟨o, ev, s1, _, R1, ?_⟩
        cases ek' : mk s1 with
        | bad => rw [ek'] at h; exact h
        | err c s2 => rw [ek'] at h; exact fun H2 R3 => h σ H2 (hp ▸ R3.drop)
        | ok y s2 => exact fun w' H2 R3 => hk' d s1 y s2 ea ek' v o w' H2 ev R3
  cases ea : mv st with
  | bad => rw [ea] at h; exact h.elim
  | err c s1 =>
    refine .inl (main _ fun d s1 y s2 e1 => ?_)
    rw [ea] at e1; cases e1
  | ok d s1 =>
    rw [ea] at h
    simp only [Res.bind_ok] at h
    cases eo : isOw (getSl s1.r i) with
    | false => simp only [eo, cond_false] at h
    | true =>
      simp only [eo, cond_true] at h
      cases ek' : mk s1 with
      | bad => rw [ek'] at h; exact h.elim
      | err c s2 =>
        refine .inl (main _ fun d s1 y s2 e1 e2 => ?_)
        rw [ea] at e1; cases e1
        rw [ek'] at e2; cases e2
      | ok y s2 =>
        rw [ek'] at h
        simp only [Res.bind_ok, storeB] at h
        cases e1 : ownL (getSl s2.r i) with
        | some xs =>
          simp only [e1] at h
          cases e2 : setIx xs y d with
          | none => simp only [e2] at h
          | some ys =>
            simp only [e2] at h
            refine .inl (main _ fun d' s1' y' s2' c1 c2 v o w' H2 ev R3 => ?_)
            rw [ea] at c1; cases c1
            rw [ek'] at c2; cases c2
            obtain ⟨mm, ar, am, ao, ab, R4, rd, ry⟩ := R3.two
            obtain ⟨l, us, ev', hs', q', f⟩ := R4.slotL e1
            rw [ev] at ev'
            cases ev'
            obtain ⟨k, ek2, e3⟩ := Option.bind_eq_some_iff.mp e2
            obtain ⟨j, ej, e4⟩ := Option.map_eq_some_iff.mp e3
            subst e4
            cases y with
            | int k' =>
              cases ek2
              obtain rfl := ry.int_i
              have hj := (ixN_seq ej).2.1
              refine ⟨l, us, k, j, rfl, rfl, hs', by rw [q'.len]; exact ej, h σ _ (hp ▸ (f ?_).1)⟩
              obtain ⟨xj, exj⟩ : ∃ xj, xs[j]? = some xj := ⟨xs[j], by simp [hj]⟩
              obtain ⟨u, a1, b, a2, eu, ea', r1, r2, r3⟩ := q'.at_ exj
              obtain ⟨z1, z2⟩ := List.append_eq_nil_iff.mp ea'.symm
              obtain ⟨z3, z4⟩ := List.append_eq_nil_iff.mp z2
              subst z1 z3 z4
              exact Rp.put hj r1 rd r3 q'.len
            | _ => cases ek2
        | none =>
          simp only [e1] at h
          cases e2 : ownD (getSl s2.r i) with
          | none => simp only [e2] at h
          | some kx =>
            obtain ⟨ks, xs⟩ := kx
            simp only [e2] at h
            cases e3 : keyA y with
            | none => simp only [e3] at h
            | some k =>
              simp only [e3] at h
              by_cases cz : ks.length < 16777216
              · simp only [cz, if_true] at h
                refine .inr (main (fun v o y H3 => ∃ a H4, o = .ref a ∧ DPut H3 a y v H4 ∧ D.nx σ H4) fun d' s1' y' s2' c1 c2 v o w' H2 ev R3 => ?_)
                rw [ea] at c1; cases c1
                rw [ek'] at c2; cases c2
                obtain ⟨mm, ar, am, ao, ab, R4, rd, ry⟩ := R3.two
                obtain ⟨l, kvs, ev', hs', ek3, q', f⟩ := R4.slotD e2
                rw [ev] at ev'
                cases ev'
                subst ek3
                obtain ⟨p1, p2⟩ := putK_v (k := k) q' rd
                have R5 := f p2
                rw [p1] at R5
                refine ⟨l, _, rfl, ?_, h σ _ (hp ▸ R5)⟩
                rw [keyA_v ry e3]
                exact DPut.k hs' (by rw [mx_eq]; simpa using cz)
              · simp only [cz, if_false] at h
end
end Fk
/-! ## objects: fields, methods, making -/
namespace Fk
open PySem PySem.Spec PyProof.Rows L2
def getF : List Str → List AV → Str → Option AV
  | k :: ks, x :: xs, f => if k = f then some x else getF ks xs f
  | _, _, _ => none
def insOf : AV → Option (Str × List Str × List AV)
  | .ins C ks xs => some (C, ks, xs)
  | _ => none
/-- a field of the object behind a value -/
def fldA (S : List AV) (C f : Str) (x : AV) : Option AV := ((deref S x).bind insOf).bind fun t => if t.1 = C then getF t.2.1 t.2.2 f else none
def pFld (C f : Str) (m : Ss → Option AV) : Ss → Option AV := fun st => (m st).bind fun x => fldA st.s C f x
section
variable {K : PySem.W.Frag} {H : Hp} {W m as : List Addr} {v : V} {x d : AV} {Γ : Gam} {σ : L2.St} {st : Ss} {p : Pd} {ar am ao ab : List Addr}
end
section
variable {X : Cx} {Γ : Gam} {W : WX} {σ : L2.St} {H : Hp} {st : Ss} {p : Pd} {K : PySem.W.Frag} {pos apos cpos : Pos} {e : Expr} {x : Str} {i : Nat} {C f : Str} {fs : List Str}
/-! ### stores -/
def putFA : List Str → List AV → Str → AV → List Str × List AV
  | k :: ks, x :: xs, f, d => if k = f then (k :: ks, d :: xs) else (k :: (putFA ks xs f d).1, x :: (putFA ks xs f d).2)
  | _, _, f, d => ([f], [d])
def locOf : AV → Option Nat
  | .loc l => some l
  | _ => none
/-- a field given a value, the state behind it -/
def putFld (C f : Str) (x d : AV) (st : Ss) : Option Ss := (locOf x).bind fun l => ((st.s[l]?).bind insOf).bind fun t => if t.1 = C ∧ t.2.1.length < 1000 then some ⟨st.r, st.s.set l (.ins C (putFA t.2.1 t.2.2 f d).1 (putFA t.2.1 t.2.2 f d).2)⟩ else none
/-- e.f = value, the object looked at -/
def sFld (C f : Str) (mo : Ss → Option AV) (mv : M AV) : M Fl := fun st => (mv st).bind fun d s1 => match (mo s1).bind fun x => putFld C f x d s1 with
  | some s2 => .ok .nx s2
  | none => .bad
end
end Fk
/-! ## objects are made, their parts are written -/
namespace Fk
open PySem PySem.Spec PyProof.Rows L2
/-- one of two ways -/
def mAlt {α : Type} (a b : M α) : M α := fun st => match a st with
  | .bad => b st
  | r => r
section
variable {X : Cx} {Γ : Gam} {W : WX} {e : Expr} {s : Stmt}
end
/-- owned kinds -/
def ownA : AV → Bool
  | .lst o _ => o
  | .dct o _ _ => o
  | .nst _ => true
  | .ndc _ _ => true
  | .ins _ _ _ => true
  | _ => false
section
variable {K : PySem.W.Frag} {H : Hp} {W m as : List Addr} {v : V} {x d z : AV} {Γ : Gam} {σ : L2.St} {st : Ss} {p : Pd} {ar am ao ab : List Addr}
theorem own_ref (r : Rp K H W m [v] [x] as) (h : ownA x = true) : ∃ a, v = .ref a ∧ a ∈ as := by
  cases r with
  | lsI _ _ _ _ => cases h
  | dcI _ _ _ _ _ => cases h
  | lsO _ _ _ => exact ⟨_, rfl, by simp⟩
  | dcO _ _ _ _ => exact ⟨_, rfl, by simp⟩
  | nst _ _ _ => exact ⟨_, rfl, by simp⟩
  | ndc _ _ _ _ => exact ⟨_, rfl, by simp⟩
  | ins _ _ _ _ => exact ⟨_, rfl, by simp⟩
  | _ => cases h
/-- a pending owned thing becomes an object by itself -/
theorem Rel.prom (R : Rel K Γ σ H st (p.own v d)) (h : ownA d = true) : Rel K Γ σ H ⟨st.r, st.s ++ [d]⟩ (p.sh v (.loc st.s.length)) := by
  obtain ⟨m, ar, am, ao, ab, R⟩ := R
  obtain ⟨cs, ao', eo, rd, ro'⟩ := R.ro.head
  obtain ⟨a, rfl, ha⟩ := own_ref rd h
  subst eo
  have nd := R.nd
  have fr := R.fr
  have hl := R.rm.len
  rw [List.length_map] at hl
  have hm : ∀ (l : Nat) b, m[l]? = some b → (m ++ [a])[l]? = some b := fun l b e => by
    rw [List.getElem?_append_left (List.getElem?_eq_some_iff.mp e).1]; exact e
  have t : Tr H H (wOf Γ ar am (cs ++ ao')) (wOf Γ ar (am ++ cs) ao') m (m ++ [a]) [] := ⟨Kp.refl, (fun _ z => nomatch z), fun b _ n z => n (by
    simp only [wOf, List.mem_append] at z ⊢
    grind), hm⟩
  refine ⟨m ++ [a], ar, am ++ cs, ao', ab, t.rs R.rs (fun _ _ z => nomatch z), ?_, ?_, t.rp ro' (fun _ _ z => nomatch z), t.rp R.rb (fun _ _ z => nomatch z), ?_, ?_, R.kp, fun l b e => hm l b (R.pm l b e), R.gu, R.tb⟩
  · rw [List.map_append]
    exact (t.rp R.rm (fun _ _ z => nomatch z)).app (t.rp rd (fun _ _ z => nomatch z))
  · refine Rp.cons0 (.loc ?_ .nil) (t.rp0 R.ri)
    rw [← hl, List.getElem?_append_right (Nat.le_refl _)]
    simp
  · have e : wOf Γ ar (am ++ cs) ao' = wOf Γ ar am (cs ++ ao') := by simp [wOf, List.append_assoc]
    rw [e]
    exact nd
  · intro c hc
    have := fr c
    simp only [List.mem_append] at this hc
    grind
/-- an object's own thing is written: it may take over what is pending -/
theorem Rl.wrG {cs ao' : List Addr} {ov' : List V} {ox' : List AV} {l : Nat} (R : Rl K Γ σ H st p m ar am ao ab) (e : st.s[l]? = some z) (ro' : Rp K H (wOf Γ ar am ao) m ov' ox' ao') (eo : ao = cs ++ ao') : ∃ a b, m[l]? = some a ∧ Rp K H (wOf Γ ar am ao) m [.ref a] [z] b ∧ (b ++ cs).Nodup ∧
    ∀ {q : Addr} {o u : HO} {z' : AV} {b' : List Addr}, q ∈ b → H q = some u → mutO u = true → NoTbl o → (∀ c ∈ b', c ∈ b ∨ c ∈ cs) → b'.Nodup → (∀ {H' : Hp} {W' : List Addr}, Tr H H' (wOf Γ ar am ao) W' m m [q] → H' q = some o → Rp K H' W' m [.ref a] [z'] b') →
      Rel K Γ σ (upd H q o) ⟨st.r, st.s.set l z'⟩ { p.nob with ov := ov', ox := ox' } := by
  obtain ⟨v, a1, b, a2, ev, ea, r1, rv, r3⟩ := R.rm.at_ e
  rw [List.getElem?_map] at ev
  obtain ⟨a, em, rfl⟩ := Option.map_eq_some_iff.mp ev
  have nd := R.nd
  have fr := R.fr
  refine ⟨a, b, em, rv, ?_, ?_⟩
  · simp only [wOf, ea, eo, List.nodup_append, List.mem_append] at nd ⊢
    grind
  intro q o u z' b' hq hu hm no pm pnd hr
  have hqw : q ∈ wOf Γ ar am ao := by simp only [wOf, ea, List.mem_append]; grind
  have t : Tr H (upd H q o) (wOf Γ ar am ao) (wOf Γ ar (a1 ++ (b' ++ a2)) ao') m m [q] := Tr.put hu hm hqw fun c z => by
    have := pm c
    simp only [wOf, ea, eo, List.mem_append] at z ⊢
    grind
  have n0 : ∀ c ∈ ar, c ∉ [q] := fun c hc z => by
    simp only [wOf, ea, List.nodup_append, List.mem_append, List.mem_singleton] at nd z
    grind
  have n1 : ∀ c ∈ a1, c ∉ [q] := fun c hc z => by
    simp only [wOf, ea, List.nodup_append, List.mem_append, List.mem_singleton] at nd z
    grind
  have n2 : ∀ c ∈ a2, c ∉ [q] := fun c hc z => by
    simp only [wOf, ea, List.nodup_append, List.mem_append, List.mem_singleton] at nd z
    grind
  have n3 : ∀ c ∈ ao', c ∉ [q] := fun c hc z => by
    simp only [wOf, ea, eo, List.nodup_append, List.mem_append, List.mem_singleton] at nd z
    grind
  have hl : l < st.s.length := (List.getElem?_eq_some_iff.mp e).1
  have rm' : Rp K (upd H q o) (wOf Γ ar (a1 ++ (b' ++ a2)) ao') m (m.map V.ref) (st.s.set l z') (a1 ++ (b' ++ a2)) := by
    have h1 := Rp.put (v := .ref a) (x := z') hl (t.rp r1 n1) (hr t upd_same) (t.rp r3 n2) R.rm.len
    have e2 : (m.map V.ref).set l (.ref a) = m.map V.ref := by
      apply List.ext_getElem?
      intro j
      by_cases c : l = j
      · subst c
        rw [List.getElem?_set_self (by rw [R.rm.len]; exact hl), List.getElem?_map, em]
        rfl
      · rw [List.getElem?_set_ne c]
    rw [e2] at h1
    exact h1
  refine ⟨m, ar, a1 ++ (b' ++ a2), ao', [], t.rs R.rs n0, rm', t.rp0 R.ri, t.rp ro' n3, .nil, ?_, ?_, ?_, R.pm, R.gu, tabs_put R.tb hu hm no⟩
  · simp only [wOf, ea, eo, List.nodup_append, List.mem_append] at nd ⊢
    grind
  · intro c hc
    have h1 := fr c
    have h2 := pm c
    simp only [ea, eo, List.mem_append] at hc h1
    grind
  · intro a' o' e' n'
    obtain ⟨o2, e2, f2⟩ := R.kp a' o' e' n'
    have ne : a' ≠ q := by
      rintro rfl
      rcases fr a' (by simp only [ea, List.mem_append]; grind) with z | z
      · exact n' z
      · rw [e'] at z; cases z
    exact ⟨o2, by rw [upd_ne ne]; exact e2, f2⟩
/-! ### places: an object, or a field of it -/
def setFA : List Str → List AV → Str → AV → List AV
  | k :: ks, x :: xs, f, d => if k = f then d :: xs else x :: setFA ks xs f d
  | _, xs, _, _ => xs
theorem lensF {f : Str} : ∀ {fs : List (Str × V)} {ys : List AV} {bs : List Addr}, Rp K H W m (fs.map (·.2)) ys bs → getF (fs.map (·.1)) ys f = some x → ∃ u b1 b2 b3, fs.lookup f = some u ∧ bs = b1 ++ (b2 ++ b3) ∧ Rp K H W m [u] [x] b2 ∧
    ∀ {H' : Hp} {W' m' b2' : List Addr} {x' : AV}, (∀ {vs : List V} {xs : List AV} {as : List Addr}, Rp K H W m vs xs as → (∀ c ∈ as, c ∈ b1 ∨ c ∈ b3) → Rp K H' W' m' vs xs as) → Rp K H' W' m' [u] [x'] b2' → Rp K H' W' m' (fs.map (·.2)) (setFA (fs.map (·.1)) ys f x') (b1 ++ (b2' ++ b3))
  | [], ys, bs, r, e => by cases ys <;> cases e
  | (k', v) :: fs, [], bs, r, e => by cases e
  | (k', v) :: fs, z :: ys, bs, r, e => by
    obtain ⟨c1, c2, ea, r1, r2⟩ := Rp.head (show Rp K H W m (v :: fs.map (·.2)) (z :: ys) bs from r)
    have e2 : (if k' = f then some z else getF (fs.map (·.1)) ys f) = some x := e
    by_cases c : k' = f
    · rw [if_pos c] at e2
      cases e2
      refine ⟨v, [], c1, c2, ?_, by simpa using ea, r1, fun {H' W' m' b2' x'} tr rx => ?_⟩
      · rw [List.lookup_cons, c, beq_self_eq_true]
      · show Rp K H' W' m' (v :: fs.map (·.2)) (if k' = f then x' :: ys else _) ([] ++ (b2' ++ c2))
        rw [if_pos c]
        exact rx.cons (tr r2 fun c hc => .inr hc)
    · rw [if_neg c] at e2
      obtain ⟨u, b1, b2, b3, hl, eb, ru, g⟩ := lensF r2 e2
      refine ⟨u, c1 ++ b1, b2, b3, ?_, by rw [ea, eb, List.append_assoc], ru, fun {H' W' m' b2' x'} tr rx => ?_⟩
      · rw [List.lookup_cons, beq_eq_false_iff_ne.mpr (fun z => c z.symm)]
        exact hl
      · show Rp K H' W' m' (v :: fs.map (·.2)) (if k' = f then x' :: ys else z :: setFA (fs.map (·.1)) ys f x') ((c1 ++ b1) ++ (b2' ++ b3))
        rw [if_neg c, List.append_assoc]
        exact (tr r1 fun c hc => .inl (by simp [hc])).cons (g (fun q hq => tr q fun c hc => by
          have := hq c hc
          simp only [List.mem_append]
          grind) rx)
/-- a place -/
def getPl (S : List AV) (l : Nat) : Option (Str × Str) → Option AV
  | none => S[l]?
  | some (C, f) => ((S[l]?).bind insOf).bind fun t => if t.1 = C then getF t.2.1 t.2.2 f else none
def setPl (S : List AV) (l : Nat) (fo : Option (Str × Str)) (d : AV) : List AV := match fo with
  | none => S.set l d
  | some (_, f) => match (S[l]?).bind insOf with
    | some (C, ks, ys) => S.set l (.ins C ks (setFA ks ys f d))
    | none => S
/-- where a place stands -/
def AtPl (K : PySem.W.Frag) (H : Hp) (m : List Addr) (l : Nat) (a : Addr) : Option (Str × Str) → Prop
  | none => m[l]? = some a
  | some (C, f) => ∃ a0 dx fs, m[l]? = some a0 ∧ H a0 = some (.ins (He.ga K C) dx fs) ∧ fs.lookup f = some (.ref a)
theorem Rl.place {cs ao' : List Addr} {ov' : List V} {ox' : List AV} {l : Nat} {fo : Option (Str × Str)} (R : Rl K Γ σ H st p m ar am ao ab) (e : getPl st.s l fo = some z) (hz : ownA z = true) (ro' : Rp K H (wOf Γ ar am ao) m ov' ox' ao') (eo : ao = cs ++ ao') : ∃ a b, AtPl K H m l a fo ∧ Rp K H (wOf Γ ar am ao) m [.ref a] [z] b ∧ a ∈ b ∧ (b ++ cs).Nodup ∧
    ∀ {o u : HO} {z' : AV} {b' : List Addr}, H a = some u → mutO u = true → NoTbl o → (∀ c ∈ b', c ∈ b ∨ c ∈ cs) → b'.Nodup → (∀ {H' : Hp} {W' : List Addr}, Tr H H' (wOf Γ ar am ao) W' m m [a] → H' a = some o → Rp K H' W' m [.ref a] [z'] b') →
      Rel K Γ σ (upd H a o) ⟨st.r, setPl st.s l fo z'⟩ { p.nob with ov := ov', ox := ox' } := by
  cases fo with
  | none =>
    obtain ⟨a, b, em, rv, nd, f⟩ := R.wrG (cs := cs) (ao' := ao') e ro' eo
    obtain ⟨a', e', hin⟩ := own_ref rv hz
    cases e'
    exact ⟨a, b, em, rv, hin, nd, fun {o u z' b'} hu hm no pm pnd hr => f hin hu hm no pm pnd hr⟩
  | some cf =>
    obtain ⟨C, f⟩ := cf
    obtain ⟨⟨C', ks, ys⟩, e1, e2⟩ := Option.bind_eq_some_iff.mp e
    obtain ⟨t, et, ei⟩ := Option.bind_eq_some_iff.mp e1
    have e3 : (if C' = C then getF ks ys f else none) = some z := e2
    by_cases c : C' = C
    · subst c
      rw [if_pos rfl] at e3
      cases t with
      | ins C2 k2 y2 =>
        cases ei
        obtain ⟨a0, b0, em, rv, nd, g⟩ := R.wrG (cs := cs) (ao' := ao') et ro' eo
        cases rv with
        | @ins _ _ dx fs _ _ bs _ _ as0 hs ek q r0 =>
          obtain ⟨_, rfl⟩ := r0.nil_inv
          subst ek
          obtain ⟨u, b1, b2, b3, hl, eb, ru, gl⟩ := lensF q e3
          obtain ⟨a, rfl, hin⟩ := own_ref ru hz
          subst eb
          have ndb : (b1 ++ (b2 ++ b3)).Nodup ∧ a0 ∉ b1 ++ (b2 ++ b3) := by
            simp only [List.nodup_append, List.nodup_cons, List.mem_append, List.append_nil, List.cons_append] at nd ⊢
            grind
          refine ⟨a, b2, ⟨a0, dx, fs, em, hs, hl⟩, ru, hin, ?_, fun {o u z' b'} hu hm no pm pnd hr => ?_⟩
          · simp only [List.nodup_append, List.nodup_cons, List.mem_append, List.append_nil, List.cons_append] at nd ⊢
            grind
          · have es : setPl st.s l (some (C', f)) z' = st.s.set l (.ins C' (fs.map (·.1)) (setFA (fs.map (·.1)) ys f z')) := by
              unfold setPl
              rw [et]
              rfl
            rw [es]
            have na : a ≠ a0 := fun z => ndb.2 (by subst z; simp [hin])
            refine g (q := a) (b' := a0 :: (b1 ++ (b' ++ b3))) (by simp [hin]) hu hm no (fun c hc => ?_) ?_ (fun {H' W'} t hq => ?_)
            · have := pm c
              simp only [List.mem_cons, List.mem_append, List.append_nil] at hc ⊢
              grind
            · simp only [List.nodup_append, List.nodup_cons, List.mem_append, List.mem_cons, List.append_nil, List.cons_append] at nd pm pnd ⊢
              grind
            · have hs' : H' a0 = some (.ins (He.ga K C') dx fs) := t.k.keep a0 _ hs (by simp [Ne.symm na]) (fun ps z => by cases z)
              have q' := gl (H' := H') (W' := W') (m' := m) (x' := z') (fun rr hrr => t.rp rr fun c hc z => by
                have z1 : c = a := by simpa using z
                subst z1
                have z2 := hrr c hc
                have z3 := ndb.1
                simp only [List.nodup_append, List.mem_append] at z3
                grind) (hr t hq)
              have h1 := Rp.ins (K := K) (m := m) (W := W') (vs := []) (xs := []) (as := []) hs' rfl q' .nil
              simpa using h1
      | _ => cases ei
    · rw [if_neg c] at e3
      cases e3
end
end Fk
/-! ## stores at places -/
namespace Fk
open PySem PySem.Spec PyProof.Rows L2
/-- a thing with a value put at a place of it; w: the value is an owned one -/
def setZ : Bool → AV → AV → AV → Option AV
  | false, .lst true xs, y, d => (setIx xs y d).map (AV.lst true)
  | false, .dct true ks xs, y, d => (keyA y).bind fun k => if ks.length < 16777216 then some (.dct true (putKA ks xs k d).1 (putKA ks xs k d).2) else none
  | true, .nst xs, y, d => (setIx xs y d).map AV.nst
  | _, _, _, _ => none
def isD : AV → Bool
  | .dct _ _ _ => true
  | _ => false
theorem setZ_own {w : Bool} {z y d z' : AV} (h : setZ w z y d = some z') : ownA z = true := by
  unfold setZ at h
  split at h
  · rfl
  · rfl
  · rfl
  · cases h
section
variable {K : PySem.W.Frag} {H : Hp} {W m as : List Addr} {v vy : V} {x y d z z' : AV} {Γ : Gam} {σ : L2.St} {st : Ss} {p : Pd} {ar am ao ab : List Addr}
theorem setIx_inv {xs ys : List AV} (r : Rp K H W m [vy] [y] as) (h : setIx xs y d = some ys) : ∃ k j, vy = .int k ∧ ixN xs.length k = some j ∧ j < xs.length ∧ ys = xs.set j d := by
  obtain ⟨k, ek, h⟩ := Option.bind_eq_some_iff.mp h
  obtain ⟨j, ej, rfl⟩ := Option.map_eq_some_iff.mp h
  cases y with
  | int k' =>
    cases ek
    exact ⟨k, j, r.int_i, ej, (ixN_seq ej).2.1, rfl⟩
  | _ => cases ek
theorem Rl.store {cs ao' c1 : List Addr} {ov' : List V} {ox' : List AV} {l : Nat} {fo : Option (Str × Str)} {w : Bool} (R : Rl K Γ σ H st p m ar am ao ab) (e : getPl st.s l fo = some z) (rd : Rp K H (wOf Γ ar am ao) m [v] [d] cs) (hw : w = false → cs = []) (ro' : Rp K H (wOf Γ ar am ao) m ov' ox' ao') (eo : ao = cs ++ ao')
    (ry : Rp K H (wOf Γ ar am ao) m [vy] [y] c1) (es : setZ w z y d = some z') : ∃ a o, AtPl K H m l a fo ∧ Rel K Γ σ (upd H a o) ⟨st.r, setPl st.s l fo z'⟩ { p.nob with ov := ov', ox := ox' } ∧
      ((isD z = false ∧ ∃ us k j, vy = .int k ∧ H a = some (.lst us) ∧ ixN us.length k = some j ∧ o = .lst (us.set j v)) ∨ (isD z = true ∧ DPut H a vy v (upd H a o))) := by
  obtain ⟨a, b, hat, rz, hin, nd, f⟩ := R.place (cs := cs) (ao' := ao') e (setZ_own es) ro' eo
  unfold setZ at es
  split at es
  · obtain ⟨ys, e1, rfl⟩ := Option.map_eq_some_iff.mp es
    obtain ⟨k, j, rfl, ej, hj, rfl⟩ := setIx_inv ry e1
    obtain rfl := hw rfl
    cases rz with
    | @lsO _ us _ _ _ as0 hs q r0 =>
      obtain ⟨_, rfl⟩ := r0.nil_inv
      refine ⟨a, .lst (us.set j v), hat, f (b' := [a]) hs rfl (fun _ z => by cases z) (fun c hc => .inl hc) (by simp) (fun {H' W'} t h1 => ?_), .inl ⟨rfl, us, k, j, rfl, hs, by rw [q.len]; exact ej, rfl⟩⟩
      obtain ⟨xj, exj⟩ : ∃ xj, ‹List AV›[j]? = some xj := ⟨_, List.getElem?_eq_getElem hj⟩
      obtain ⟨u, b1, b2, b3, eu, ea', r1, r2, r3⟩ := q.at_ exj
      obtain ⟨z1, z2⟩ := List.append_eq_nil_iff.mp ea'.symm
      obtain ⟨z3, z4⟩ := List.append_eq_nil_iff.mp z2
      subst z1 z3 z4
      exact .lsO h1 (t.rp0 (Rp.put hj r1 rd r3 q.len)) .nil
  · rename_i ks xs
    obtain ⟨k, ek, e1⟩ := Option.bind_eq_some_iff.mp es
    split at e1
    · cases e1
      rename_i cz
      obtain rfl := hw rfl
      cases rz with
      | @dcO _ kvs _ _ _ _ as0 hs ek3 q r0 =>
        obtain ⟨_, rfl⟩ := r0.nil_inv
        subst ek3
        obtain ⟨p1, p2⟩ := putK_v (k := k) q rd
        refine ⟨a, .dK (putK kvs k v), hat, f (b' := [a]) hs rfl (fun _ z => by cases z) (fun c hc => .inl hc) (by simp) (fun {H' W'} t h1 => ?_), .inr ⟨rfl, ?_⟩⟩
        · exact .dcO h1 p1 (t.rp0 p2) .nil
        · rw [keyA_v ry ek]
          exact DPut.k hs (by rw [mx_eq]; simpa using cz)
    · cases e1
  · obtain ⟨ys, e1, rfl⟩ := Option.map_eq_some_iff.mp es
    obtain ⟨k, j, rfl, ej, hj, rfl⟩ := setIx_inv ry e1
    cases rz with
    | @nst _ us _ bs _ _ as0 hs q r0 =>
      obtain ⟨_, rfl⟩ := r0.nil_inv
      rw [List.append_nil] at nd hin f
      obtain ⟨xj, exj⟩ : ∃ xj, ‹List AV›[j]? = some xj := ⟨_, List.getElem?_eq_getElem hj⟩
      obtain ⟨u, b1, b2, b3, eu, ea', r1, r2, r3⟩ := q.at_ exj
      subst ea'
      refine ⟨a, .lst (us.set j v), hat, f (b' := a :: (b1 ++ (cs ++ b3))) hs rfl (fun _ z => by cases z) (fun c hc => ?_) ?_ (fun {H' W'} t h1 => ?_), .inl ⟨rfl, us, k, j, rfl, hs, by rw [q.len]; exact ej, rfl⟩⟩
      · simp only [List.mem_cons, List.mem_append] at hc ⊢
        grind
      · simp only [List.nodup_append, List.nodup_cons, List.mem_append, List.mem_cons, List.cons_append] at nd ⊢
        grind
      · have n1 : ∀ c ∈ b1, c ∉ [a] := fun c hc z => by
          simp only [List.nodup_append, List.nodup_cons, List.mem_append, List.mem_cons, List.cons_append, List.mem_singleton] at nd z
          grind
        have n2 : ∀ c ∈ b3, c ∉ [a] := fun c hc z => by
          simp only [List.nodup_append, List.nodup_cons, List.mem_append, List.mem_cons, List.cons_append, List.mem_singleton] at nd z
          grind
        have n3 : ∀ c ∈ cs, c ∉ [a] := fun c hc z => by
          simp only [List.nodup_append, List.nodup_cons, List.mem_append, List.mem_cons, List.cons_append, List.mem_singleton] at nd z
          grind
        have h2 := Rp.nst (K := K) (m := m) (W := W') (vs := []) (xs := []) (as := []) h1 (Rp.put hj (t.rp r1 n1) (t.rp rd n3) (t.rp r3 n2) q.len) .nil
        simpa using h2
  · cases es
end
/-- the place that an expression names: an object (fo none) or a field of one -/
def AtH (K : PySem.W.Frag) (H : Hp) (a0 a : Addr) : Option (Str × Str) → Prop
  | none => a = a0
  | some (C, f) => ∃ dx fs, H a0 = some (.ins (He.ga K C) dx fs) ∧ fs.lookup f = some (.ref a)
def rdB (K : PySem.W.Frag) (Γ : Gam) (mo : Ss → Option AV) (fo : Option (Str × Str)) : TE := fun σ H Q => ∃ st p l z, Rel K Γ σ H st p ∧ mo st = some (.loc l) ∧ getPl st.s l fo = some z ∧ ownA z = true ∧ ∀ a a0, Rel K Γ σ H st (p.lk (.ref a0) (.loc l)) → AtH K H a0 a fo → Q (.ref a) H
section
variable {X : Cx} {Γ : Gam} {W : WX} {σ : L2.St} {H : Hp} {st : Ss} {p : Pd} {K : PySem.W.Frag} {pos apos cpos : Pos} {o o' : Expr} {x : Str} {i : Nat} {C f : Str} {fs : List Str} {mo mk : Ss → Option AV}
theorem at_of {m : List Addr} {l : Nat} {a a' a0 : Addr} {fo : Option (Str × Str)} (h : AtH K H a0 a fo) (h2 : AtPl K H m l a' fo) (e : m[l]? = some a0) : a' = a := by
  cases fo with
  | none =>
    have e2 : m[l]? = some a' := h2
    rw [e] at e2
    cases e2
    exact h.symm
  | some cf =>
    obtain ⟨C, f⟩ := cf
    obtain ⟨dx, gs, h1, hl⟩ := h
    obtain ⟨b0, dx', gs', e2, h1', hl'⟩ := h2
    rw [e] at e2
    cases e2
    rw [h1] at h1'
    cases h1'
    rw [hl] at hl'
    cases hl'
    rfl
theorem s_b0 (h : PE X o (rdP X.K Γ mo)) : PE X o (rdB X.K Γ mo none) := by
  refine pe_imp h fun σ H Q h => ?_
  obtain ⟨st, p, l, z, R, e, _, _, h⟩ := h
  refine ⟨st, p, .loc l, R, e, fun v R1 => ?_⟩
  obtain ⟨m, ar, am, ao, ab, R2⟩ := id R1
  obtain ⟨c1, c2, _, rx, r2⟩ := R2.rb.head
  obtain ⟨a, rfl, em⟩ := rx.loc_i
  exact h a a R1 rfl
/-- place[y] = value -/
def sSetP (w : Bool) (fo : Option (Str × Str)) (mo mk : Ss → Option AV) (mv : M AV) : M Fl := fun st => (mv st).bind fun d s1 => match (mo s1).bind locOf with
  | some l => (match mk s1 with
    | some y => (match (getPl s1.s l fo).bind fun z => setZ w z y d with
      | some z' => .ok .nx ⟨s1.r, setPl s1.s l fo z'⟩
      | none => .bad)
    | none => .bad)
  | none => .bad
def rdW (w : Bool) (K : PySem.W.Frag) (Γ : Gam) (W : WX) (m : M AV) : TE := match w with
  | false => rdE K Γ W m
  | true => rdO K Γ W m
theorem s_setP {w : Bool} {fo : Option (Str × Str)} {ek ev : Expr} {mv : M AV} {pos' : Pos} (hu : X.A.units + 1 < cLine) (ho : PE X o (rdB X.K Γ mo fo)) (hk : PE X ek (rdP X.K Γ mk)) (hv : PE X ev (rdW w X.K Γ W mv))
    (hsw : swapsWith ev (some (.Subscript o ek pos')) pos.line X.env = pure false := by rfl)
    (hs1 : swapsWithSole [.Subscript o ek pos'] ev pos.line X.env = pure false := by rfl) (hw1 : swappedStores [.Subscript o ek pos'] ev X.env = pure none := by rfl)
    (ha : ∀ v, assign (.Subscript o ek pos') X.env v = (do
      let ov ← holding [v] (eval o X.env)
      let iv ← holding [v, ov] (eval ek X.env)
      standAt pos'
      holding [v, ov, iv] (setItem ov iv v)
      release [v, ov, iv] []) := by intro _; rfl) : PS X (.Assign [.Subscript o ek pos'] ev pos) (rdS X.K Γ W (sSetP w fo mo mk mv)) := by
  have h1 : PS X (.Assign [.Subscript o ek pos'] ev pos) (tAsg (rdW w X.K Γ W mv) (gSub (rdB X.K Γ mo fo) (rdP X.K Γ mk) rSetL)) := ps_asg hv (pg_sub ho hk set_list ha) hs1 hw1
  have h2 : PS X (.Assign [.Subscript o ek pos'] ev pos) (sDPut (rdB X.K Γ mo fo) (rdP X.K Γ mk) (rdW w X.K Γ W mv)) := ps_dput hu ho hk hv hsw
  refine ps_imp (ps_or h1 h2) fun D σ H h => ?_
  obtain ⟨st, p, R, hp, h⟩ := h
  unfold sSetP at h
  have main : ∀ (k : V → V → V → Hp → Prop), (∀ d s1 l y z z', mv st = .ok d s1 → mo s1 = some (.loc l) → mk s1 = some y → getPl s1.s l fo = some z → setZ w z y d = some z' → ∀ v a vy H1 o, Rel X.K Γ σ (upd H1 a o) ⟨s1.r, setPl s1.s l fo z'⟩ p →
        ((isD z = false ∧ ∃ us k j, vy = .int k ∧ H1 a = some (.lst us) ∧ ixN us.length k = some j ∧ o = .lst (us.set j v)) ∨ (isD z = true ∧ DPut H1 a vy v (upd H1 a o))) → k v (.ref a) vy H1) →
      rdW w X.K Γ W mv σ H fun v H1 => rdB X.K Γ mo fo σ H1 fun o H2 => rdP X.K Γ mk σ H2 fun y H3 => k v o y H3 := by
    intro k hk'
    have fin : ∀ d s1, mv st = .ok d s1 → ∀ v H1 (p1 : Pd), Rel X.K Γ σ H1 s1 p1 → (∀ {m ar am ao ab}, Rl X.K Γ σ H1 s1 p1 m ar am ao ab → ∃ cs ao' ov' ox', Rp X.K H1 (wOf Γ ar am ao) m [v] [d] cs ∧ (w = false → cs = []) ∧ Rp X.K H1 (wOf Γ ar am ao) m ov' ox' ao' ∧ ao = cs ++ ao' ∧ ∃ p2, Rl X.K Γ σ H1 s1 p2 m ar am ao [] ∧ { p2.nob with ov := ov', ox := ox' } = p) →
        rdB X.K Γ mo fo σ H1 fun o H2 => rdP X.K Γ mk σ H2 fun y H3 => k v o y H3 := by
      intro d s1 ea v H1 p1 R1 hR
      rw [ea] at h
      simp only [Res.bind_ok] at h
      cases el : (mo s1).bind locOf with
      | none => simp only [el] at h
      | some l =>
        simp only [el] at h
        cases ek' : mk s1 with
        | none => simp only [ek'] at h
        | some y =>
          simp only [ek'] at h
          cases ez : (getPl s1.s l fo).bind fun z => setZ w z y d with
          | none => simp only [ez] at h
          | some z' =>
            obtain ⟨z, e1, e2⟩ := Option.bind_eq_some_iff.mp ez
            obtain ⟨x, ex, exl⟩ := Option.bind_eq_some_iff.mp el
            have exl' : x = .loc l := by
              cases x with
              | loc l' => cases exl; rfl
              | _ => cases exl
            subst exl'
            refine ⟨s1, p1, l, z, R1, ex, e1, setZ_own e2, fun a a0 R2 hat => ⟨s1, _, y, R2, ek', fun vy R3 => ?_⟩⟩
            obtain ⟨m, ar, am, ao, ab, R4⟩ := R3
            obtain ⟨c1, c2, _, ry, r2⟩ := R4.rb.head
            obtain ⟨c3, c4, _, r0, r3⟩ := r2.head
            obtain ⟨a0', ea0, em⟩ := r0.loc_i
            cases ea0
            obtain ⟨cs, ao', ov', ox', rd, hcs, ro', eo, p2, R5, hp2⟩ := hR (ab := c4) (R4.setB r3)
            obtain ⟨a', o, hat', R6, hh⟩ := R5.store e1 rd hcs ro' eo ry e2
            obtain rfl := at_of hat hat' em
            rw [hp2] at R6
            exact hk' d s1 l y z z' ea ex ek' e1 e2 v a' vy H1 o R6 hh
    cases w with
    | false =>
      refine ⟨st, p, R, ?_⟩
      cases ea : mv st with
      | bad => rw [ea] at h; exact h
      | err c s1 => rw [ea] at h; exact fun H' R' => h σ H' (hp ▸ R')
      | ok d s1 =>
        intro v H1 R1
        refine fin d s1 ea v H1 _ R1 fun {m ar am ao ab} R2 => ⟨[], ao, p.ov, p.ox, R2.ri.head0.1, fun _ => rfl, R2.ro, rfl, p, ?_, ?_⟩
        · exact hp ▸ (R2.nob.setI (p := (p.nob.sh v d).nob) R2.ri.head0.2)
        · rw [hp]
    | true =>
      refine ⟨st, p, R, ?_⟩
      cases ea : mv st with
      | bad => rw [ea] at h; exact h
      | err c s1 => rw [ea] at h; exact fun H' R' => h σ H' (hp ▸ R')
      | ok d s1 =>
        intro v H1 R1
        refine fin d s1 ea v H1 _ R1 fun {m ar am ao ab} R2 => ?_
        obtain ⟨cs, ao', eo, rd, ro'⟩ := R2.ro.head
        exact ⟨cs, ao', p.ov, p.ox, rd, fun z => (nomatch z), ro', eo, _, R2.nob, hp⟩
  cases ea : mv st with
  | bad => rw [ea] at h; exact h.elim
  | err c s1 =>
    refine .inl (main _ fun d s1 l y z z' e1 => ?_)
    rw [ea] at e1; cases e1
  | ok d s1 =>
    rw [ea] at h
    simp only [Res.bind_ok] at h
    cases el : (mo s1).bind locOf with
    | none => simp only [el] at h
    | some l =>
      simp only [el] at h
      cases ek' : mk s1 with
      | none => simp only [ek'] at h
      | some y =>
        simp only [ek'] at h
        cases ez : (getPl s1.s l fo).bind fun z => setZ w z y d with
        | none => simp only [ez] at h
        | some z' =>
          simp only [ez] at h
          obtain ⟨z, e1, e2⟩ := Option.bind_eq_some_iff.mp ez
          obtain ⟨x, ex, exl⟩ := Option.bind_eq_some_iff.mp el
          have exl' : x = .loc l := by
            cases x with
            | loc l' => cases exl; rfl
            | _ => cases exl
          subst exl'
          cases hD : isD z with
          | false =>
            refine .inl (main _ fun d' s1' l' y' z2 z2' c1 c2 c3 c4 c5 v a vy H1 o R6 hh => ?_)
            rw [ea] at c1; cases c1
            rw [ex] at c2; cases c2
            rw [ek'] at c3; cases c3
            rw [e1] at c4; cases c4
            rw [e2] at c5; cases c5
            rcases hh with ⟨_, us, k, j, rfl, hs, hj, rfl⟩ | ⟨hq, _⟩
            · exact ⟨a, us, k, j, rfl, rfl, hs, hj, h σ _ R6⟩
            · rw [hD] at hq; cases hq
          | true =>
            refine .inr (main (fun v o y H3 => ∃ a H4, o = .ref a ∧ DPut H3 a y v H4 ∧ D.nx σ H4) fun d' s1' l' y' z2 z2' c1 c2 c3 c4 c5 v a vy H1 o R6 hh => ?_)
            rw [ea] at c1; cases c1
            rw [ex] at c2; cases c2
            rw [ek'] at c3; cases c3
            rw [e1] at c4; cases c4
            rw [e2] at c5; cases c5
            rcases hh with ⟨hq, _⟩ | ⟨_, hq⟩
            · rw [hD] at hq; cases hq
            · exact ⟨a, _, rfl, hq, h σ _ R6⟩
end
end Fk
/-! ## augmented stores, methods, making, several names at once -/
namespace Fk
open PySem PySem.Spec PyProof.Rows L2
section
variable {X : Cx} {Γ : Gam} {W : WX} {σ : L2.St} {H : Hp} {st : Ss} {p : Pd} {K : PySem.W.Frag} {pos apos cpos : Pos} {o o' e : Expr} {es : List Expr} {x : Str} {i : Nat} {C f : Str} {fs : List Str} {mo mk : Ss → Option AV}
/-! ### name += e -/
def sAug (i : Nat) (m : M AV) : M Fl := fun st => match getSl st.r i with
  | .im (.int a) => (m st).bind fun d s1 => match d with
    | .int b => .ok .nx ⟨setSl s1.r i (.im (.int (a + b))), s1.s⟩
    | _ => .bad
  | _ => .bad
/-! ### e.f += v -/
def sFAug (C f : Str) (mo mv : M AV) : M Fl := fun st => (mo st).bind fun x s1 => match fldA s1.s C f x with
  | some (.int a) => (mv s1).bind fun d s2 => match d with
    | .int b => (match putFld C f x (.int (a + b)) s2 with
      | some s3 => .ok .nx s3
      | none => .bad)
    | _ => .bad
  | _ => .bad
def augZ (z y d : AV) : Option AV := match z, y, d with
  | .lst true xs, .int k, .int b => (match atI xs k with
    | some (.int a) => setZ false (.lst true xs) (.int k) (.int (a + b))
    | _ => none)
  | _, _, _ => none
def sAugP (fo : Option (Str × Str)) (mo mk me : Ss → Option AV) : M Fl := fun s1 => match (mo s1).bind locOf with
  | some l => (match mk s1, me s1 with
    | some y, some d => (match (getPl s1.s l fo).bind fun z => augZ z y d with
      | some z' => .ok .nx ⟨s1.r, setPl s1.s l fo z'⟩
      | none => .bad)
    | _, _ => .bad)
  | none => .bad
/-! .. of a builder -/
def sAugB (i : Nat) (mk me : Ss → Option AV) : M Fl := fun s1 => match ownL (getSl s1.r i) with
  | some xs => (match mk s1, me s1 with
    | some y, some d => (match augZ (.lst true xs) y d with
      | some (.lst _ ys) => .ok .nx (putL i ys s1)
      | _ => .bad)
    | _, _ => .bad)
  | none => .bad
end
end Fk
/-! ## methods, making, several names at once -/
namespace Fk
open PySem PySem.Spec PyProof.Rows L2
/-! ### an owned value becomes an object -/
def eProm (m : M AV) : M AV := fun st => (m st).bind fun d s1 => bif ownA d then .ok (.loc s1.s.length) ⟨s1.r, s1.s ++ [d]⟩ else .bad
def clsOk (S : List AV) (C nm : Str) (x : AV) : Bool := match (deref S x).bind insOf with
  | some (C', ks, _) => decide (C' = C) && !(ks.any fun k => decide (k = nm))
  | none => false
def eMeth (C nm : Str) (n : Nat) (f : Fn) (ds : List AV) (mo : M AV) (ma : M (List AV)) : M AV := fun st => (mo st).bind fun x s1 => bif clsOk s1.s C nm x then (ma s1).bind fun xs s2 => if 1 + (xs.length + ds.length) = n then back s2.r (f (x :: (xs ++ ds)) s2.s) else .bad else .bad
def mkBack (r : List Sl) (l : Nat) : Res AV (List AV) → Res AV Ss
  | .ok .non S => .ok (.loc l) ⟨r, S⟩
  | .err c S => .err c ⟨r, S⟩
  | _ => .bad
def eMake (C : Str) (n : Nat) (f : Fn) (ds : List AV) (ma : M (List AV)) : M AV := fun st => (ma st).bind fun xs s1 => if 1 + (xs.length + ds.length) = n then mkBack s1.r s1.s.length (f (.loc s1.s.length :: (xs ++ ds)) (s1.s ++ [.ins C [] []])) else .bad
section
variable {X : Cx} {Γ : Gam} {W : WX} {σ : L2.St} {H : Hp} {st : Ss} {p : Pd} {K : PySem.W.Frag} {pos apos cpos q : Pos} {o e : Expr} {es : List Expr} {x : Str} {i k j : Nat} {C nm : Str} {fs : List Str} {ps : List Str} {ds : List AV} {f : Fn} {mo : M AV} {ma : M (List AV)}
theorem s_prom {m : M AV} (h : PE X e (rdO X.K Γ W m)) : PE X e (rdE X.K Γ W (eProm m)) := by
  refine pe_imp h fun σ H Q h => ?_
  obtain ⟨st, p, R, h⟩ := h
  refine ⟨st, p, R, ?_⟩
  unfold eProm at h
  cases ea : m st with
  | bad => rw [ea] at h; exact h
  | err c s1 => rw [ea] at h; exact h
  | ok d s1 =>
    rw [ea] at h
    simp only [Res.bind_ok] at h
    intro v H1 R1
    cases eo : ownA d with
    | false => simp only [eo, cond_false] at h
    | true =>
      simp only [eo, cond_true] at h
      exact h v H1 (R1.prom eo)
end
end Fk
/-! ## lists of owned lists, several names at once, more calls -/
namespace Fk
open PySem PySem.Spec PyProof.Rows L2
def eLn (m : M (List AV)) : M AV := fun st => (m st).bind fun xs s1 => .ok (.nst xs) s1
section
variable {X : Cx} {Γ : Gam} {W : WX} {σ : L2.St} {H : Hp} {st : Ss} {p : Pd} {K : PySem.W.Frag} {pos : Pos}
/-! ### several names at once -/
abbrev Pd.psh (p : Pd) (s : Sl) (v : V) : Pd := match s with
  | .im d => p.sh v d
  | .ow d => p.own v d
  | .no => p
def rdX (K : PySem.W.Frag) (Γ : Gam) (W : WX) (m : M Sl) : TE := fun σ H Q => ∃ st p, Rel K Γ σ H st p ∧ match m st with
  | .ok (.im d) st' => ∀ v H', Rel K Γ σ H' st' (p.nob.sh v d) → Q v H'
  | .ok (.ow d) st' => ∀ v H', Rel K Γ σ H' st' (p.nob.own v d) → Q v H'
  | .ok .no _ => False
  | .err c st' => ∀ H', Rel K Γ σ H' st' p.nob → W (.ref (He.ga K c)) none σ H'
  | .bad => False
def xI (m : M AV) : M Sl := fun st => (m st).bind fun d s1 => .ok (.im d) s1
def xO (m : M AV) : M Sl := fun st => (m st).bind fun d s1 => .ok (.ow d) s1
theorem s_xI {e : Expr} {m : M AV} (h : PE X e (rdE X.K Γ W m)) : PE X e (rdX X.K Γ W (xI m)) := by
  refine pe_imp h fun σ H Q h => ?_
  obtain ⟨st, p, R, h⟩ := h
  refine ⟨st, p, R, ?_⟩
  unfold xI at h
  cases ea : m st with
  | bad => rw [ea] at h; exact h
  | err c s1 => rw [ea] at h; exact h
  | ok d s1 => rw [ea] at h; exact h
theorem s_xO {e : Expr} {m : M AV} (h : PE X e (rdO X.K Γ W m)) : PE X e (rdX X.K Γ W (xO m)) := by
  refine pe_imp h fun σ H Q h => ?_
  obtain ⟨st, p, R, h⟩ := h
  refine ⟨st, p, R, ?_⟩
  unfold xO at h
  cases ea : m st with
  | bad => rw [ea] at h; exact h
  | err c s1 => rw [ea] at h; exact h
  | ok d s1 => rw [ea] at h; exact h
theorem Rel.dropO {v : V} {d : AV} (R : Rel K Γ σ H st (p.own v d)) : Rel K Γ σ H st p := by
  obtain ⟨m, ar, am, ao, ab, R⟩ := R
  obtain ⟨b, ao', eo, r1, r2⟩ := R.ro.head
  subst eo
  have nd := R.nd
  have fr := R.fr
  have hw : ∀ c, c ∈ wOf Γ ar am ao' → c ∈ wOf Γ ar am (b ++ ao') := fun c z => by
    simp only [wOf, List.mem_append] at z ⊢
    grind
  have t : Tr H H (wOf Γ ar am (b ++ ao')) (wOf Γ ar am ao') m m [] := Tr.same hw
  refine ⟨m, ar, am, ao', ab, t.rs R.rs (fun _ _ z => nomatch z), t.rp R.rm (fun _ _ z => nomatch z), t.rp0 R.ri, t.rp r2 (fun _ _ z => nomatch z), t.rp R.rb (fun _ _ z => nomatch z), ?_, ?_, R.kp, R.pm, R.gu, R.tb⟩
  · simp only [wOf, List.nodup_append, List.mem_append] at nd ⊢
    grind
  · intro a ha
    have z := fr a
    simp only [List.mem_append] at z ha
    grind
theorem Rel.dropX {v : V} {s : Sl} (R : Rel K Γ σ H st (p.psh s v)) : Rel K Γ σ H st p := by
  cases s with
  | no => exact R
  | im d => exact R.drop
  | ow d => exact R.dropO
def isNo : Sl → Bool
  | .no => true
  | _ => false
theorem Rel.putX {v : V} {s : Sl} {i : Nat} (R : Rel K Γ σ H st (p.psh s v)) (hs : isNo s = false) (hi : i < st.r.length) : Rel K Γ (σ.set i (some v)) H ⟨setSl st.r i s, st.s⟩ p := by
  cases s with
  | no => cases hs
  | im d => exact R.put i
  | ow d => exact R.putO i hi
theorem rdX_in {ma : M Sl} {Q : VK} {R : Rel K Γ σ H st p} (h : match ma st with
  | .ok s st' => isNo s = false ∧ ∀ v H', Rel K Γ σ H' st' (p.nob.psh s v) → Q v H'
  | .err c st' => ∀ H', Rel K Γ σ H' st' p.nob → W (.ref (He.ga K c)) none σ H'
  | .bad => False) : rdX K Γ W ma σ H Q := by
  refine ⟨st, p, R, ?_⟩
  cases ea : ma st with
  | bad => rw [ea] at h; exact h
  | err c s1 => rw [ea] at h; exact h
  | ok s s1 =>
    rw [ea] at h
    cases s with
    | no => cases h.1
    | im d => exact h.2
    | ow d => exact h.2
/-- a, b = x, y -/
def sPar (i j : Nat) (ma mb : M Sl) : M Fl := fun st => (ma st).bind fun x s1 => bif isNo x then .bad else (mb s1).bind fun y s2 => bif isNo y then .bad else if i < s2.r.length ∧ j < s2.r.length then .ok .nx ⟨setSl (setSl s2.r j y) i x, s2.s⟩ else .bad
theorem s_par {i j : Nat} {x y : Str} {a b : Expr} {ma mb : M Sl} {px py pt : Pos} {kt k2 pt2} (hc : X.calm = true) (hN : X.N.Nodup) (hi : X.N[i]? = some x) (hj : X.N[j]? = some y) (hij : i ≠ j)
    (hx : X.env.scope.names.lookup x = some .local) (hy : X.env.scope.names.lookup y = some .local) (ha : PE X a (rdX X.K Γ W ma)) (hb : PE X b (rdX X.K Γ W mb))
    (hw : swappedStores [.Tuple [.Name x px, .Name y py] kt pt] (.Tuple [a, b] k2 pt2) X.env = pure (some [x, y]))
    (hs : swapsWithSole [.Tuple [.Name x px, .Name y py] kt pt] (.Tuple [a, b] k2 pt2) pos.line X.env = pure false := by rfl)
    (hs1 : starEach [a, b] X.env = (false, eval a X.env) :: starEach [b] X.env := by rfl) (hs2 : starEach [b] X.env = (false, eval b X.env) :: starEach [] X.env := by rfl) :
    PS X (.Assign [.Tuple [.Name x px, .Name y py] kt pt] (.Tuple [a, b] k2 pt2) pos) (rdS X.K Γ W (sPar i j ma mb)) := by
  refine ps_imp (ps_par hc hN hi hj hij hx hy (pa_cons ha (pa_cons hb pa_nil hs2) hs1) hw hs) fun D σ H h => ?_
  obtain ⟨st, p, R, hp, h⟩ := h
  unfold sPar at h
  refine rdX_in (R := R) ?_
  cases ea : ma st with
  | bad => rw [ea] at h; exact h
  | err c s1 => rw [ea] at h; exact fun H' R' => h σ H' (hp ▸ R')
  | ok s s1 =>
    rw [ea] at h
    simp only [Res.bind_ok] at h
    cases n1 : isNo s with
    | true => simp only [n1, cond_true] at h
    | false =>
      simp only [n1, cond_false] at h
      refine ⟨n1, fun v H1 R1 => rdX_in (R := R1) ?_⟩
      have en : (p.nob.psh s v).nob = p.psh s v := by cases s <;> rw [hp] <;> exact congrArg (fun z : Pd => z) (by first | (show Pd.nob (Pd.sh p v _) = Pd.sh p v _; rw [← hp]) | (show Pd.nob (Pd.own p v _) = Pd.own p v _; rw [← hp]) | exact hp)
      cases eb : mb s1 with
      | bad => rw [eb] at h; exact h
      | err c s2 => rw [eb] at h; exact fun H' R' => h σ H' (Rel.dropX (s := s) (v := v) (en ▸ R'))
      | ok t s2 =>
        rw [eb] at h
        simp only [Res.bind_ok] at h
        cases n2 : isNo t with
        | true => simp only [n2, cond_true] at h
        | false =>
          simp only [n2, cond_false] at h
          refine ⟨n2, fun w' H2 R2 => ⟨v, w', rfl, ?_⟩⟩
          by_cases c : i < s2.r.length ∧ j < s2.r.length
          · rw [if_pos c] at h
            rw [en] at R2
            have R3 := R2.putX n2 c.2
            have R4 := R3.putX (i := i) n1 (by rw [setSl_len]; exact c.1)
            rw [List.set_comm _ _ (Ne.symm hij)] at R4
            exact h _ H2 R4
          · rw [if_neg c] at h
            exact h.elim
/-- a, b, c = x, y, z -/
def sPar3 (i j l : Nat) (ma mb mc : M Sl) : M Fl := fun st => (ma st).bind fun x s1 => bif isNo x then .bad else (mb s1).bind fun y s2 => bif isNo y then .bad else (mc s2).bind fun z s3 => bif isNo z then .bad else if i < s3.r.length ∧ j < s3.r.length ∧ l < s3.r.length then .ok .nx ⟨setSl (setSl (setSl s3.r l z) j y) i x, s3.s⟩ else .bad
/-! ### target = value, by unpacking -/
def sAsgG (t : Tg) (m : M AV) : M Fl := fun st => (m st).bind fun d s1 => match t d s1 with
  | some s2 => .ok .nx s2
  | none => .bad
theorem s_asgG {tg e : Expr} {ns : List Nat} {t : Tg} {m : M AV} (he : PE X e (rdE X.K Γ W m)) (hg : PG X tg (rdG X.K Γ ns t)) (hs : swapsWithSole [tg] e pos.line X.env = pure false := by rfl) (hw : swappedStores [tg] e X.env = pure none := by rfl)
    (h1 : (assignEach [tg] X.env).map (·.2) = [assign tg X.env] := by rfl) : PS X (.Assign [tg] e pos) (rdS X.K Γ W (sAsgG t m)) := by
  refine ps_imp (ps_asg he hg hs hw h1) fun D σ H h => ?_
  obtain ⟨st, p, R, hp, h⟩ := h
  refine ⟨st, p, R, ?_⟩
  unfold sAsgG at h
  cases ea : m st with
  | bad => rw [ea] at h; exact h
  | err c s1 => rw [ea] at h; exact fun H' R' => h σ H' (hp ▸ R')
  | ok d s1 =>
    rw [ea] at h
    simp only [Res.bind_ok] at h
    intro v H1 R1
    cases et : t d s1 with
    | none => simp only [et] at h
    | some s2 =>
      simp only [et] at h
      exact ⟨s1, p, d, s2, nob_sh hp ▸ R1, et, fun σ' H' _ R' => h σ' H' R'⟩
end
end Fk
/-! ## zip, enumerate, dicts, isinstance of own classes -/
namespace Fk
open PySem PySem.Spec PyProof.Rows L2
def zipL : List AV → List AV → List AV
  | x :: xs, y :: ys => .tup [x, y] :: zipL xs ys
  | _, _ => []
def zipA : List AV → Option (List AV)
  | [.lst _ xs, .lst _ ys] => some (zipL xs ys)
  | [.tup xs, .tup ys] => some (zipL xs ys)
  | _ => none
theorem zipL_get {d : AV} : ∀ {xs ys : List AV} {i : Nat}, (zipL xs ys)[i]? = some d → ∃ x y, xs[i]? = some x ∧ ys[i]? = some y ∧ d = .tup [x, y]
  | [], ys, i, h => by cases i <;> cases h
  | x :: xs, [], i, h => by cases i <;> cases h
  | x :: xs, y :: ys, 0, h => by cases h; exact ⟨x, y, rfl, rfl, rfl⟩
  | x :: xs, y :: ys, i + 1, h => zipL_get (xs := xs) (ys := ys) (i := i) h
theorem zipL_len : ∀ xs ys : List AV, xs.length ≤ (zipL xs ys).length ∨ ys.length ≤ (zipL xs ys).length
  | [], ys => .inl (Nat.zero_le _)
  | x :: xs, [] => .inr (Nat.zero_le _)
  | x :: xs, y :: ys => by
    rcases zipL_len xs ys with h | h
    · exact .inl (Nat.succ_le_succ h)
    · exact .inr (Nat.succ_le_succ h)
section
variable {X : Cx} {Γ : Gam} {W : WX} {σ : L2.St} {H : Hp} {st : Ss} {p : Pd} {K : PySem.W.Frag} {pos q : Pos} {e e2 : Expr} {ma : M (List AV)} {kk : Nat} {elts : List Expr} {tpos : Pos}
theorem s_zip (hg : Gl X "zip") (hm : X.mg "zip" = none) (ha : PA X [e, e2] (rdA X.K Γ W ma)) (hs : starEach [e, e2] X.env = (false, eval e X.env) :: starEach [e2] X.env := by rfl) (hpl : (backTo pos (starEach [e2] X.env)).any (·.1) = false := by rfl) :
    PI X (.Tuple elts kk tpos) (.Call (.Name "zip" q) [e, e2] [] pos) (rdI X.K Γ W (iArg zipA ma)) := by
  refine pi_imp (RZ.pi_zipA hg hm ha hs hpl) fun σ H R h => ?_
  obtain ⟨st, p, R0, h⟩ := h
  refine ⟨st, p, R0, ?_⟩
  unfold iArg at h
  cases ea : ma st with
  | bad => rw [ea] at h; exact h
  | err c s1 => rw [ea] at h; exact h
  | ok xs s1 =>
    rw [ea] at h
    simp only [Res.bind_ok] at h
    intro vs H1 hl R1
    obtain ⟨m, ar, am, ao, ab, R2, r⟩ := Rel.args (p := p.nob) hl R1
    cases e : zipA xs with
    | none => rw [e] at h; exact h.elim
    | some ds =>
      rw [e] at h
      unfold zipA at e
      split at e
      · rename_i o1 xs o2 ys
        cases e
        obtain ⟨v, w', a1, a2, rfl, r1, r2⟩ := r.twoL
        obtain ⟨a, us, rfl, hs1, q1⟩ := r1.lst_i
        obtain ⟨b, us', rfl, hs2, q2⟩ := r2.lst_i
        refine ⟨a, b, us, us', rfl, .inl ⟨SqL.of hs1, SqL.of hs2, h (Itz X.K a b) H1 [.ref a, .ref b] [(.lst o1 xs), (.lst o2 ys)] rfl R1 ⟨fun i d σ H st ov ox e R3 => ?_, fun σ H st ov ox R3 => ?_⟩⟩⟩
        · obtain ⟨m3, ar3, am3, ao3, ab3, R4⟩ := id R3
          have q3 : Rp X.K H (wOf Γ ar3 am3 ao3) m3 (.ref a :: .ref b :: p.iv) (.lst o1 xs :: .lst o2 ys :: p.ix) [] := R4.ri
          obtain ⟨a', us3, e3, hs3, p3⟩ := q3.head0.1.lst_i
          obtain ⟨b', us4, e4, hs4, p4⟩ := q3.head0.2.head0.1.lst_i
          cases e3; cases e4
          obtain ⟨x, y, ex, ey, rfl⟩ := zipL_get e
          obtain ⟨u, eu, ru⟩ := p3.get0 ex
          obtain ⟨u', eu', ru'⟩ := p4.get0 ey
          refine ⟨⟨us3, us4, u, u', SqL.of hs3, SqL.of hs4, eu, eu'⟩, fun z H' yl => ?_⟩
          obtain ⟨T, x2, y2, rfl, hT, rfl, f1, f2⟩ := yl
          have z1 := f1 us3 (SqL.of hs3)
          have z2 := f2 us4 (SqL.of hs4)
          rw [eu] at z1
          rw [eu'] at z2
          cases z1; cases z2
          exact (R4.tup hT (ru.cons0 ru')).rel
        · obtain ⟨m3, ar3, am3, ao3, ab3, R4⟩ := id R3
          have q3 : Rp X.K H (wOf Γ ar3 am3 ao3) m3 (.ref a :: .ref b :: p.iv) (.lst o1 xs :: .lst o2 ys :: p.ix) [] := R4.ri
          obtain ⟨a', us3, e3, hs3, p3⟩ := q3.head0.1.lst_i
          obtain ⟨b', us4, e4, hs4, p4⟩ := q3.head0.2.head0.1.lst_i
          cases e3; cases e4
          exact ⟨us3, us4, SqL.of hs3, SqL.of hs4, by rw [p3.len, p4.len]; exact zipL_len xs ys⟩
      · rename_i xs ys
        cases e
        obtain ⟨v, w', a1, a2, rfl, r1, r2⟩ := r.twoL
        obtain ⟨a, us, rfl, hs1, q1⟩ := r1.tup_i
        obtain ⟨b, us', rfl, hs2, q2⟩ := r2.tup_i
        refine ⟨a, b, us, us', rfl, .inr ⟨hs1, hs2, h (RZ.ItzT X.K a b) H1 [.ref a, .ref b] [(.tup xs), (.tup ys)] rfl R1 ⟨fun i d σ H st ov ox e R3 => ?_, fun σ H st ov ox R3 => ?_⟩⟩⟩
        · obtain ⟨m3, ar3, am3, ao3, ab3, R4⟩ := id R3
          have q3 : Rp X.K H (wOf Γ ar3 am3 ao3) m3 (.ref a :: .ref b :: p.iv) (.tup xs :: .tup ys :: p.ix) [] := R4.ri
          obtain ⟨a', us3, e3, hs3, p3⟩ := q3.head0.1.tup_i
          obtain ⟨b', us4, e4, hs4, p4⟩ := q3.head0.2.head0.1.tup_i
          cases e3; cases e4
          obtain ⟨x, y, ex, ey, rfl⟩ := zipL_get e
          obtain ⟨u, eu, ru⟩ := p3.get0 ex
          obtain ⟨u', eu', ru'⟩ := p4.get0 ey
          refine ⟨⟨us3, us4, u, u', hs3, hs4, eu, eu'⟩, fun z H' yl => ?_⟩
          obtain ⟨T, x2, y2, rfl, hT, rfl, f1, f2⟩ := yl
          have z1 := f1 us3 hs3
          have z2 := f2 us4 hs4
          rw [eu] at z1
          rw [eu'] at z2
          cases z1; cases z2
          exact (R4.tup hT (ru.cons0 ru')).rel
        · obtain ⟨m3, ar3, am3, ao3, ab3, R4⟩ := id R3
          have q3 : Rp X.K H (wOf Γ ar3 am3 ao3) m3 (.ref a :: .ref b :: p.iv) (.tup xs :: .tup ys :: p.ix) [] := R4.ri
          obtain ⟨a', us3, e3, hs3, p3⟩ := q3.head0.1.tup_i
          obtain ⟨b', us4, e4, hs4, p4⟩ := q3.head0.2.head0.1.tup_i
          cases e3; cases e4
          exact ⟨us3, us4, hs3, hs4, by rw [p3.len, p4.len]; exact zipL_len xs ys⟩
      · cases e
/-! ### dicts -/
def eDnew : M AV := fun st => .ok (.dct true [] []) st
theorem s_dnew : PE X (.Dict [] [] pos) (rdO X.K Γ W eDnew) := by
  refine pe_imp pe_dnewK fun σ H Q h => ?_
  obtain ⟨st, p, R, h⟩ := h
  intro a ha
  obtain ⟨m, ar, am, ao, ab, R⟩ := R
  exact h _ _ (R.nob.newO ha fun t h1 => .dcO (kvs := []) h1 rfl .nil .nil).rel
/-- d.get(k, x), looked at -/
def getD' (S : List AV) (x k d : AV) : Option AV := ((deref S x).bind dicA).bind fun t => (keyA k).bind fun k => some ((getK t.1 t.2 k).getD d)
def pGet (a b c : Ss → Option AV) : Ss → Option AV := fun st => (a st).bind fun x => (b st).bind fun k => (c st).bind fun d => getD' st.s x k d
end
end Fk
/-! ## isinstance of own classes -/
namespace Fk
open PySem PySem.Spec PyProof.Rows L2
def clsA (S : List AV) (x : AV) : Option Str := ((deref S x).bind insOf).map (·.1)
def eIsC (C : Str) (Ds : List Str) (m : M AV) : M AV := fun st => (m st).bind fun x s1 => bif okT x then .ok (.bl false) s1 else match clsA s1.s x with
  | some D => if D = C then .ok (.bl true) s1 else if D ∈ Ds then .ok (.bl false) s1 else .bad
  | none => .bad
section
variable {X : Cx} {Γ : Gam} {W : WX} {σ : L2.St} {H : Hp} {st : Ss} {p : Pd} {K : PySem.W.Frag} {pos q : Pos} {C : Str} {Ds : List Str}
end
end Fk
/-! ## the law's call, its end -/
namespace Fk
open PySem PySem.Spec PyProof.Rows L2
theorem rp_intsA {K : PySem.W.Frag} {H : Hp} {W m : List Addr} : ∀ ns : List Int, Rp K H W m (ns.map V.int) (ns.map AV.int) []
  | [] => .nil
  | _ :: ns => .int (rp_intsA ns)
theorem own_N {P : Program} {w : World} {K : PySem.W.Frag} {mg : Str → Option Value} {base : Heap} {N : List Str} {qual : Str} {scope : Scope} {f : Addr} {cd : Value} {A : Around} {outer : List Env} {s : Shared} {H : Hp} {E : XK} :
    PassesOwn (model P w) (cxN P w K mg base N qual scope f cd A outer s H E).A (cxN P w K mg base N qual scope f cd A outer s H E).env (cxN P w K mg base N qual scope f cd A outer s H E).xe := passes_of rfl
end Fk
/-! ## short words for what is printed -/
namespace Fk
open PySem PySem.Spec PyProof.Rows L2
def eFrz (m : M AV) : M AV := fun st => (m st).bind fun d s1 => ofO (frz d) s1
def pAlt (a b : Ss → Option AV) : Ss → Option AV := fun st => match a st with
  | some d => some d
  | none => b st
section
variable {X : Cx} {Γ : Gam} {W : WX} {σ : L2.St} {H : Hp} {st : Ss} {p : Pd} {K : PySem.W.Frag} {pos : Pos} {e : Expr}
theorem sv (i : Nat) {x : Str} (hN : X.N[i]? = some x := by rfl) (hv : Vis X.env.scope x := by first | exact Or.inl rfl | exact Or.inr (Or.inl rfl) | exact Or.inr (Or.inr rfl)) (hd : (x == ("__debug__" : Str)) = false := by decide) (hcd : (x == ("__classdict__" : Str)) = false := by decide) : PE X (.Name x pos) (rdE X.K Γ W (eVar i)) := s_var hN hv hd hcd
theorem qv (i : Nat) {x : Str} (hN : X.N[i]? = some x := by rfl) (hv : Vis X.env.scope x := by first | exact Or.inl rfl | exact Or.inr (Or.inl rfl) | exact Or.inr (Or.inr rfl)) (hd : (x == ("__debug__" : Str)) = false := by decide) (hcd : (x == ("__classdict__" : Str)) = false := by decide) : PE X (.Name x pos) (rdP X.K Γ (pVar i)) := q_var hN hv hd hcd
theorem s_frz {m : M AV} (h : PE X e (rdO X.K Γ W m)) : PE X e (rdE X.K Γ W (eFrz m)) := by
  refine pe_imp h fun σ H Q h => ?_
  obtain ⟨st, p, R, h⟩ := h
  refine ⟨st, p, R, ?_⟩
  unfold eFrz at h
  cases ea : m st with
  | bad => rw [ea] at h; exact h
  | err c s1 => rw [ea] at h; exact h
  | ok d s1 =>
    rw [ea] at h
    simp only [Res.bind_ok] at h
    intro v H1 R1
    cases ef : frz d with
    | none => simp only [ef, ofO_none] at h
    | some d' =>
      simp only [ef, ofO_some] at h
      exact h v H1 (R1.frzO ef)
theorem c_len : CallR X (.builtin "len") (uLen X.K) := CallR.or call_len call_lenD
end
section
variable {X : Cx} {Γ : Gam} {W : WX} {pos apos q : Pos} {o e : Expr} {es : List Expr} {x : Str} {k j n : Nat} {C nm : Str} {ps : List Str} {ds : List AV} {f : Fn} {mo : M AV} {ma : M (List AV)}
theorem sCl (F : CalN X.prog X.w X.K X.mg X.base Γ.T k x ps ds f) (hG : X.A.guards = some []) (hr : Room j X.A) (hk : k ≤ j) (hg : Gl X x) (tk : L2N.Takes X W) (ha : PA X (e :: es) (rdA X.K Γ W ma)) (hn : ps.length = n := by rfl)
    (hdb : (x == ("__debug__" : Str)) = false := by decide) (he : starEach (e :: es) X.env = (false, eval e X.env) :: starEach es X.env := by rfl) (hpl : (backTo pos (starEach es X.env)).any (·.1) = false := by rfl) :
    PE X (.Call (.Name x q) (e :: es) [] pos) (rdE X.K Γ W (eCall n f ds ma)) := by
  subst hn
  exact s_call F hG hr hk hg tk ha hdb he hpl
end
section
variable {X : Cx} {Γ : Gam} {W : WX} {pos : Pos} {o : Expr}
theorem sStI {fo : Option (Str × Str)} {ek ev : Expr} {mv : M AV} {mo mk : Ss → Option AV} {pos' : Pos} (hu : X.A.units + 1 < cLine) (ho : PE X o (rdB X.K Γ mo fo)) (hk : PE X ek (rdP X.K Γ mk)) (hv : PE X ev (rdE X.K Γ W mv))
    (hsw : swapsWith ev (some (.Subscript o ek pos')) pos.line X.env = pure false := by rfl)
    (hs1 : swapsWithSole [.Subscript o ek pos'] ev pos.line X.env = pure false := by rfl) (hw1 : swappedStores [.Subscript o ek pos'] ev X.env = pure none := by rfl)
    (ha : ∀ v, assign (.Subscript o ek pos') X.env v = (do
      let ov ← holding [v] (eval o X.env)
      let iv ← holding [v, ov] (eval ek X.env)
      standAt pos'
      holding [v, ov, iv] (setItem ov iv v)
      release [v, ov, iv] []) := by intro _; rfl) : PS X (.Assign [.Subscript o ek pos'] ev pos) (rdS X.K Γ W (sSetP false fo mo mk mv)) := s_setP (w := false) hu ho hk hv hsw hs1 hw1 ha
end
theorem rp_tupC {K : PySem.W.Frag} {a : Addr} {us : List V} {xs : List AV} (h : ∀ H, SqT K H a us) (r : ∀ H W m, Rp K H W m us xs []) : ∀ H W m, Rp K H W m [.ref a] [.tup xs] [] := fun H W m => .tup (h H) (r H W m) .nil
end Fk
/-! ## try, except -/
namespace Fk
open PySem PySem.Spec PyProof.Rows L2
/-- of the classes U those that C catches -/
def ExcM (K : PySem.W.Frag) (C : Str) (U cs : List Str) : Prop := ∀ c ∈ U, PySem.W.exmOne K (.ref (He.ga K c)) (.ref (He.ga K C)) = some (decide (c ∈ cs))
theorem excmB_ok {K : PySem.W.Frag} {C : Str} {U cs : List Str} (h : excmB K C U cs = true) : ExcM K C U cs := fun c hc => by
  have q := List.all_eq_true.mp h c hc
  exact of_decide_eq_true q
def pickH (c : Str) : List (List Str × M Fl) → Option (M Fl)
  | [] => none
  | (cs, h) :: r => if c ∈ cs then some h else pickH c r
/-- nothing is raised there -/
def capX {α β : Type} : Res α β → Res α β
  | .err _ _ => .bad
  | r => r
def sTry (U : List Str) (mb : M Fl) (hs : List (List Str × M Fl)) : M Fl := fun st => match mb st with
  | .err c s1 => if c ∈ U then (match pickH c hs with
    | some h => capX (h s1)
    | none => .err c s1) else .bad
  | r => r
section
variable {X : Cx} {Γ : Gam} {W : WX}
inductive HdM (X : Cx) (Γ : Gam) (U : List Str) : List ExceptHandler → List (List Str × M Fl) → Prop
  | nil : HdM X Γ U [] []
  | cons {x : Str} {cs : List Str} {mh : M Fl} {b₀ : Stmt} {suite : List Stmt} {np p' : Pos} {hds : List ExceptHandler} {l : List (List Str × M Fl)} (hn : Names X x (.ref (He.ga X.K x))) (hm : ExcM X.K x U cs)
      (hsu : ∀ (a : Addr) (oe : Obj) (pn : List (Addr × Obj)) (cls : Value) (d : Option Addr), L2N.Zn cls d oe → (∃ vs, oe.data = .fields vs) → PSs (X.suite a ((a, oe) :: pn)) (b₀ :: suite) (rdS X.K Γ noX mh)) (r : HdM X Γ U hds l) :
      HdM X Γ U (.ExceptHandler (some (.Name x np)) none (b₀ :: suite) p' :: hds) ((cs, mh) :: l)
/-- the handlers in the library's sense -/
theorem HdM.hds {U : List Str} {hds : List ExceptHandler} {l : List (List Str × M Fl)} (h : HdM X Γ U hds l) : ∃ l', L2N.HdsOk X hds l' ∧ ∀ (D : Ends) (c : Str) (st : Ss) (p : Pd) (σ : L2.St) (H : Hp), c ∈ U → Rel X.K Γ σ H st p → p.nob = p →
    Pos_ X.K Γ W D p (match pickH c l with
      | some h => capX (h st)
      | none => .err c st) → wMany X.K W D l' (.ref (He.ga X.K c)) none σ H := by
  induction h with
  | nil => exact ⟨[], .nil, fun D c st p σ H _ R _ h => h σ H R⟩
  | @cons x cs mh b₀ suite np p' hds l hn hm hsu r ih =>
    obtain ⟨l', h1, h2⟩ := ih
    refine ⟨_, .cons (ts := fun _ _ _ => rdS X.K Γ noX mh) hn (fun a oe cls d pn z f => hsu a oe pn cls d z f) h1, fun D c st p σ H hc R hp h => ⟨_, hm c hc, fun e a na => ?_, fun e => ?_⟩⟩
    · have e : c ∈ cs := of_decide_eq_true e
      rw [pickH, if_pos e] at h
      refine ⟨st, p, R, hp, ?_⟩
      simp only at h
      cases em : mh st with
      | bad => rw [em] at h; exact h
      | err c s => rw [em] at h; exact h.elim
      | ok f s =>
        rw [em] at h
        cases f <;> exact h
    · have e : c ∉ cs := of_decide_eq_false e
      rw [pickH, if_neg e] at h
      exact h2 D c st p σ H hc R hp h
end
end Fk
/-! ## a row of an object's lists, lent to a name -/
namespace Fk
open PySem PySem.Spec PyProof.Rows L2
section
variable {K : PySem.W.Frag} {H : Hp} {W m as : List Addr} {v : V} {x d z : AV} {Γ : Gam} {σ : L2.St} {st : Ss} {p : Pd} {ar am ao ab : List Addr}
theorem set_at {α : Type} {xs : List α} {j : Nat} {a : α} (h : xs[j]? = some a) : xs.set j a = xs := by
  apply List.ext_getElem?
  intro i
  by_cases c : j = i
  · subst c
    rw [List.getElem?_set_self (List.getElem?_eq_some_iff.mp h).1, h]
  · rw [List.getElem?_set_ne c]
/-- one of a row of things, put otherwise -/
theorem Rp.spot0 {vs : List V} {xs : List AV} {j : Nat} (r : Rp K H W m vs xs as) (h : xs[j]? = some d) : ∃ u a1 b a2, vs[j]? = some u ∧ as = a1 ++ (b ++ a2) ∧ Rp K H W m [u] [d] b ∧
    ∀ {W' m' b' : List Addr} {d' : AV}, (∀ {vs : List V} {xs : List AV} {as : List Addr}, Rp K H W m vs xs as → Rp K H W' m' vs xs as) → Rp K H W' m' [u] [d'] b' → Rp K H W' m' vs (xs.set j d') (a1 ++ (b' ++ a2)) := by
  obtain ⟨u, a1, b, a2, e, ea, r1, r2, r3⟩ := r.at_ h
  refine ⟨u, a1, b, a2, e, ea, r2, fun {W' m' b' d'} t q => ?_⟩
  have h1 := Rp.put (v := u) (x := d') (List.getElem?_eq_some_iff.mp h).1 (t r1) q (t r3) r.len
  rw [set_at e] at h1
  exact h1
/-- .. in an object's list of lists -/
theorem Rp.spot {a0 : Addr} {z0 : AV} {fo : Option (Str × Str)} {rows : List AV} {j l : Nat} {S : List AV} {vs : List V} (r : Rp K H W m vs S as) (e : getPl S l fo = some (.nst rows)) (hj : rows[j]? = some d) : ∃ a0 a us u a1 b a2, vs[l]? = some (.ref a0) ∧ AtH K H a0 a fo ∧ H a = some (.lst us) ∧ us.length = rows.length ∧ us[j]? = some u ∧ as = a1 ++ (b ++ a2) ∧ Rp K H W m [u] [d] b ∧
    ∀ {W' m' b' : List Addr} {d' : AV}, (∀ {vs : List V} {xs : List AV} {as : List Addr}, Rp K H W m vs xs as → Rp K H W' m' vs xs as) → Rp K H W' m' [u] [d'] b' → Rp K H W' m' vs (setPl S l fo (.nst (rows.set j d'))) (a1 ++ (b' ++ a2)) := by
  cases fo with
  | none =>
    obtain ⟨u0, a1, b, a2, ev, ea, r2, put⟩ := r.spot0 (show S[l]? = some (.nst rows) from e)
    cases r2 with
    | @nst a us _ bs _ _ as0 h q r0 =>
      obtain ⟨_, rfl⟩ := r0.nil_inv
      obtain ⟨u, c1, c, c2, eu, ec, rd, put2⟩ := q.spot0 hj
      refine ⟨a, a, us, u, a1 ++ (a :: c1), c, c2 ++ a2, ev, rfl, h, q.len, eu, by rw [ea, ec]; simp, rd, fun {W' m' b' d'} t q2 => ?_⟩
      have h1 := put (b' := a :: ((c1 ++ (b' ++ c2)) ++ [])) t (.nst h (put2 t q2) .nil)
      have e2 : a1 ++ (a :: ((c1 ++ (b' ++ c2)) ++ []) ++ a2) = (a1 ++ (a :: c1)) ++ (b' ++ (c2 ++ a2)) := by simp
      rw [e2] at h1
      exact h1
  | some cf =>
    obtain ⟨C, f⟩ := cf
    obtain ⟨⟨C', ks, ys⟩, e1, e2⟩ := Option.bind_eq_some_iff.mp e
    obtain ⟨t0, et, ei⟩ := Option.bind_eq_some_iff.mp e1
    have e3 : (if C' = C then getF ks ys f else none) = some (.nst rows) := e2
    by_cases c : C' = C
    · subst c
      rw [if_pos rfl] at e3
      cases t0 with
      | ins C2 k2 y2 =>
        cases ei
        obtain ⟨u0, a1, b, a2, ev, ea, r2, put⟩ := r.spot0 et
        cases r2 with
        | @ins a0 _ dx fs _ _ bs _ _ as0 hs ek q r0 =>
          obtain ⟨_, rfl⟩ := r0.nil_inv
          subst ek
          obtain ⟨u1, b1, b2, b3, hl, eb, ru, gl⟩ := lensF q e3
          cases ru with
          | @nst a us _ bs2 _ _ as0 h q2 r0 =>
            obtain ⟨_, rfl⟩ := r0.nil_inv
            obtain ⟨u, c1, c, c2, eu, ec, rd, put2⟩ := q2.spot0 hj
            refine ⟨a0, a, us, u, a1 ++ (a0 :: (b1 ++ (a :: c1))), c, c2 ++ (b3 ++ a2), ev, ⟨dx, fs, hs, hl⟩, h, q2.len, eu, by rw [ea, eb, ec]; simp, rd, fun {W' m' b' d'} t q3 => ?_⟩
            have g1 := gl (H' := H) (W' := W') (m' := m') (x' := .nst (rows.set j d')) (b2' := a :: ((c1 ++ (b' ++ c2)) ++ [])) (fun rr _ => t rr) (.nst h (put2 t q3) .nil)
            have g2 := put (b' := a0 :: ((b1 ++ ((a :: ((c1 ++ (b' ++ c2)) ++ [])) ++ b3)) ++ [])) t (.ins hs rfl g1 .nil)
            have es : setPl S l (some (C', f)) (.nst (rows.set j d')) = S.set l (.ins C' (fs.map (·.1)) (setFA (fs.map (·.1)) ys f (.nst (rows.set j d')))) := by
              unfold setPl
              rw [et]
              rfl
            rw [es]
            have e4 : a1 ++ (a0 :: ((b1 ++ ((a :: ((c1 ++ (b' ++ c2)) ++ [])) ++ b3)) ++ []) ++ a2) = (a1 ++ (a0 :: (b1 ++ (a :: c1)))) ++ (b' ++ (c2 ++ (b3 ++ a2))) := by simp
            rw [e4] at g2
            exact g2
      | _ => cases ei
    · rw [if_neg c] at e3
      cases e3
/-- .. and back -/
theorem Rl.unl {fo : Option (Str × Str)} {rows : List AV} {j l n : Nat} (R : Rl K Γ σ H st p m ar am ao ab) (e : getPl st.s l fo = some (.nst rows)) (hj : rows[j]? = some (.loc n)) (en : st.s[n]? = some d) (hd : ownA d = true) (ne : n ≠ l) :
    Rel K Γ σ H ⟨st.r, setPl (st.s.set n .ded) l fo (.nst (rows.set j d))⟩ p := by
  obtain ⟨u0, a1, b, a2, eu, ea, rd, put⟩ := R.rm.spot0 en
  have r1 : Rp K H (wOf Γ ar am ao) m (m.map V.ref) (st.s.set n .ded) (a1 ++ ([] ++ a2)) := put (fun r => r) (by
    rw [List.getElem?_map] at eu
    obtain ⟨u, _, rfl⟩ := Option.map_eq_some_iff.mp eu
    exact .ded .nil)
  have e2 : getPl (st.s.set n .ded) l fo = some (.nst rows) := by
    rw [← e]
    unfold getPl
    rw [List.getElem?_set_ne ne]
  obtain ⟨a0, a, us, u1, c1, c, c2, _, _, _, _, _, ec, rl, put2⟩ := r1.spot (a0 := 0) (z0 := .non) e2 hj
  have q : u1 = u0 ∧ c = [] := by
    cases rl with
    | loc h r0 =>
      obtain ⟨_, rfl⟩ := r0.nil_inv
      rw [List.getElem?_map, h] at eu
      cases eu
      exact ⟨rfl, rfl⟩
  obtain ⟨rfl, rfl⟩ := q
  have nd := R.nd
  have fr := R.fr
  have mm : ∀ x, x ∈ c1 ++ (b ++ c2) ↔ x ∈ am := fun x => by
    have h1 : x ∈ a1 ++ ([] ++ a2) ↔ x ∈ c1 ++ ([] ++ c2) := by rw [ec]
    simp only [ea, List.mem_append] at h1 ⊢
    grind
  have wm : ∀ x, x ∈ wOf Γ ar (c1 ++ (b ++ c2)) ao ↔ x ∈ wOf Γ ar am ao := fun x => by
    have := mm x
    simp only [wOf, List.mem_append] at this ⊢
    grind
  have t : ∀ {vs : List V} {xs : List AV} {as : List Addr}, Rp K H (wOf Γ ar am ao) m vs xs as → Rp K H (wOf Γ ar (c1 ++ (b ++ c2)) ao) m vs xs as := fun r =>
    r.keep Kp.refl (fun _ z => nomatch z) (fun c _ n z => n ((wm c).mp z)) (fun _ _ e => e) (fun _ _ z => nomatch z)
  refine ⟨m, ar, c1 ++ (b ++ c2), ao, ab, ?_, put2 t (t rd), t R.ri, t R.ro, t R.rb, ?_, ?_, R.kp, R.pm, R.gu, R.tb⟩
  · exact R.rs.keep Kp.refl (fun _ z => nomatch z) (fun c _ n z => n ((wm c).mp z)) (fun _ _ e => e) (fun _ _ z => nomatch z)
  · have pm : (c1 ++ (b ++ c2)).Perm am := by
      have e1 : (c1 ++ (b ++ c2)).Perm (b ++ (c1 ++ c2)) := by
        rw [← List.append_assoc, ← List.append_assoc]
        exact List.Perm.append_right _ List.perm_append_comm
      have e2 : am.Perm (b ++ (a1 ++ a2)) := by
        rw [ea, ← List.append_assoc, ← List.append_assoc]
        exact List.Perm.append_right _ List.perm_append_comm
      have e3 : a1 ++ a2 = c1 ++ c2 := by simpa using ec
      rw [e3] at e2
      exact e1.trans e2.symm
    have pw : (wOf Γ ar (c1 ++ (b ++ c2)) ao).Perm (wOf Γ ar am ao) := List.Perm.append_left _ (List.Perm.append_left _ (List.Perm.append_right _ pm))
    exact pw.nodup_iff.mpr nd
  · intro x hx
    have h1 := mm x
    have := fr x
    simp only [List.mem_append] at this hx h1
    grind
end
end Fk
namespace Fk
open PySem PySem.Spec PyProof.Rows L2
/-- place[y], lent -/
def eLend (fo : Option (Str × Str)) (mo mk : Ss → Option AV) : M AV := fun st => match (mo st).bind locOf with
  | some l => (match mk st with
    | some (.int k) => (match getPl st.s l fo with
      | some (.nst rows) => (match ixN rows.length k with
        | some j => (match rows[j]? with
          | some d => bif ownA d then .ok (.loc st.s.length) ⟨st.r, setPl st.s l fo (.nst (rows.set j (.loc st.s.length))) ++ [d]⟩ else .bad
          | none => .bad)
        | none => .bad)
      | _ => .bad)
    | _ => .bad)
  | none => .bad
/-- what was lent goes back: the object's number, the row's, the lent one's in three slots -/
def unlS (fo : Option (Str × Str)) (io ik ir : Nat) (st : Ss) : Ss := match getSl st.r io, getSl st.r ik, getSl st.r ir with
  | .im (.loc l), .im (.int k), .im (.loc n) => (match getPl st.s l fo with
    | some (.nst rows) => (match ixN rows.length k with
      | some j => (match rows[j]?, st.s[n]? with
        | some (.loc n'), some d => if n' = n ∧ n ≠ l ∧ ownA d = true then ⟨st.r, setPl (st.s.set n .ded) l fo (.nst (rows.set j d))⟩ else st
        | _, _ => st)
      | none => st)
    | _ => st)
  | _, _, _ => st
def sUnl (fo : Option (Str × Str)) (io ik ir : Nat) (mb : M Fl) : M Fl := fun st => match mb st with
  | .ok f s => .ok f (unlS fo io ik ir s)
  | .err c s => .err c (unlS fo io ik ir s)
  | .bad => .bad
section
variable {X : Cx} {Γ : Gam} {W : WX} {σ : L2.St} {H : Hp} {st : Ss} {p : Pd} {K : PySem.W.Frag} {pos : Pos} {o ek : Expr} {fo : Option (Str × Str)} {mo mk : Ss → Option AV}
theorem Rel.unlS (R : Rel K Γ σ H st p) (io ik ir : Nat) : Rel K Γ σ H (unlS fo io ik ir st) p := by
  obtain ⟨m, ar, am, ao, ab, R1⟩ := id R
  unfold Fk.unlS
  split
  · split
    · rename_i rows eg
      split
      · rename_i j ej
        split
        · rename_i n' d er en
          split
          · rename_i hc
            obtain ⟨rfl, ne, hd⟩ := hc
            exact R1.unl eg er en hd ne
          · exact R
        · exact R
      · exact R
    · exact R
  · exact R
end
end Fk
/-! ## except (A, B, ..): a row of classes -/
namespace Fk
open PySem PySem.Spec PyProof.Rows L2
/-- a test of an except clause: what it says of a class -/
def TstR (X : Cx) (t : Expr) (f : Value → Option Bool) : Prop :=
  ∀ (a : Addr) (oe : Obj) (pn pins : List (Addr × Obj)) (σ : L2.St) (H : Hp) (s : Shared) (b : Bool) (Q : Bool → Shared → Prop) (E : Value → Shared → Prop), Inv (X.suite a ((a, oe) :: pn)) pins σ H s → s.heap.get? a = some oe → f oe.cls = some b →
    (∀ h', (∀ q o, s.heap.get? q = some o → h'.get? q = some o) → Q b { s with heap := h' }) →
    wpAny (model X.prog X.w) (X.A.mark (some (.ref a))) (eval t X.env) (fun c s1 => wpAny (model X.prog X.w) (X.A.mark (some (.ref a))) (excMatches (.ref a) c) Q E s1) E s
section
variable {X : Cx}
/-- what is wanted of what is raised, by the clauses -/
def wTs (Wo : WX) (D : Ends) : List ((Value → Option Bool) × (Addr → Value → Option Addr → TS)) → WX
  | [] => Wo
  | (f, ts) :: r => fun cls d σ H => ∃ b, f cls = some b ∧ (b = true → ∀ a, H a = none → ts a cls d D σ H) ∧ (b = false → wTs Wo D r cls d σ H)
inductive HdT (X : Cx) : List ExceptHandler → List ((Value → Option Bool) × (Addr → Value → Option Addr → TS)) → Prop
  | nil : HdT X [] []
  | cons {t : Expr} {f : Value → Option Bool} {ts : Addr → Value → Option Addr → TS} {b₀ : Stmt} {suite : List Stmt} {p' : Pos} {hds : List ExceptHandler} {l : List ((Value → Option Bool) × (Addr → Value → Option Addr → TS))} (ht : TstR X t f)
      (hsu : ∀ (a : Addr) (oe : Obj) (cls : Value) (d : Option Addr) (pn : List (Addr × Obj)), L2N.Zn cls d oe → (∃ vs, oe.data = .fields vs) → PSs (X.suite a ((a, oe) :: pn)) (b₀ :: suite) (ts a cls d)) (r : HdT X hds l) :
      HdT X (.ExceptHandler (some t) none (b₀ :: suite) p' :: hds) ((f, ts) :: l)
end
end Fk
/-! ## defs called in an except suite; try by tests -/
namespace Fk
open PySem PySem.Spec PyProof.Rows L2
section
variable {P : Program} {w : World} {K : PySem.W.Frag} {mg : Str → Option Value} {base : Heap} {k : Nat} {f : Addr} {fd : FuncData} {ps N : List Str} {sp : Sp} {x qual : Str} {params : Arguments} {body : List Stmt} {scope : Scope} {dvs : List V} {kws : List (Str × V)} {T : List (Addr × Str)}
abbrev cxHt (P : Program) (w : World) (K : PySem.W.Frag) (mg : Str → Option Value) (base : Heap) (N : List Str) (qual : Str) (scope : Scope) (f : Addr) (cd : Value) (A : Around) (outer : List Env) (s : Shared) (H : Hp) (E : XK) (p : Addr × Obj) : Cx :=
  L2H.cxH (L2N.CX P w) P w K mg base N qual scope f cd A outer s H E p
end
section
variable {X : Cx} {Γ : Gam} {W : WX} {σ : L2.St} {H : Hp} {st : Ss} {p : Pd} {K : PySem.W.Frag} {pos apos cpos q : Pos} {o e : Expr} {es : List Expr} {x : Str} {i k j n : Nat} {C nm : Str} {fs : List Str} {ps : List Str} {f : Fn} {mo : M AV} {ma : M (List AV)}
/-! ### try by tests -/
def ExcA (f : Value → Option Bool) (K : PySem.W.Frag) (U cs : List Str) : Prop := ∀ c ∈ U, f (.ref (He.ga K c)) = some (decide (c ∈ cs))
theorem excm_A {K : PySem.W.Frag} {C : Str} {U cs : List Str} (h : ExcM K C U cs) : ExcA (fun cls => PySem.W.exmOne K cls (.ref (He.ga K C))) K U cs := h
inductive HdN (X : Cx) (Γ : Gam) (U : List Str) : List ExceptHandler → List (List Str × M Fl) → Prop
  | nil : HdN X Γ U [] []
  | cons {t : Expr} {g : Value → Option Bool} {cs : List Str} {mh : M Fl} {b₀ : Stmt} {suite : List Stmt} {p' : Pos} {hds : List ExceptHandler} {l : List (List Str × M Fl)} (ht : TstR X t g) (hm : ExcA g X.K U cs)
      (hsu : ∀ (a : Addr) (oe : Obj) (pn : List (Addr × Obj)) (cls : Value) (d : Option Addr), L2N.Zn cls d oe → (∃ vs, oe.data = .fields vs) → PSs (X.suite a ((a, oe) :: pn)) (b₀ :: suite) (rdS X.K Γ noX mh)) (r : HdN X Γ U hds l) :
      HdN X Γ U (.ExceptHandler (some t) none (b₀ :: suite) p' :: hds) ((cs, mh) :: l)
theorem HdN.hds {U : List Str} {hds : List ExceptHandler} {l : List (List Str × M Fl)} (h : HdN X Γ U hds l) : ∃ l', HdT X hds l' ∧ ∀ (D : Ends) (c : Str) (st : Ss) (p : Pd) (σ : L2.St) (H : Hp), c ∈ U → Rel X.K Γ σ H st p → p.nob = p →
    Pos_ X.K Γ W D p (match pickH c l with
      | some h => capX (h st)
      | none => .err c st) → wTs W D l' (.ref (He.ga X.K c)) none σ H := by
  induction h with
  | nil => exact ⟨[], .nil, fun D c st p σ H _ R _ h => h σ H R⟩
  | @cons t g cs mh b₀ suite p' hds l ht hm hsu r ih =>
    obtain ⟨l', h1, h2⟩ := ih
    refine ⟨_, .cons (ts := fun _ _ _ => rdS X.K Γ noX mh) ht (fun a oe cls d pn z f => hsu a oe pn cls d z f) h1, fun D c st p σ H hc R hp h => ⟨_, hm c hc, fun e a na => ?_, fun e => ?_⟩⟩
    · have e : c ∈ cs := of_decide_eq_true e
      rw [pickH, if_pos e] at h
      refine ⟨st, p, R, hp, ?_⟩
      simp only at h
      cases em : mh st with
      | bad => rw [em] at h; exact h
      | err c s => rw [em] at h; exact h.elim
      | ok f s =>
        rw [em] at h
        cases f <;> exact h
    · have e : c ∉ cs := of_decide_eq_false e
      rw [pickH, if_neg e] at h
      exact h2 D c st p σ H hc R hp h
end
end Fk
/-! ## in, not in; count, index -/
namespace Fk
open PySem PySem.Spec PyProof.Rows L2
section
variable {X : Cx}
def rInT (K : PySem.W.Frag) (g : Bool → Bool) : R2 := fun x y H Q => ∃ d ds, Dp K H x d ∧ Dp K H y (.tuple ds) ∧ SeqAt.shaped d = true ∧ SeqAt.shaped (.tuple ds) = true ∧ Q (.bl (g (ds.any fun z => PyData.eqv z d))) H
theorem op_inT (hu : X.A.units + 65 < cLine) : OpR X (compareOp .In) (rInT X.K fun b => b) := by
  intro pins s σ H x y v u Q I rx ry h
  obtain ⟨d, ds, h1, h2, s1, s2, q⟩ := h
  obtain ⟨as, r1⟩ := Dp.reads I d x v h1 rx
  obtain ⟨bs, r2⟩ := Dp.reads I (.tuple ds) y u h2 ry
  exact SeqAt.in_tuple_reads r2 r1 (SeqAt.canLay_of_shaped s2) (SeqAt.canLay_of_shaped s1) (room_in_shaped s1 hu) ⟨.bl _, H, I, rfl, q⟩
theorem op_nInT (hu : X.A.units + 65 < cLine) : OpR X (compareOp .NotIn) (rInT X.K fun b => !b) := by
  intro pins s σ H x y v u Q I rx ry h
  obtain ⟨d, ds, h1, h2, s1, s2, q⟩ := h
  obtain ⟨as, r1⟩ := Dp.reads I d x v h1 rx
  obtain ⟨bs, r2⟩ := Dp.reads I (.tuple ds) y u h2 ry
  exact SeqAt.notIn_tuple_reads r2 r1 (SeqAt.canLay_of_shaped s2) (SeqAt.canLay_of_shaped s1) (room_in_shaped s1 hu) ⟨.bl _, H, I, rfl, q⟩
def rDIn (g : Bool → Bool) : R2 := fun x y H Q => ∃ a o, y = .ref a ∧ DGet H a x o ∧ Q (.bl (g o.isSome)) H
theorem op_dIn (hu : X.A.units + 1 < cLine) : OpR X (compareOp .In) (rDIn fun b => b) := by
  intro pins s σ H x y v u Q I rx ry h
  obtain ⟨a, o, rfl, g, q⟩ := h
  obtain rfl : u = Value.ref a := ry
  exact d_in hu I g rx fun s3 I3 => ⟨.bl o.isSome, H, I3, rfl, q⟩
theorem op_dNin (hu : X.A.units + 1 < cLine) : OpR X (compareOp .NotIn) (rDIn fun b => !b) := by
  intro pins s σ H x y v u Q I rx ry h
  obtain ⟨a, o, rfl, g, q⟩ := h
  obtain rfl : u = Value.ref a := ry
  exact d_notIn hu I g rx fun s3 I3 => ⟨.bl (!o.isSome), H, I3, rfl, q⟩
def uIn (K : PySem.W.Frag) : R2 := fun x y H Q => rInD K x y H Q ∨ (rInT K (fun b => b) x y H Q ∨ rDIn (fun b => b) x y H Q)
def uNin (K : PySem.W.Frag) : R2 := fun x y H Q => rNotInD K x y H Q ∨ (rInT K (fun b => !b) x y H Q ∨ rDIn (fun b => !b) x y H Q)
theorem oo_in (hu : X.A.units + 65 < cLine) : OpR X (compareOp .In) (uIn X.K) := (op_inD hu).or ((op_inT hu).or (op_dIn (by omega)))
theorem oo_nin (hu : X.A.units + 65 < cLine) : OpR X (compareOp .NotIn) (uNin X.K) := (op_notInD hu).or ((op_nInT hu).or (op_dNin (by omega)))
end
/-- whether one is among others -/
def inA (x y : AV) : Option Bool := match dicA y with
  | some (ks, _) => (keyA x).map fun k => hasK ks k
  | none => match y with
    | .lst _ xs => if okA x && okA y then some ((dats xs).any fun z => PyData.eqv z (dat x)) else none
    | .nst xs => if okA x && okA y then some ((dats xs).any fun z => PyData.eqv z (dat x)) else none
    | .scr xs => if okA x && okA y then some ((dats xs).any fun z => PyData.eqv z (dat x)) else none
    | .tup xs => if okA x && okA y then some ((dats xs).any fun z => PyData.eqv z (dat x)) else none
    | _ => none
def oIn (x y : AV) : Option AV := (inA x y).map AV.bl
def oNin (x y : AV) : Option AV := (inA x y).map fun b => AV.bl (!b)
section
variable {K : PySem.W.Frag} {H : Hp} {W m : List Addr} {a1 a2 : List Addr} {v1 v2 : V} {x y : AV}
theorem valV_has {k : Key} : ∀ {kvs : List (Key × V)}, (valV kvs k).isSome = hasK (kvs.map (·.1)) k
  | [] => rfl
  | (k', v) :: kvs => by
    have ih := valV_has (k := k) (kvs := kvs)
    unfold valV hasK at *
    simp only [List.map_cons, List.any_cons, List.find?_cons]
    by_cases c : k' = k
    · simp [c]
    · simp only [decide_eq_false c, Bool.false_or]
      first
        | exact ih
        | simpa [c] using ih
theorem in_sem {b : Bool} (r1 : Rp K H W m [v1] [x] a1) (r2 : Rp K H W m [v2] [y] a2) (e : inA x y = some b) :
    (∃ d ds, Dp K H v1 d ∧ (Dp K H v2 (.list ds) ∧ SeqAt.shaped (.list ds) = true ∨ Dp K H v2 (.tuple ds) ∧ SeqAt.shaped (.tuple ds) = true) ∧ SeqAt.shaped d = true ∧ b = ds.any fun z => PyData.eqv z d) ∨ ∃ a o, v2 = .ref a ∧ DGet H a v1 o ∧ b = o.isSome := by
  have ok : ∀ {x : AV} {v : V} {as : List Addr}, Rp K H W m [v] [x] as → okA x = true → Dp K H v (dat x) ∧ SeqAt.shaped (dat x) = true := fun {x v as} r h => by
    unfold okA at h
    rw [Bool.and_eq_true] at h
    exact ⟨r.dp h.1, h.2⟩
  unfold inA at e
  cases ed : dicA y with
  | some t =>
    obtain ⟨ks, ys⟩ := t
    rw [ed] at e
    simp only at e
    obtain ⟨k, ek, rfl⟩ := Option.map_eq_some_iff.mp e
    right
    have hk : v1 = kV k := by
      cases x with
      | int i => cases ek; cases r1; rfl
      | str z => cases ek; cases r1; rfl
      | _ => cases ek
    have fin : ∀ (a : Addr) (kvs : List (Key × V)), v2 = .ref a → H a = some (.dK kvs) → kvs.map (·.1) = ks → ∃ a o, v2 = .ref a ∧ DGet H a v1 o ∧ hasK ks k = o.isSome := fun a kvs e1 e2 e3 =>
      ⟨a, valV kvs k, e1, .inl ⟨kvs, k, Rd.of e2, hk, rfl⟩, by rw [valV_has, e3]⟩
    cases y with
    | dct o ks' ys' =>
      cases ed
      cases r2 with
      | dcI h _ e1 _ _ => exact fin _ _ rfl h e1
      | dcO h e1 _ _ => exact fin _ _ rfl h e1
    | ndc ks' ys' =>
      cases ed
      cases r2 with
      | ndc h e1 _ _ => exact fin _ _ rfl h e1
    | _ => cases ed
  | none =>
    rw [ed] at e
    simp only at e
    left
    cases y with
    | lst o xs =>
      simp only at e
      split at e
      · rename_i c
        rw [Bool.and_eq_true] at c
        cases e
        have q1 := ok r1 c.1
        have q2 := ok r2 c.2
        simp only [dat] at q2
        exact ⟨_, _, q1.1, .inl q2, q1.2, rfl⟩
      · cases e
    | nst xs =>
      simp only at e
      split at e
      · rename_i c
        rw [Bool.and_eq_true] at c
        cases e
        have q1 := ok r1 c.1
        have q2 := ok r2 c.2
        simp only [dat] at q2
        exact ⟨_, _, q1.1, .inl q2, q1.2, rfl⟩
      · cases e
    | scr xs =>
      simp only at e
      split at e
      · rename_i c
        rw [Bool.and_eq_true] at c
        cases e
        have q1 := ok r1 c.1
        have q2 := ok r2 c.2
        simp only [dat] at q2
        exact ⟨_, _, q1.1, .inl q2, q1.2, rfl⟩
      · cases e
    | tup xs =>
      simp only at e
      split at e
      · rename_i c
        rw [Bool.and_eq_true] at c
        cases e
        have q1 := ok r1 c.1
        have q2 := ok r2 c.2
        simp only [dat] at q2
        exact ⟨_, _, q1.1, .inr q2, q1.2, rfl⟩
      · cases e
    | _ => cases e
theorem p_in : Op2 K (uIn K) oIn := by
  intro Γ σ H st p m ar am ao ab v1 v2 x y d a1 a2 Q R0 r1 r2 e h
  obtain ⟨b, e1, rfl⟩ := Option.map_eq_some_iff.mp e
  have q := h (.bl b) H (R0.nob.rel.bl b)
  rcases in_sem r1 r2 e1 with ⟨d, ds, h1, h2 | h2, h3, rfl⟩ | ⟨a, o, rfl, g, rfl⟩
  · exact .inl ⟨d, ds, h1, h2.1, h3, h2.2, q⟩
  · exact .inr (.inl ⟨d, ds, h1, h2.1, h3, h2.2, q⟩)
  · exact .inr (.inr ⟨a, o, rfl, g, q⟩)
theorem p_nin : Op2 K (uNin K) oNin := by
  intro Γ σ H st p m ar am ao ab v1 v2 x y d a1 a2 Q R0 r1 r2 e h
  obtain ⟨b, e1, rfl⟩ := Option.map_eq_some_iff.mp e
  have q := h (.bl (!b)) H (R0.nob.rel.bl (!b))
  rcases in_sem r1 r2 e1 with ⟨d, ds, h1, h2 | h2, h3, rfl⟩ | ⟨a, o, rfl, g, rfl⟩
  · exact .inl ⟨d, ds, h1, h2.1, h3, h2.2, q⟩
  · exact .inr (.inl ⟨d, ds, h1, h2.1, h3, h2.2, q⟩)
  · exact .inr (.inr ⟨a, o, rfl, g, q⟩)
end
end Fk
/-! ## xs.count(y), xs.index(y) -/
namespace Fk
open PySem PySem.Spec PyProof.Rows L2
section
variable {X : Cx}
/-- l.count(y): how many are equal -/
def rCntD (K : PySem.W.Frag) : V → List V → Hp → VK → Prop := fun x xs H Q => ∃ (a : Addr) (y : V) (d : PyData) (ds : List PyData), x = V.ref a ∧ xs = [y] ∧ Dp K H (V.ref a) (.list ds) ∧ Dp K H y d ∧ SeqAt.shaped (.list ds) = true ∧ SeqAt.shaped d = true ∧ Q (.int (ds.countP fun z => PyData.eqv z d : Nat)) H
theorem mt_cntD (hu : X.A.units + 65 < cLine) : MtR X "list.count" (rCntD X.K) := by
  intro pins s σ H x xs v us Q I rx rxs h
  obtain ⟨a, y, d, ds, rfl, rfl, hl, hy, sl, sd, q⟩ := h
  cases rx
  obtain ⟨uy, rfl, ry⟩ := rxs.one
  obtain ⟨bs, r1⟩ := Dp.reads I d y uy hy ry
  have lay : PyData.canLayAll0 ds = true := SeqAt.canLay_of_shaped sl
  cases hl with
  | lst hs ha =>
    obtain ⟨its, rv, ⟨⟨cls, dd, data, sls⟩, n, ho, hc, hdn, hdt⟩, hlen⟩ := I.list hs
    simp only at hc hdt
    subst hc hdt
    obtain ⟨as, h4⟩ := Dp.readsAll I ds _ its ha rv
    have hmap : its.map (SeqAt.readOf s.heap) = ds := SeqAt.readsAll_map ds its as lay h4
    refine call_meets PySem.F.slot_list_count ⟨_, ho, rfl⟩ PySem.F.entry_list_count (PySem.F.args_list_count_2 _ _)
      (SeqAt.list_countAt a its.toArray n dd sls uy (fun u => PyData.eqv (SeqAt.readOf s.heap u) d)) ⟨ho, SeqAt.items_eqAt (vs := its.toArray) (by simpa using h4) r1 lay (SeqAt.canLay_of_shaped sd) (room_in_shaped sd hu), ?_⟩
    have ec : its.toArray.toList.countP (fun u => PyData.eqv (SeqAt.readOf s.heap u) d) = ds.countP fun z => PyData.eqv z d := by
      rw [← hmap, List.countP_map]
      rfl
    refine ⟨.int (ds.countP fun z => PyData.eqv z d : Nat), H, I.tok _, ⟨s.toks, ?_⟩, q⟩
    show Value.int ((its.toArray.toList.countP (fun u => PyData.eqv (SeqAt.readOf s.heap u) d) : Nat) : Int) s.toks = _
    rw [ec]
end
def fCnt (S : List AV) : List AV → Option AV
  | [x, y] => (deref S x).bind fun z => match z with
    | .lst _ xs => if okA z && okA y then some (.int ((dats xs).countP fun w => PyData.eqv w (dat y) : Nat)) else none
    | _ => none
  | _ => none
def fIdx (S : List AV) : List AV → Option AV
  | [x, y] => (deref S x).bind fun z => match z with
    | .lst _ xs => if okA z && okA y then ((dats xs).findIdx? fun w => PyData.eqv w (dat y)).map fun j => .int (j : Nat) else none
    | _ => none
  | _ => none
/-- from a thing and another one a shared one, by a method -/
def OpM (K : PySem.W.Frag) (T : String) (r : V → List V → Hp → VK → Prop) (f : List AV → List AV → Option AV) : Prop := ∀ (Γ : Gam) (σ : L2.St) (H : Hp) (st : Ss) (p : Pd) (x y d : AV), f st.s [x, y] = some d →
  (∀ m ar am ao ab v as, Rl K Γ σ H st p m ar am ao ab → Rp K H (wOf Γ ar am ao) m [v] [x] as → tyV K T v H) ∧
  ∀ m ar am ao ab v u as (Q : VK), Rl K Γ σ H st p m ar am ao ab → Rp K H (wOf Γ ar am ao) m [v, u] [x, y] as → (∀ v H', Rel K Γ σ H' st (p.nob.sh v d) → Q v H') → r v [u] H Q
section
variable {X : Cx} {Γ : Gam} {W : WX} {σ : L2.St} {H : Hp} {st : Ss} {p : Pd} {K : PySem.W.Frag} {apos cpos : Pos} {o e : Expr} {name : Str} {T : String} {r : V → List V → Hp → VK → Prop} {f : List AV → List AV → Option AV} {mo me : Ss → Option AV}
theorem s_bmP (ho : OpM X.K T r f) (h1 : PE X o (rdP X.K Γ mo)) (h2 : PE X e (rdP X.K Γ me)) (hbm : ∀ {to : TE} {t : TA}, PE X o to → PA X [e] t → PE X (.Call (.Attribute o name apos) [e] [] cpos) (tBM X.K T r to t))
    (hs : starEach [e] X.env = (false, eval e X.env) :: starEach [] X.env := by rfl) : PE X (.Call (.Attribute o name apos) [e] [] cpos) (rdE X.K Γ W (eBP f (pCons mo (pCons me pNil)))) := by
  refine pe_imp (hbm h1 (q_cons h2 q_nil hs)) fun σ H Q h => ?_
  obtain ⟨st, p, R, h⟩ := h
  unfold eBP pCons pNil at h
  cases em : mo st with
  | none => simp only [em, Option.bind_none] at h
  | some x =>
    cases en : me st with
    | none => simp only [em, en, Option.bind_some, Option.bind_none, Option.map_none] at h
    | some y =>
      simp only [em, en, Option.bind_some, Option.map_some] at h
      cases ef : f st.s [x, y] with
      | none => rw [ef] at h; exact h.elim
      | some d =>
        rw [ef] at h
        refine ⟨st, p, x, R, em, fun v R1 => ⟨?_, st, _, [y], R1, by unfold pCons pNil; simp [en], fun vs hl R2 => ?_⟩⟩
        · obtain ⟨m, ar, am, ao, ab, R3⟩ := R1
          obtain ⟨c1, c2, _, rx, r2⟩ := R3.rb.head
          exact (ho Γ σ H st p x y d ef).1 m ar am ao c2 v c1 (R3.setB (p := p.lk v x) r2) rx
        · obtain ⟨u, rfl⟩ : ∃ u, vs = [u] := by
            match vs, hl with
            | [u], _ => exact ⟨u, rfl⟩
          obtain ⟨m, ar, am, ao, ab, R3⟩ := R2
          obtain ⟨c1, c2, _, ry, r2⟩ := R3.rb.head
          obtain ⟨c3, c4, _, rx, r3⟩ := r2.head
          exact (ho Γ σ H st p x y d ef).2 m ar am ao c4 v u (c3 ++ c1) Q (R3.setB (p := { p.lk v x with bv := u :: v :: p.bv, bx := y :: x :: p.bx }) r3) (rx.cons ry) h
theorem cnt_list {z x y : AV} {xs : List AV} {o : Bool} (ez : deref st.s x = some (.lst o xs)) (hz : (okA (.lst o xs) && okA y) = true) : (∀ m ar am ao ab v as, Rl K Γ σ H st p m ar am ao ab → Rp K H (wOf Γ ar am ao) m [v] [x] as → tyV K "list" v H) ∧
    ∀ m ar am ao ab v u as, Rl K Γ σ H st p m ar am ao ab → Rp K H (wOf Γ ar am ao) m [v, u] [x, y] as → ∃ a, v = .ref a ∧ Dp K H (.ref a) (.list (dats xs)) ∧ Dp K H u (dat y) ∧ SeqAt.shaped (.list (dats xs)) = true ∧ SeqAt.shaped (dat y) = true := by
  rw [Bool.and_eq_true] at hz
  obtain ⟨hz1, hz2⟩ := hz
  unfold okA at hz1 hz2
  rw [Bool.and_eq_true] at hz1 hz2
  constructor
  · intro m ar am ao ab v as R r
    obtain ⟨as', r2⟩ := R.deref r ez
    cases r2 with
    | lsI h _ _ _ => exact ty_list h
    | lsO h _ _ => exact ty_list h
  · intro m ar am ao ab v u as R r
    obtain ⟨c1, c2, _, rx, ry⟩ := r.head
    obtain ⟨as', r2⟩ := R.deref rx ez
    have q := r2.dp hz1.1
    have q1 := hz1.2
    simp only [dat] at q q1
    have hv : ∃ a, v = .ref a := by
      cases r2 with
      | lsI _ _ _ _ => exact ⟨_, rfl⟩
      | lsO _ _ _ => exact ⟨_, rfl⟩
    obtain ⟨a, rfl⟩ := hv
    exact ⟨a, rfl, q, ry.dp hz2.1, q1, hz2.2⟩
theorem m_cnt : OpM K "list" (rCntD K) fCnt := by
  intro Γ σ H st p x y d e
  unfold fCnt at e
  obtain ⟨z, ez, e⟩ := Option.bind_eq_some_iff.mp e
  cases z with
  | lst o xs =>
    simp only at e
    split at e
    · rename_i c
      cases e
      obtain ⟨k1, k2⟩ := cnt_list (Γ := Γ) (σ := σ) (H := H) (p := p) (K := K) (z := .non) ez c
      refine ⟨k1, fun m ar am ao ab v u as Q R r h => ?_⟩
      obtain ⟨a, rfl, h1, h2, h3, h4⟩ := k2 m ar am ao ab v u as R r
      exact ⟨a, u, _, _, rfl, rfl, h1, h2, h3, h4, h _ _ (R.nob.rel.int _)⟩
    · cases e
  | _ => cases e
theorem m_idx : OpM K "list" (rIndexD K) fIdx := by
  intro Γ σ H st p x y d e
  unfold fIdx at e
  obtain ⟨z, ez, e⟩ := Option.bind_eq_some_iff.mp e
  cases z with
  | lst o xs =>
    simp only at e
    split at e
    · rename_i c
      obtain ⟨j, ej, rfl⟩ := Option.map_eq_some_iff.mp e
      obtain ⟨k1, k2⟩ := cnt_list (Γ := Γ) (σ := σ) (H := H) (p := p) (K := K) (z := .non) ez c
      refine ⟨k1, fun m ar am ao ab v u as Q R r h => ?_⟩
      obtain ⟨a, rfl, h1, h2, h3, h4⟩ := k2 m ar am ao ab v u as R r
      obtain ⟨hj, hp, hno⟩ := List.findIdx?_eq_some_iff_getElem.mp ej
      refine ⟨a, u, _, _, j, (dats xs)[j], rfl, rfl, h1, h2, h3, h4, List.getElem?_eq_getElem hj, hp, fun m z' hm hz' => ?_, h _ _ (R.nob.rel.int _)⟩
      obtain ⟨hml, rfl⟩ := List.getElem?_eq_some_iff.mp hz'
      have := hno m hm
      simpa using this
    · cases e
  | _ => cases e
end
end Fk
namespace Fk
open PySem PySem.Spec PyProof.Rows L2
section
variable {X : Cx}
end
section
variable {X : Cx} {Γ : Gam} {W : WX} {apos cpos q : Pos} {e : Expr} {x : Str} {me : Ss → Option AV} {ys : List AV}
end
end Fk
/-! ## d.setdefault(k, v) -/
namespace Fk
open PySem PySem.Spec PyProof.Rows L2
def eSetd (i : Nat) (mk mv : M AV) : M AV := fun st => match ownD (getSl st.r i) with
  | none => .bad
  | some _ => (mk st).bind fun y s1 => (mv s1).bind fun d s2 => match ownD (getSl s2.r i), keyA y with
    | some (ks, xs), some k => if ks.length < 16777216 then (match getK ks xs k with
      | some x => .ok x s2
      | none => .ok d (putD i (ks ++ [k]) (xs ++ [d]) s2)) else .bad
    | _, _ => .bad
section
variable {X : Cx} {Γ : Gam} {W : WX} {σ : L2.St} {H : Hp} {st : Ss} {p : Pd} {K : PySem.W.Frag} {apos cpos q : Pos} {ek ev : Expr} {x : Str} {i : Nat} {mk mv : M AV}
end
end Fk
/-! ## sorted(xs), xs tuples of ints, the first of any sign -/
namespace Fk
open PySem PySem.Spec PyProof.Rows L2
section
variable {prog : Program} {w : World} {A : Around} {E : Value → Shared → Prop} {s : Shared}
theorem lexN {B : Int} {b : Bool} {xs ys : List Value} {ns ms : List Int} {Q : Bool → Shared → Prop} (hx : IntsAre xs ns) (hy : IntsAre ys ms) (hl : ns.length = ms.length) (h1 : TS.Bd B ns.tail) (h2 : TS.Bd B ms.tail)
    (h : Q (decide (TS.code B ns < TS.code B ms)) s) : PySem.W.KatLex prog w A b false Q (xs.zip ys) 0 s := by
  cases hx with
  | nil =>
    cases hy with
    | cons q u hy => simp at hl
    | nil =>
      have e : decide (TS.code B [] < TS.code B []) = false := decide_eq_false (Int.lt_irrefl _)
      rw [e] at h
      exact PySem.W.kat_nil h
  | @cons p t xs ns hx =>
    cases hy with
    | nil => simp at hl
    | @cons q u ys ms hy =>
      have hl2 : ns.length = ms.length := by simpa using hl
      have b1 : TS.Bd B ns := h1
      have b2 : TS.Bd B ms := h2
      show PySem.W.KatLex prog w A b false Q ((Value.int p t, Value.int q u) :: xs.zip ys) 0 s
      refine PySem.W.kat_cons (wpAny_eqBool_int ?_)
      by_cases e : p = q
      · subst e
        rw [beq_self_eq_true]
        rw [decide_eq_decide.mpr (TS.code_same (B := B) (d := p) hl2)] at h
        exact PySem.W.kat_yes (TS.lex_ints 1 hx hy hl2 b1 b2 h)
      · rw [show (p == q) = false from beq_eq_false_iff_ne.mpr e]
        have d : (TS.code B (p :: ns) < TS.code B (q :: ms)) ↔ p < q := by
          refine ⟨fun x => ?_, fun x => TS.code_lt hl2 b1 b2 x⟩
          rcases Int.lt_trichotomy p q with y | y | y
          · exact y
          · exact absurd y e
          · have := TS.code_lt (B := B) hl2.symm b2 b1 y
            omega
        rw [decide_eq_decide.mpr d] at h
        exact PySem.W.kat_no (TS.oneLt_ints _ h)
def TokB (h : Heap) (d : Nat) (B : Int) (vs : List Value) : Prop := ∀ v ∈ vs, ∃ ns, TS.TupInts h v ns ∧ ns.length = d ∧ TS.Bd B ns.tail
theorem firstsN {h : Heap} {d : Nat} {B : Int} (hd : 1 ≤ d) : ∀ vs : List Value, TokB h d B vs → ∃ fs, PySem.W.KatTups h vs fs ∧ fs.length = vs.length ∧ ∀ f ∈ fs, ∃ n t, f = Value.int n t
  | [], _ => ⟨[], .nil, rfl, fun _ z => nomatch z⟩
  | v :: vs, x => by
    obtain ⟨fs, k, hl, hi⟩ := firstsN hd vs fun u hu => x u (by simp [hu])
    obtain ⟨ns, ⟨a, xs, rfl, ⟨o, ho, hc, n, hdt⟩, i⟩, hn, _⟩ := x v (by simp)
    cases q : xs.toList with
    | nil =>
      rw [q] at i
      have l := i.length
      simp at l
      omega
    | cons y ys =>
      obtain ⟨m, t, hy⟩ := i.all y (by simp [q])
      refine ⟨y :: fs, .cons ho hc hdt ?_ k, by simp [hl], fun f hf => ?_⟩
      · have z := congrArg (fun l : List Value => l[0]?) q
        simpa using z
      · rcases List.mem_cons.mp hf with rfl | hf
        · exact ⟨m, t, hy⟩
        · exact hi f hf
theorem kindN {d : Nat} {B : Int} {vs : List Value} (hd : 1 ≤ d) (h2 : 2 ≤ vs.length) (x : TokB s.heap d B vs) (r : Value → Int) (hr : ∀ v ∈ vs, ∀ ns, TS.TupInts s.heap v ns → r v = TS.code B ns) (Q : SortKind → Shared → Prop)
    (h : ∀ κ, TS.Cmp prog w A s κ (pairsOf vs) r → Q κ s) : wpAny (model prog w) A (keyKind' vs.toArray) Q E s := by
  obtain ⟨fs, k, hl, hi⟩ := firstsN hd vs x
  refine PySem.W.kat_kind (T := Value.type "int") k (by omega) (fun f hf => ?_) rfl (h _ ?_)
  · obtain ⟨n, t, rfl⟩ := hi f hf
    exact PySem.W.Looks.of_pure rfl
  · intro p q hp hq Q2 E2 want
    rw [pairsOf_toList] at hp hq
    have mp := (mem_zip_self hp).2
    have mq := (mem_zip_self hq).2
    obtain ⟨ns, tp, lp, bp⟩ := x _ mp
    obtain ⟨ms, tq, lq, bq⟩ := x _ mq
    rw [hr _ mp _ tp, hr _ mq _ tq] at want
    obtain ⟨a, xs, e1, ⟨o, ho, hc, n, hdt⟩, i⟩ := tp
    obtain ⟨a2, ys, e2, ⟨o2, ho2, hc2, n2, hdt2⟩, i2⟩ := tq
    rw [e1, e2]
    refine PySem.W.kat_lt ho hdt ho2 hdt2 ?_
    have sz : decide (xs.size < ys.size) = false := by
      have l1 := i.length
      have l2 := i2.length
      rw [Array.length_toList] at l1 l2
      exact decide_eq_false (by omega)
    rw [sz]
    exact lexN i i2 (by omega) bp bq want
theorem sortN {a : Addr} {vs : List Value} {n d : Nat} {B : Int} {P : PySem.Fin → Shared → Prop} (ho : s.heap.get? a = some (seqObj "list" vs.toArray n)) (h64 : vs.length < 64) (hd : 1 ≤ d) (x : TokB s.heap d B vs) (r : Value → Int) (hr : ∀ v ∈ vs, ∀ ns, TS.TupInts s.heap v ns → r v = TS.code B ns)
    (h : ∀ out : Array Value, out.toList.Perm vs → out.toList.Pairwise (fun u v => r u ≤ r v) → P (.done (.ret .none)) { s with heap := sortedHeap s.heap a vs out }) : wpAny (model prog w) A (Builtin.«list.sort» ⟨[.ref a], []⟩) P E s := by
  have stays : ∀ b o, s.heap.get? b = some o → o.cls = .type "tuple" → (TS.midHeap s.heap a vs).get? b = some o := fun b o e hc => by
    refine TS.midHeap_old (fun z => ?_) e
    subst z
    rw [ho] at e
    cases e
    injection (show Value.type "list" = Value.type "tuple" from hc) with z
    exact absurd z (by decide)
  refine SK.plain_sort (r := r) ho h64 (fun h2 Q hQ => ?_) fun ps out e1 e2 e3 => ?_
  · refine kindN (B := B) (s := { s with heap := TS.midHeap s.heap a vs }) hd h2 (fun v hv => ?_) r (fun v hv ns t => ?_) Q hQ
    · obtain ⟨ns, t, l, b⟩ := x v hv
      exact ⟨ns, t.keeps stays, l, b⟩
    · obtain ⟨ns0, t0, _⟩ := x v hv
      rw [t.ints.symm.trans (t0.keeps stays).ints]
      exact hr v hv ns0 t0
  · obtain ⟨p, o⟩ := TS.out_rank e1 e2 e3
    exact h out p o
theorem sortedN {l : Addr} {vs : List Value} {d : Nat} {B : Int} {Q : Value → Shared → Prop} (hl : s.heap.IsList l vs.toArray) (h64 : vs.length < 64) (hd : 1 ≤ d) (x : TokB s.heap d B vs)
    (h : ∀ out : Array Value, out.toList.Perm vs → out.toList.Pairwise (fun u v => TS.code B (TS.intsOf s.heap u) ≤ TS.code B (TS.intsOf s.heap v)) → Q (.ref (s.heap.objs.size + 1)) { s with heap := sortedAll s.heap vs out }) :
    wpAny (model prog w) A (call (.builtin "sorted") [.ref l]) Q E s := by
  refine Calls.call_function_entry kind_sorted plain_sorted entry_sorted (args_sorted1 _) ?_
  unfold Builtin.«sorted»
  have sm : vs.length ≤ sizeLine := by rw [sizeLine_eq]; omega
  refine wpAny_bind (m := checkCount "sorted" 1 1 _) (wpAny_pure (wpAny_bind (collect_list hl (wpAny_bind (wpAny_newList ?_ (by simpa using sm))) (by simpa using sm))))
  obtain ⟨h0, e0⟩ : ∃ h0, h0 = (s.heap.push (seqObj "list" #[] 0)).update s.heap.objs.size (Obj.mapSeq (· ++ vs.toArray)) := ⟨_, rfl⟩
  have z0 : h0.objs.size = s.heap.objs.size + 1 := by rw [e0, Heap.size_update, size_push']
  have here : (h0.push (seqObj "list" vs.toArray 0)).get? (s.heap.objs.size + 1) = some (seqObj "list" vs.toArray 0) := by
    rw [← z0]
    exact Heap.get?_push_size _ rfl
  have stays : ∀ b o, s.heap.get? b = some o → o.cls = .type "tuple" → (h0.push (seqObj "list" vs.toArray 0)).get? b = some o := fun b o q _ => by
    have lt : b < s.heap.objs.size := Heap.lt_size q
    rw [Heap.get?_push_ne _ _ _ (by rw [z0]; exact Nat.ne_of_lt (Nat.lt_succ_of_lt lt)), e0, Heap.get?_update_ne _ _ _ _ (Nat.ne_of_lt lt), Heap.get?_push_ne _ _ _ (Nat.ne_of_lt lt)]
    exact q
  dsimp only
  rw [← e0, z0]
  refine wpAny_bind (wpAny_holding (wpAny_call_entry slot_list_sort ⟨_, here, rfl⟩ entry_list_sort (sortN (s := { s with heap := h0.push (seqObj "list" vs.toArray 0) }) (B := B) here h64 hd (fun v hv => ?_) (fun v => TS.code B (TS.intsOf s.heap v)) (fun v hv ns t => ?_) fun out a1 a2 => ⟨_, rfl, ?_⟩) (args_list_sort _)))
  · obtain ⟨ns, t, l, b⟩ := x v hv
    exact ⟨ns, t.keeps stays, l, b⟩
  · obtain ⟨ns0, t0, _⟩ := x v hv
    rw [t.ints.symm.trans (t0.keeps stays).ints]
    show TS.code B (TS.intsOf s.heap v) = TS.code B ns0
    rw [t0.ints]
  · have q := h out a1 a2
    unfold sortedAll at q
    rw [← e0] at q
    exact wpAny_pure ⟨_, rfl, q⟩
end
def rSrtN (K : PySem.W.Frag) (d : Nat) (B : Int) : List V → Hp → VK → Prop := fun vs H Q => ∃ (a : Addr) (xs : List V), vs = [V.ref a] ∧ SqL K H a xs ∧ xs.length < 64 ∧ (∀ x ∈ xs, ∃ ns, TupI K H x ns ∧ ns.length = d ∧ TS.Bd B ns.tail) ∧
  ∀ (ys : List V) (p : Addr), ys.Perm xs → ys.Pairwise (fun x y => ∀ n m, TupI K H x n → TupI K H y m → TS.code B n ≤ TS.code B m) → H p = none → Q (.ref p) (upd H p (.lst ys))
theorem cr_srtN {X : Cx} {d : Nat} {B : Int} (hd : 1 ≤ d) : CallR X (.builtin "sorted") (rSrtN X.K d B) := by
  intro pins s σ H vs us Q I r h
  obtain ⟨a, xs, rfl, hs, h64, hx, q⟩ := h
  obtain ⟨its, rv, hl, hz⟩ := I.list hs
  rw [Vals.ref1 r]
  obtain ⟨e1, e2⟩ := bkV_refs rv fun x m => by
    obtain ⟨ns, ⟨t, e, _⟩, _⟩ := hx x m
    exact ⟨t, e⟩
  refine sortedN (d := d) (B := B) hl.isList (by rw [← rv.length]; exact h64) hd (fun v hv => ?_) fun out p1 p2 => ?_
  · obtain ⟨t, rfl⟩ := e2 v hv
    obtain ⟨ns, ⟨t2, e, ht⟩, hn, hb⟩ := hx (.ref t) (by rw [e1]; exact List.mem_map.mpr ⟨_, hv, rfl⟩)
    cases e
    exact ⟨ns, tupI_raw I ht, hn, hb⟩
  · obtain ⟨ep, he⟩ := PyProof.Rows.sortedAll_at s.heap its out
    have refs : ∀ u ∈ out.toList, ∃ a, u = Value.ref a := fun u hu => e2 u (p1.mem_iff.mp hu)
    have perm : (out.toList.map bkV).Perm xs := by
      rw [e1]
      exact p1.map bkV
    refine ⟨.ref _, upd H (s.heap.objs.size + 1) (.lst (out.toList.map bkV)), I.laid (t' := s.toks) (fun _ _ => PyProof.Rows.sortedAll_old) (Nat.le_succ _) ⟨by rw [perm.length_eq]; exact hz, out.toList, ep, bkV_vals refs, he⟩, rfl, q _ _ perm ?_ (I.hok.fresh (Nat.le_succ _))⟩
    rw [List.pairwise_map]
    refine List.Pairwise.imp (fun {u v} le n m hn hm => ?_) p2
    obtain ⟨t, et, ht⟩ := hn
    obtain ⟨t2, et2, ht2⟩ := hm
    rw [bkV_ref et, bkV_ref et2, (tupI_raw I ht).ints, (tupI_raw I ht2).ints] at le
    exact le
end Fk
namespace Fk
open PySem PySem.Spec PyProof.Rows L2
abbrev bB : Int := 1099511627776
def keyT : AV → List Int
  | .tup xs => (asIs xs).getD []
  | _ => []
def rkT (x : AV) : Int := TS.code bB (keyT x)
/-- a tuple of d ints, the first of any sign -/
def okK (d : Nat) : AV → Bool
  | .tup xs => match asIs xs with
    | some ns => decide (ns.length = d) && ns.tail.all fun m => decide (0 ≤ m) && decide (m < bB)
    | none => false
  | _ => false
def insR (x : AV) : List AV → List AV
  | [] => [x]
  | y :: ys => if rkT x ≤ rkT y then x :: y :: ys else y :: insR x ys
def srtR : List AV → List AV
  | [] => []
  | x :: xs => insR x (srtR xs)
theorem insR_perm (x : AV) : ∀ ys, (insR x ys).Perm (x :: ys)
  | [] => .refl _
  | y :: ys => by
    unfold insR
    split
    · exact .refl _
    · exact ((insR_perm x ys).cons y).trans (.swap x y ys)
theorem srtR_perm : ∀ xs, (srtR xs).Perm xs
  | [] => .refl _
  | x :: xs => (insR_perm x (srtR xs)).trans ((srtR_perm xs).cons x)
theorem insR_srt (x : AV) : ∀ ys, ys.Pairwise (fun a b => rkT a ≤ rkT b) → (insR x ys).Pairwise (fun a b => rkT a ≤ rkT b)
  | [], _ => by simp [insR]
  | y :: ys, h => by
    obtain ⟨h1, h2⟩ := List.pairwise_cons.mp h
    unfold insR
    split
    · rename_i c
      refine List.pairwise_cons.mpr ⟨fun z hz => ?_, h⟩
      rcases List.mem_cons.mp hz with rfl | hz
      · exact c
      · have := h1 z hz
        omega
    · rename_i c
      refine List.pairwise_cons.mpr ⟨fun z hz => ?_, insR_srt x ys h2⟩
      rcases List.mem_cons.mp ((insR_perm x ys).mem_iff.mp hz) with rfl | hz
      · omega
      · exact h1 z hz
theorem srtR_srt : ∀ xs, (srtR xs).Pairwise (fun a b => rkT a ≤ rkT b)
  | [] => .nil
  | x :: xs => insR_srt x _ (srtR_srt xs)
theorem code_injB {B : Int} : ∀ {ns ms : List Int}, ns.length = ms.length → TS.Bd B ns.tail → TS.Bd B ms.tail → TS.code B ns = TS.code B ms → ns = ms
  | [], [], _, _, _, _ => rfl
  | [], _ :: _, h, _, _, _ => by simp at h
  | _ :: _, [], h, _, _, _ => by simp at h
  | p :: ns, q :: ms, hl, h1, h2, e => by
    have hl2 : ns.length = ms.length := by simpa using hl
    have pq : p = q := by
      rcases Int.lt_trichotomy p q with y | y | y
      · have := TS.code_lt (B := B) hl2 h1 h2 y
        omega
      · exact y
      · have := TS.code_lt (B := B) hl2.symm h2 h1 y
        omega
    subst pq
    have e2 : TS.code B ns = TS.code B ms := by
      have e3 : p * B ^ ns.length + TS.code B ns = p * B ^ ms.length + TS.code B ms := e
      rw [hl2] at e3
      omega
    have t1 : TS.Bd B ns.tail := fun m hm => h1 m (List.mem_of_mem_tail hm)
    have t2 : TS.Bd B ms.tail := fun m hm => h2 m (List.mem_of_mem_tail hm)
    rw [code_injB hl2 t1 t2 e2]
theorem okK_i {d : Nat} {x : AV} (h : okK d x = true) : ∃ ns : List Int, x = .tup (ns.map AV.int) ∧ keyT x = ns ∧ ns.length = d ∧ TS.Bd bB ns.tail := by
  cases x with
  | tup xs =>
    unfold okK at h
    cases e : asIs xs with
    | none => simp [e] at h
    | some ns =>
      simp only [e, Bool.and_eq_true, decide_eq_true_eq, List.all_eq_true] at h
      have ex : xs = ns.map AV.int := by
        clear h
        induction xs generalizing ns with
        | nil => cases e; rfl
        | cons x xs ih =>
          cases x with
          | int i =>
            unfold asIs at e
            obtain ⟨ms, em, rfl⟩ := Option.map_eq_some_iff.mp e
            rw [ih ms em]
            rfl
          | _ => cases e
      refine ⟨ns, by rw [ex], by simp [keyT, e], h.1, fun m hm => ?_⟩
      exact h.2 m hm
  | _ => cases h
theorem rk_inj {d : Nat} {x y : AV} (hx : okK d x = true) (hy : okK d y = true) (e : rkT x = rkT y) : x = y := by
  obtain ⟨ns, rfl, k1, l1, b1⟩ := okK_i hx
  obtain ⟨ms, rfl, k2, l2, b2⟩ := okK_i hy
  unfold rkT at e
  rw [k1, k2] at e
  rw [code_injB (by omega) b1 b2 e]
theorem srtR_uniq {d : Nat} {xs ys : List AV} (p : ys.Perm xs) (hs : ys.Pairwise (fun a b => rkT a ≤ rkT b)) (ok : ∀ x ∈ xs, okK d x = true) : ys = srtR xs := by
  have e : ys.map rkT = (srtR xs).map rkT := srt_uniq ((p.trans (srtR_perm xs).symm).map rkT) (List.pairwise_map.mpr hs) (List.pairwise_map.mpr (srtR_srt xs))
  have o1 : ∀ x ∈ ys, okK d x = true := fun x hx => ok x (p.mem_iff.mp hx)
  have o2 : ∀ x ∈ srtR xs, okK d x = true := fun x hx => ok x ((srtR_perm xs).mem_iff.mp hx)
  generalize srtR xs = zs at e o2
  clear p hs ok
  induction ys generalizing zs with
  | nil =>
    cases zs with
    | nil => rfl
    | cons z zs => cases e
  | cons y ys ih =>
    cases zs with
    | nil => cases e
    | cons z zs =>
      injection e with e1 e2
      rw [rk_inj (o1 y (by simp)) (o2 z (by simp)) e1, ih (fun x hx => o1 x (by simp [hx])) zs e2 (fun x hx => o2 x (by simp [hx]))]
def lenT : AV → Nat
  | .tup xs => xs.length
  | _ => 0
def okRow (xs : List AV) : Bool := decide (xs.length < 64) && (match xs with
  | [] => true
  | x :: ys => decide (1 ≤ lenT x) && (x :: ys).all (okK (lenT x)))
def fSrtT (_ : List AV) : List AV → Option (List AV)
  | [.lst _ xs] => if okRow xs = true then some (srtR xs) else none
  | _ => none
def fSrt2 (S xs : List AV) : Option (List AV) := match fSrt S xs with
  | some r => some r
  | none => fSrtT S xs
def uSrt2 (K : PySem.W.Frag) : List V → Hp → VK → Prop := fun vs H Q => uSrt K vs H Q ∨ ∃ d, 1 ≤ d ∧ rSrtN K d bB vs H Q
theorem c_srt2 {X : Cx} (hc : X.calm = true) : CallR X (.builtin "sorted") (uSrt2 X.K) := CallR.or (c_srt hc) (fun pins s σ H xs us Q I r h => by
  obtain ⟨d, hd, h⟩ := h
  exact cr_srtN hd pins s σ H xs us Q I r h)
section
variable {K : PySem.W.Frag} {H : Hp} {W m : List Addr}
theorem rp_perm {vs ws : List V} (p : ws.Perm vs) : ∀ {xs : List AV}, Rp K H W m vs xs [] → ∃ ys, ys.Perm xs ∧ Rp K H W m ws ys [] := by
  induction p with
  | nil => exact fun r => ⟨_, .refl _, r⟩
  | @cons v l1 l2 _ ih =>
    intro xs r
    cases xs with
    | nil => cases r.nil_inv.1
    | cons x xs =>
      obtain ⟨ys, p1, r1⟩ := ih r.head0.2
      exact ⟨x :: ys, p1.cons x, r.head0.1.cons0 r1⟩
  | swap a b l =>
    intro xs r
    cases xs with
    | nil => cases r.nil_inv.1
    | cons x xs =>
      cases xs with
      | nil => cases r.head0.2.nil_inv.1
      | cons y xs => exact ⟨y :: x :: xs, .swap x y xs, r.head0.2.head0.1.cons0 (r.head0.1.cons0 r.head0.2.head0.2)⟩
  | trans _ _ ih1 ih2 =>
    intro xs r
    obtain ⟨ys, p1, r1⟩ := ih2 r
    obtain ⟨zs, p2, r2⟩ := ih1 r1
    exact ⟨zs, p2.trans p1, r2⟩
theorem tupI_of {v : V} {x : AV} {ns : List Int} (r : Rp K H W m [v] [x] []) (e : x = .tup (ns.map AV.int)) : TupI K H v ns := by
  subst e
  cases r with
  | @tup a us _ _ _ _ h q _ =>
    have eu : us = ns.map V.int := by
      clear h
      induction ns generalizing us with
      | nil => exact q.nil_inv.1
      | cons n ns ih =>
        cases us with
        | nil => cases q.nil_inv'.1
        | cons u us =>
          have q0 := Rp.head0 (show Rp K H W m (u :: us) (.int n :: ns.map AV.int) [] from q)
          rw [ih q0.2]
          cases q0.1
          rfl
    subst eu
    exact ⟨a, rfl, h⟩
theorem o_srt2 : OpL K (uSrt2 K) fSrt2 := by
  intro Γ σ H st p m ar am ao ab vs xs as ys Q R r e h
  unfold fSrt2 at e
  cases ef : fSrt st.s xs with
  | some t =>
    rw [ef] at e
    cases e
    exact .inl (o_srt Γ σ H st p m ar am ao ab vs xs as ys Q R r ef h)
  | none =>
    rw [ef] at e
    simp only at e
    right
    unfold fSrtT at e
    split at e
    · rename_i o zs
      split at e
      · rename_i c
        cases e
        obtain ⟨v, rfl, r1⟩ := r.one
        obtain ⟨a, us, rfl, hs, q⟩ := r1.lst_i
        unfold okRow at c
        rw [Bool.and_eq_true, decide_eq_true_eq] at c
        obtain ⟨c1, c2⟩ := c
        obtain ⟨d, hd, ok⟩ : ∃ d, 1 ≤ d ∧ ∀ x ∈ zs, okK d x = true := by
          cases zs with
          | nil => exact ⟨1, by omega, fun _ z => nomatch z⟩
          | cons x zs =>
            rw [Bool.and_eq_true, decide_eq_true_eq, List.all_eq_true] at c2
            exact ⟨_, c2.1, c2.2⟩
        refine ⟨d, hd, a, us, rfl, SqL.of hs, by rw [q.len]; exact c1, fun u hu => ?_, fun ws q' pm ps hq => ?_⟩
        · obtain ⟨j, hj, ej⟩ := List.getElem_of_mem hu
          have hj2 : j < zs.length := by rw [← q.len]; exact hj
          obtain ⟨u', eu, ru⟩ := q.get0 (List.getElem?_eq_getElem hj2)
          rw [List.getElem?_eq_getElem hj, ej] at eu
          cases eu
          obtain ⟨ns, e1, _, l1, b1⟩ := okK_i (ok _ (List.getElem_mem hj2))
          exact ⟨ns, tupI_of ru e1, l1, b1⟩
        · obtain ⟨ys, p1, r2⟩ := rp_perm pm q
          have hsrt : ys.Pairwise (fun a b => rkT a ≤ rkT b) := by
            have ok2 : ∀ x ∈ ys, okK d x = true := fun x hx => ok x (p1.mem_iff.mp hx)
            clear p1 pm hq h ef
            induction ws generalizing ys with
            | nil =>
              obtain ⟨rfl, _⟩ := r2.nil_inv'
              exact .nil
            | cons w ws ih =>
              cases ys with
              | nil => exact .nil
              | cons y ys =>
                obtain ⟨h1, h2⟩ := List.pairwise_cons.mp ps
                refine List.pairwise_cons.mpr ⟨fun z hz => ?_, ih h2 ys r2.head0.2 fun x hx => ok2 x (by simp [hx])⟩
                obtain ⟨j, hj, ej⟩ := List.getElem_of_mem hz
                obtain ⟨u', eu, ru⟩ := r2.head0.2.get0 (List.getElem?_eq_getElem hj)
                rw [ej] at ru
                obtain ⟨ns, e1, k1, _, _⟩ := okK_i (ok2 y (by simp))
                obtain ⟨ms, e2, k2, _, _⟩ := okK_i (ok2 z (by simp [hz]))
                have := h1 u' (List.mem_of_getElem? eu) ns ms (tupI_of r2.head0.1 e1) (tupI_of ru e2)
                unfold rkT
                rw [k1, k2]
                exact this
          rw [srtR_uniq p1 hsrt ok] at r2
          exact h q' ws hq r2
      · cases e
    · cases e
end
end Fk
/-! ## several names at once, some of them seen by comprehensions -/
namespace Fk
open PySem PySem.Spec PyProof.Rows L2
section
variable {X : Cx} {Γ : Gam} {W : WX} {σ : L2.St} {H H' : Hp} {st : Ss} {p : Pd} {K : PySem.W.Frag} {pos : Pos} {m ar am ao ab : List Addr}
end
end Fk
/-! ## methods of new lists; new lists by +; a place of a builder as a target -/
namespace Fk
open PySem PySem.Spec PyProof.Rows L2
section
variable {X : Cx} {Γ : Gam} {W : WX} {σ : L2.St} {H H' : Hp} {st : Ss} {p : Pd} {K : PySem.W.Frag} {pos apos cpos : Pos} {m ar am ao ab : List Addr}
def isL : AV → Bool
  | .lst _ _ => true
  | _ => false
/-- x.f(y), both of them values -/
def eBM (f : List AV → List AV → Option AV) (mo me : M AV) : M AV := fun st => (mo st).bind fun x s1 => bif isL x then (me s1).bind fun y s2 => ofO (f s2.s [x, y]) s2 else .bad
/-- a place of a list that is owned by a name -/
def gIx (i : Nat) (mk : Ss → Option AV) (d : AV) (st : Ss) : Option Ss := match ownL (getSl st.r i), mk st with
  | some xs, some y => (setIx xs y d).map fun ys => putL i ys st
  | _, _ => none
/-- x[i], y[j] = a, b -/
def sPut2 (i j : Nat) (ki kj : Ss → Option AV) (ma mb : M AV) : M Fl := fun st => (ma st).bind fun x s1 => (mb s1).bind fun y s2 => match gIx i ki x s2 with
  | some s3 => (match gIx j kj y s3 with
    | some s4 => .ok .nx s4
    | none => .bad)
  | none => .bad
end
end Fk
/-! ## min of a list of tuples of ints -/
namespace Fk
open PySem PySem.Spec PyProof.Rows L2 PySem.W
section
variable {K : PySem.W.Frag}
end
end Fk
/-! ## a, *b = t -/
namespace Fk
open PySem PySem.Spec PyProof.Rows L2 PySem.W
section
variable {prog : Program} {w : World} {A : Around} {E : Value → Shared → Prop} {s : Shared}
theorem nolen_ti : typeLookup (.type "tuple_iterator") "__len__" = pure none := by rw [typeLookup_type, builtinLookup_eq_fast]; kernel_rfl
theorem hint_ti : typeLookup (.type "tuple_iterator") "__length_hint__" = pure (some (.builtin "tuple_iterator.__length_hint__")) := by rw [typeLookup_type, builtinLookup_eq_fast]; kernel_rfl
theorem walks_from {I ax : Addr} {items : Array Value} (hh : A.handled = none) (hne : ax ≠ I) (k : Nat) (hk : k ≤ items.size) :
    Walks prog w A I [I, ax] [I] (items.size - k) (fun i v => items[i + k]? = some v) (fun i h => h.IsTupleIter I ax (i + k) ∧ h.IsTuple ax items) where
  sub := (Walks.tuple (prog := prog) (w := w) hh I ax hne items).sub
  frame := fun i => (Walks.tuple (prog := prog) (w := w) hh I ax hne items).frame (i + k)
  item := fun i s Q E hi st hQ => (Walks.tuple (prog := prog) (w := w) hh I ax hne items).item (i + k) s Q E (by omega) st fun v h' tk p st' kp => hQ v h' tk p (by rw [show i + 1 + k = i + k + 1 by omega]; exact st') kp
  done := fun s Q E st hQ => (Walks.tuple (prog := prog) (w := w) hh I ax hne items).done s Q E (by rw [show items.size - k + k = items.size by omega] at st; exact st) hQ
  self := fun i => (Walks.tuple (prog := prog) (w := w) hh I ax hne items).self (i + k)
theorem collect_ti {it l : Addr} {items : Array Value} {k : Nat} {Q : List Value → Shared → Prop} (hh : A.handled = none) (hit : s.heap.IsTupleIter it l k) (hl : s.heap.IsTuple l items) (hne : l ≠ it) (hk : k ≤ items.size) (hn : items.size ≤ sizeLine)
    (hQ : ∀ (h' : Heap) (tk : Nat) (acc : Array Value), (∀ b o, b ≠ it → s.heap.get? b = some o → h'.get? b = some o) → ItemsOf (fun i v => items[i + k]? = some v) acc (items.size - k) → Q acc.toList { s with heap := h', toks := tk }) :
    wpAny (model prog w) A (collect (.ref it)) Q E s := by
  have W := (walks_from (prog := prog) (w := w) (A := A.in1) (items := items) hh hne k hk).toS
  obtain ⟨oi, hoi, _⟩ := id hit
  obtain ⟨ol, hol, _⟩ := id hl
  have hSi : s.heap.objs.size ≠ it := Nat.ne_of_gt (Heap.lt_size hoi)
  have hSl : s.heap.objs.size ≠ l := Nat.ne_of_gt (Heap.lt_size hol)
  have hSf : s.heap.objs.size ∉ [it, l] := by simp only [List.mem_cons, List.not_mem_nil, or_false, not_or]; exact ⟨hSi, hSl⟩
  unfold collect
  refine wpAny_bind (wpAny_runValue (codeAny_builtin F.entry_proto_collect ?_))
  rw [Around.under_plainId F.plain_proto_collect _]
  show wpAny _ A.in1 (newList [] >>= fun l' => again (.builtin "list.__iadd__" ⟨[l', .ref it], []⟩)) _ _ s
  refine wpAny_bind (wpAny_newObj_type ?_)
  refine wpAny_pure ⟨plainId_quiet F.plain_list_iadd _, codeAny_builtin F.entry_list_iadd ?_⟩
  rw [Around.under_plainId F.plain_list_iadd _]
  have hS₁ : (s.heap.push { cls := .type "list", data := .seq ([] : List Value).toArray }).get? s.heap.objs.size = some { cls := .type "list", data := .seq ([] : List Value).toArray } := Heap.get?_push_size _ rfl
  have hit1 : (s.heap.push { cls := .type "list", data := .seq ([] : List Value).toArray }).IsTupleIter it l k := hit.at fun o e => Heap.get?_push_of_some _ e
  have hl1 : (s.heap.push { cls := .type "list", data := .seq ([] : List Value).toArray }).IsTuple l items := hl.push _
  have hT : ({ s with heap := s.heap.push { cls := .type "list", data := .seq ([] : List Value).toArray } } : Shared).TypeIs (.ref it) "tuple_iterator" := by
    obtain ⟨o, ho, hc, _⟩ := id hit1
    exact ⟨o, ho, hc⟩
  have h1 : Builtin.List.listSameRef (.ref s.heap.objs.size) (.ref it) = false := by simp [Builtin.List.listSameRef, hSi]
  show wpAny _ A.in1 (Builtin.List.listExtendWith (.ref s.heap.objs.size) (.ref it) (.ref s.heap.objs.size)) _ _ _
  unfold Builtin.List.listExtendWith
  refine wpAny_bind (wpAny_typeOf hT ?_)
  rw [if_neg (by rw [h1]; decide)]
  refine wpAny_bind (W.self 0 _ _ _ ⟨by rw [Nat.zero_add]; exact hit1, hl1⟩ ?_)
  refine wpAny_bind (wpAny_holding ?_)
  unfold Builtin.List.listLengthHint
  refine wpAny_bind (wpAny_specialOf hT nolen_ti ?_)
  show wpAny _ A.in1 (specialOf (Value.ref it) (Str.ofString "__length_hint__") >>= _) _ _ _
  refine wpAny_bind (wpAny_specialOf hT hint_ti ?_)
  generalize hid : ("tuple_iterator.__length_hint__" : String) = id0
  wp_delta
  rw [show splitId id0 = some ("tuple_iterator", "__length_hint__") from by subst hid; decide +kernel]
  subst hid
  refine wpAny_bind (wpAny_isInstance (b := true) hT (by rw [isSubtype_type]; kernel_rfl) ?_)
  refine wpAny_pure ?_
  rw [if_neg (by decide)]
  refine wpAny_pure ⟨plainId_quiet F.plain_extend_loop _, codeAny_extend_loopS W (by omega) _ hSf _ (items.size - k) 0 _ _ _ rfl (Nat.zero_le _) ⟨by rw [Nat.zero_add]; exact hit1, hl1⟩ hS₁ (ItemsOf.nil _) fun s' acc' c' hm hS' hacc => ?_⟩
  show wpAny _ A (load s.heap.objs.size >>= _) _ _ s'
  refine wpAny_bind (wpAny_load hS' ?_)
  refine wpAny_pure ?_
  rw [Moved.eq_with hm]
  refine hQ s'.heap s'.toks acc' (fun b o hb e => hm.heap b o (fun hmem => ?_) (Heap.get?_push_of_some _ e)) hacc
  rcases List.mem_cons.mp hmem with e' | hmem
  · exact absurd (Heap.lt_size e) (by rw [e']; exact Nat.lt_irrefl _)
  · exact hb (List.mem_singleton.mp hmem)
theorem items_acc {items acc : Array Value} {k : Nat} (h : ItemsOf (fun i v => items[i + k]? = some v) acc (items.size - k)) (hk : k ≤ items.size) : acc.toList = items.toList.drop k := by
  obtain ⟨h1, h2⟩ := h
  apply List.ext_getElem?
  intro i
  rw [List.getElem?_drop]
  by_cases c : i < acc.size
  · obtain ⟨v, hv, hp⟩ : ∃ v, acc[i]? = some v ∧ items[i + k]? = some v := by
      refine ⟨acc[i], by simp [c], ?_⟩
      simpa using h2 i _ (by simp [c])
    have e1 : acc.toList[i]? = some v := by simpa using hv
    have e2 : items.toList[k + i]? = some v := by rw [Nat.add_comm]; simpa using hp
    rw [e1, e2]
  · rw [List.getElem?_eq_none (by simpa using Nat.le_of_not_lt c), List.getElem?_eq_none (by simp; omega)]
theorem unpackItems_star {t : Addr} {x : Value} {rest : List Value} {Q : List Value → Shared → Prop} (hh : A.handled = none) (ht : IsTup s.heap t (x :: rest).toArray) (hn : rest.length + 1 ≤ sizeLine)
    (hQ : ∀ (h' : Heap) (tk : Nat), (∀ b o, s.heap.get? b = some o → h'.get? b = some o) → Q [x, .ref h'.objs.size] { s with heap := h'.push { cls := .type "list", data := .seq rest.toArray }, toks := tk }) : wpAny (model prog w) A (unpackItems (.ref t) 2 (some 1)) Q E s := by
  have hlt : t ≠ s.heap.objs.size := by obtain ⟨o, ho, _⟩ := ht; exact Nat.ne_of_lt (Heap.lt_size ho)
  unfold unpackItems
  refine wpAny_bind ?_
  unfold notIterableAtAll
  refine wpAny_bind (wpAny_specialOf ht.typeIs slot_tuple_iter.lookup ?_)
  refine wpAny_pure ?_
  simp only [Bool.false_eq_true, if_false]
  refine wpAny_bind (wpAny_holding (iter_tuple ht ?_))
  refine wpAny_bind (wpAny_holding (draw_tuple hlt 1 0 _ _ ⟨_, Heap.get?_push_size _ rfl, rfl, rfl⟩ (ht.push _) (by simp) fun h₁ hit₁ hs₁ => ?_))
  have hall : List.take 1 (List.drop 0 (x :: rest).toArray.toList) = [x] := by simp
  rw [hall]
  rw [if_neg (by simp)]
  have ht₁ : IsTup h₁ t (x :: rest).toArray := (ht.push _).extBut hs₁.extBut hlt
  refine wpAny_bind (wpAny_holding (collect_ti (items := (x :: rest).toArray) (k := 1) hh hit₁ ht₁ hlt (by simp) (by simpa using hn) fun h' tk acc kp hacc => ?_))
  have ea : acc.toList = rest := by
    have := items_acc hacc (by simp)
    simpa using this
  rw [ea]
  rw [if_neg (by omega)]
  have e1 : List.take (rest.length - (2 - 1 - 1)) rest = rest := by simp
  have e2 : List.drop (rest.length - (2 - 1 - 1)) rest = [] := by simp
  rw [e1, e2]
  refine wpAny_bind (wpAny_newObj_type ?_ (by show rest.toArray.size ≤ sizeLine; rw [List.size_toArray]; omega))
  refine wpAny_pure ?_
  exact hQ h' tk fun b o e => kp b o (Nat.ne_of_lt (Heap.lt_size e)) (hs₁.extBut b o (Nat.ne_of_lt (Heap.lt_size e)) (Heap.get?_push_of_some _ e))
theorem assign_star {env : Env} {elts : List Expr} {x1} {pos : Pos} {t : Addr} {x : Value} {rest : List Value} {Q : Unit → Shared → Prop} (hh : A.handled = none) (ht : IsTup s.heap t (x :: rest).toArray) (hz : rest.length + 1 ≤ sizeLine)
    (hn : (assignEach elts env).length = 2) (hstar : (assignEach elts env).findIdx? (·.1) = some 1)
    (h : ∀ (h' : Heap) (tk : Nat), (∀ b o, s.heap.get? b = some o → h'.get? b = some o) → wpAny (model prog w) A (assignInOrder ((assignEach elts env).map (·.2)) [x, .ref h'.objs.size]) Q E { s with heap := h'.push { cls := .type "list", data := .seq rest.toArray }, toks := tk }) :
    wpAny (model prog w) A (assign (.Tuple elts x1 pos) env (.ref t)) Q E s := by
  rw [assign_Tuple]
  refine wpAny_bind (wpAny_standAt ?_)
  unfold unpack
  rw [hn, hstar]
  exact wpAny_bind (wpAny_holding (unpackItems_star hh ht hz h))
end
section
variable {X : Cx} {Γ : Gam} {W : WX} {pos : Pos}
def gStar (K : PySem.W.Frag) (t : TGs) : TG := fun v σ H Q => ∃ a x xs, v = .ref a ∧ SqT K H a (x :: xs) ∧ ∀ p, H p = none → t [x, .ref p] σ (upd H p (.lst xs)) Q
theorem pg_star {es : List Expr} {k : Nat} {t : TGs} (hc : X.calm = true) (h : PGs X es t)
    (hn : (assignEach es X.env).length = 2 := by rfl) (hst : (assignEach es X.env).findIdx? (·.1) = some 1 := by rfl) : PG X (.Tuple es k pos) (gStar X.K t) := by
  refine ⟨fun pins s σ H v u Q I r hw => ?_⟩
  obtain ⟨a, x, xs, e1, hq, hw⟩ := hw
  subst e1
  cases r
  obtain ⟨its, rv, ht, hz⟩ := I.tuple hq
  cases rv with
  | cons rx rxs =>
    rename_i y ys
    have hl : xs.length = ys.length := rxs.length
    refine assign_star (I.ok.hd hc) ht (by simp at hz; omega) hn hst fun h' tk hk => ?_
    have I0 : Inv X pins σ H { s with heap := h', toks := tk } := I.kept hk
    have hf : H h'.objs.size = none := I0.hok.fresh (Nat.le_refl _)
    have I1 : Inv X pins σ (upd H h'.objs.size (.lst xs)) { s with heap := h'.push { cls := .type "list", data := .seq ys.toArray }, toks := tk } :=
      I0.laid (t' := tk) (fun b o e => Heap.get?_push_of_some _ e) (Nat.le_refl _) ⟨by simp at hz; omega, ys, 0, rxs, Heap.get?_push_size _ rfl⟩
    exact h.run pins _ σ _ [x, .ref h'.objs.size] _ Q I1 (.cons rx (.cons rfl .nil)) (hw _ hf)
theorem pgs_star {x y : Str} {px py pp : Pos} {t : TGs} (h : PGs X [.Name x px, .Name y py] t) (he : (assignEach [.Name x px, .Starred (.Name y py) pp] X.env).map (·.2) = (assignEach [.Name x px, .Name y py] X.env).map (·.2) := by rfl) : PGs X [.Name x px, .Starred (.Name y py) pp] t :=
  ⟨fun pins s σ H vs us Q I r q => by rw [he]; exact h.run pins s σ H vs us Q I r q⟩
/-- the first, and a list of the rest -/
def gSt (i j : Nat) : Tg := fun d st => match d with
  | .tup (x :: xs) => some ⟨setSl (setSl st.r i (.im x)) j (.im (.lst false xs)), st.s⟩
  | _ => none
theorem s_gstar {i j : Nat} {x y : Str} {px py pp : Pos} {k : Nat} (hc : X.calm = true) (hN : X.N.Nodup) (hi : X.N[i]? = some x) (hj : X.N[j]? = some y) (hx : Loc X.env.scope x) (hy : Loc X.env.scope y)
    (hf : X.fn x = true ∨ X.env.scope.names.lookup x = some .local := by first | exact .inl rfl | exact .inr rfl | assumption) (hf2 : X.fn y = true ∨ X.env.scope.names.lookup y = some .local := by first | exact .inl rfl | exact .inr rfl | assumption)
    (he : (assignEach [.Name x px, .Starred (.Name y py) pp] X.env).map (·.2) = (assignEach [.Name x px, .Name y py] X.env).map (·.2) := by rfl)
    (g1 : (assignEach [.Name x px, .Name y py] X.env).map (·.2) = assign (.Name x px) X.env :: (assignEach [.Name y py] X.env).map (·.2) := by rfl)
    (g2 : (assignEach [.Name y py] X.env).map (·.2) = assign (.Name y py) X.env :: (assignEach [] X.env).map (·.2) := by rfl)
    (hn : (assignEach [.Name x px, .Starred (.Name y py) pp] X.env).length = 2 := by rfl) (hst : (assignEach [.Name x px, .Starred (.Name y py) pp] X.env).findIdx? (·.1) = some 1 := by rfl) :
    PG X (.Tuple [.Name x px, .Starred (.Name y py) pp] k pos) (rdG X.K Γ [i, j] (gSt i j)) := by
  refine pg_imp (pg_star hc (pgs_star (pgs_cons (pg_name hN hi hx hf) (pgs_cons (pg_name hN hj hy hf2) pgs_nil g2) g1) he) hn hst) fun v σ H Q h => ?_
  obtain ⟨st, p, d, st', R, e, h⟩ := h
  unfold gSt at e
  split at e
  · rename_i z zs
    cases e
    obtain ⟨m, ar, am, ao, ab, R0, r⟩ := R.one
    obtain ⟨a, us, rfl, hs, q⟩ := r.tup_i
    cases us with
    | nil => have := q.len; simp at this
    | cons u us =>
      obtain ⟨q1, q2⟩ := q.head0
      refine ⟨a, u, us, rfl, hs, fun l hl => ⟨u, [.ref l], rfl, .ref l, [], rfl, rfl, ?_⟩⟩
      have R1 := R0.lst hl q2
      have q3 := q1.keep (Kp.new (o := .lst us) hl) (fun _ z => nomatch z) (fun _ _ n => n) (fun _ _ e => e) (fun _ z => nomatch z)
      have R2 : Rel X.K Γ σ (upd H l (.lst us)) st ((p.sh (.ref l) (.lst false zs)).sh u z) := ⟨m, ar, am, ao, ab, R1.setI (q3.cons0 R1.ri)⟩
      refine h _ _ ?_ ((R2.put i).put j)
      have w1 : wipe (σ.set i (some u)) [i, j] = wipe σ [i, j] := wipe_sub (wipe_set (σ := σ) (i := i) (o := some u)) (by simp)
      have w2 : wipe ((σ.set i (some u)).set j (some (.ref l))) [i, j] = wipe (σ.set i (some u)) [i, j] := wipe_sub (wipe_set (σ := σ.set i (some u)) (i := j) (o := some (.ref l))) (by simp)
      exact w2.trans w1
  · cases e
end
end Fk
/-! ## except .. as e: the exception looked at -/
namespace Fk
open PySem PySem.Spec PyProof.Rows L2
/-- the classes of U are asked rightly by isinstance -/
theorem exccB_ok {K : PySem.W.Frag} {x : Str} (h : exccB K x = true) : ExcC K (He.ga K x) := by
  unfold exccB at h
  simp only [Bool.and_eq_true, decide_eq_true_eq] at h
  obtain ⟨⟨⟨⟨⟨⟨⟨h1, h2⟩, h3⟩, h4⟩, h5⟩, h6⟩, h7⟩, h8⟩ := h
  exact ⟨h1, h2, h3, h4, h5, h6, h7, h8⟩
def ExcAll (K : PySem.W.Frag) (U : List Str) : Prop := ∀ x ∈ U, ExcC K (He.ga K x)
theorem excAllB_ok {K : PySem.W.Frag} {U : List Str} (h : (U.all (exccB K)) = true) : ExcAll K U := fun x hx => exccB_ok (List.all_eq_true.mp h x hx)
/-- isinstance(e, u) of instances of U -/
def IsE (K : PySem.W.Frag) (u : Value) (U cs : List Str) : Prop := ∀ c ∈ U, PySem.W.kitOne K (.ref (He.ga K c)) u = some (decide (c ∈ cs))
theorem isEB_ok {K : PySem.W.Frag} {u : Value} {U cs : List Str} (h : isEB K u U cs = true) : IsE K u U cs := fun c hc => of_decide_eq_true (List.all_eq_true.mp h c hc)
/-- isinstance(e, ..), e the exception: it is the first object of the world that is looked at -/
def eIsX (i : Nat) (b : Bool) : M AV := fun st => match getSl st.r i with
  | .im (.loc 0) => .ok (.bl b) st
  | _ => .bad
/-- what is known of the exception p -/
structure ExcP (K : PySem.W.Frag) (U : List Str) (c : Str) (p : Addr × Obj) : Prop where
  mem : c ∈ U
  cls : p.2.cls = .ref (He.ga K c)
  dct : p.2.dict = none
  fld : ∃ vs, p.2.data = .fields vs
section
variable {X : Cx} {Γ : Gam} {W : WX} {σ : L2.St} {H : Hp} {st : Ss} {p : Pd} {K : PySem.W.Frag} {U cs : List Str} {c : Str} {z : Addr × Obj}
theorem call_isP {D : Addr} (C : ExcC X.K D) (hp : z ∈ X.pn) (h1 : z.2.cls = .ref D) (h2 : z.2.dict = none) (h3 : ∃ vs, z.2.data = .fields vs) : CallR X (.builtin "isinstance") (rIsE X.K D z.1) := by
  intro pins s σ H xs us Q I r ⟨w, cv, b, hx, hcv, hk, q⟩
  subst hx
  obtain ⟨za, zo⟩ := z
  obtain ⟨vs, hv⟩ := h3
  have get := (I.pin (za, zo) (List.mem_append_left _ hp)).1
  have at_ : PySem.W.InstAt s.heap za zo D none := by
    obtain ⟨o1, o2, o3, o4⟩ := zo
    simp only at h1 h2 hv
    subst h1 h2 hv
    exact ⟨get, rfl, rfl, trivial⟩
  cases r with
  | cons r1 r2 => cases r2 with
    | cons r3 r4 =>
      cases r4
      cases r1
      obtain rfl := hcv _ r3
      exact PySem.W.kia_one (PySem.W.handS_kitx_exc C.hg C.hk C.hs C.hd C.ha C.hn C.ht C.hm) I.kIn at_ hk (fun y => nomatch y) fun tk => ⟨.bl b, H, I.kept (t' := tk) fun _ _ y => y, rfl, q⟩
theorem s_isX {i : Nat} {n C : Str} {cv : Value} {v : V} {q q1 q2 pos : Pos} (EA : ExcAll X.K U) (hz : z ∈ X.pn) (EP : ExcP X.K U c z) (hm0 : Γ.m0[0]? = some z.1) (F : IsE X.K cv U cs) (hC : PE X (.Name C q2) (tC v)) (hcv : ∀ u, RelV v u → u = cv) (hg : Gl X "isinstance") (hm : X.mg "isinstance" = none)
    (hN : X.N[i]? = some n) (hv : Vis X.env.scope n) (hd : (n == ("__debug__" : Str)) = false := by decide) (hcd : (n == ("__classdict__" : Str)) = false := by decide)
    (hs : starEach [.Name n q1, .Name C q2] X.env = (false, eval (.Name n q1) X.env) :: starEach [.Name C q2] X.env := by rfl) (hs2 : starEach [.Name C q2] X.env = (false, eval (.Name C q2) X.env) :: starEach [] X.env := by rfl) (hpl : (backTo pos (starEach [.Name C q2] X.env)).any (·.1) = false := by rfl) :
    PE X (.Call (.Name "isinstance" q) [.Name n q1, .Name C q2] [] pos) (rdE X.K Γ W (eIsX i (decide (c ∈ cs)))) := by
  refine pe_imp (pe_callB (call_isP (EA c EP.mem) hz EP.cls EP.dct EP.fld) hg hm (by decide +kernel) (pa_cons (pe_var hN hv hd hcd) (pa_cons hC pa_nil hs2) hs) (by decide) (by decide) hs hpl) fun σ H Q h => ?_
  obtain ⟨st, p, ⟨m, ar, am, ao, ab, R⟩, h⟩ := h
  unfold eIsX at h
  cases e : getSl st.r i with
  | no => simp only [e] at h
  | ow d => simp only [e] at h
  | im d =>
    cases d with
    | loc l =>
      cases l with
      | succ l => simp only [e] at h
      | zero =>
        simp only [e] at h
        obtain ⟨w, ew, rw_⟩ := R.rs.getIm e
        cases rw_ with
        | loc hl _ =>
          have e2 := R.pm 0 _ hm0
          rw [hl] at e2
          cases e2
          exact ⟨_, ew, v, cv, decide (c ∈ cs), rfl, hcv, F c EP.mem, h _ _ (R.nob.rel.bl _)⟩
    | _ => simp only [e] at h
/-! ### defs that are handed the exception -/
def spX (K : PySem.W.Frag) (T : List (Addr × Str)) (n : Nat) (f : Fn) (pa : Addr) : Sp := fun vs H Q E => vs.length = n ∧ ∃ U m am xs S, m[0]? = some pa ∧ Rp K H (U ++ am) m vs xs [] ∧ Rp K H (U ++ am) m (m.map V.ref) S am ∧ (U ++ am).Nodup ∧ (∀ a ∈ U, ∃ o, H a = some o ∧ mutO o = true) ∧ Tb T H ∧
  match f xs S with
  | .ok d S' => ∀ v H', Pst K T U m am H [v] [d] S' H' → Q v H'
  | .err c S' => ∀ H', Pst K T U m am H [] [] S' H' → E (.ref (He.ga K c)) none H'
  | .bad => False
structure FnX (P : Program) (w : World) (K : PySem.W.Frag) (mg : Str → Option Value) (base : Heap) (T : List (Addr × Str)) (U : List Str) (k : Nat) (f : Addr) (fd : FuncData) (ps : List Str) (g : Str → Fn) : Prop where
  run : ∀ (A : Around) (outer : List Env) (s : Shared) (H : Hp) (args : Args) (us : List Value) (vs : List V) (Q : VK) (E : XK) (z : Addr × Obj) (c : Str), ExcP K U c z → L2H.RoomH k A → L2H.Hot1 A z → L2H.PinOk outer H s z → Env0 P w K mg base A outer s H →
    BindsTo s fd args (ps.zip us) → Vals vs us → spX K T ps.length (g c) z.1 vs H Q E → codeAny (model P w) A (.call (.ref f) args) (CR (L2N.CX P w) outer P w H s Q E) s
end
section
variable {P : Program} {w : World} {K : PySem.W.Frag} {mg : Str → Option Value} {base : Heap} {k : Nat} {f : Addr} {fd : FuncData} {ps N U : List Str} {x qual : Str} {params : Arguments} {body : List Stmt} {scope : Scope} {dvs : List V} {kws : List (Str × V)} {T : List (Addr × Str)}
theorem okX {mb : Str → M Fl} {n : Nat} (F : FunD K x qual params body scope dvs kws f fd) (S : FnScope N ps scope) (hn : N.length - ps.length = n)
    (hb : ∀ (cdv : Value) (A : Around) (outer : List Env) (s : Shared) (H : Hp) (E : XK) (Γ : Gam) (z : Addr × Obj) (c : Str), Γ.T = T → ExcP K U c z → Γ.m0[0]? = some z.1 → L2H.Hot1 A z → L2H.RoomH k (A.deeper (envOfC qual scope s.heap.objs.size f cdv)) →
      PSs (cxHt P w K mg base N qual scope f cdv A outer s H E z) body (rdS K Γ (fun cls d _ H => E cls d H) (mb c))) : FnX P w K mg base T U (k + 1) f fd ps (fun c => fnM n (mb c)) := by
  obtain ⟨oc, od, dV, kV, doc, pm, an, cdv, ct, osl, rfl, lk, hcd, _, _⟩ := F.ex
  refine ⟨fun A outer s H args us vs Q E z c ep hr hot pin e0 hbi r hsp => ?_⟩
  have inK : K.In s.heap := e0.mod.kin.keeps fun b o e => (e0.bs b o e).1
  have lim : s.heap.NoLimit := e0.mod.nolimit.keeps fun b o e => (e0.bs b o e).1
  obtain ⟨hl, U1, m, am, xs, S0, hm0, r1, r2, nd, hu, tb, h⟩ := hsp
  refine codeAny_call_function hr.depth (inK _ _ lk) rfl S.co S.gen rfl (PySem.W.codeRec_of inK hcd) (hbi _ _ _ _ ?_)
  refine wpAny_newFunctionEnv_cells S.kind ?_ ?_
  · rintro ⟨n1, v1⟩ hy
    rcases S.par n1 (List.of_mem_zip hy).1 with y | y
    · exact .inl y
    · exact .inr ⟨y, PySem.W.cellsFrom_some _ _ _ (.inl y)⟩
  intro env he s1 y
  subst he
  refine ⟨lim.keeps y.toInCall.keep, codeAny_func ?_⟩
  have I := L2H.inv_startH (CX := L2N.CX P w) (E := E) S pin e0 hl r y
  have hq := hb cdv A outer s H E ⟨U1, H, am, m, T⟩ z c rfl ep hm0 hot (hr.deeper _)
  have est : L2.start N vs = vs.map some ++ List.replicate n none := by unfold L2.start; rw [hl, hn]
  rw [est] at I
  refine wpAny_mono (hq.run [] s1 _ H { nx := fun _ H' => Q .non H', rt := Q } I ⟨_, _, ent (n := n) r1 r2 nd hu tb, rfl, ?_⟩) ?_ (fun e s' q => q)
  · unfold fnM at h
    cases em : mb c ⟨xs.map Sl.im ++ List.replicate n .no, S0⟩ with
    | bad => rw [em] at h; exact h
    | err c1 st => rw [em] at h; exact fun σ' H' R' => h H' (ext_ R' rfl rfl)
    | ok fl st =>
      rw [em] at h
      cases fl with
      | nx => exact fun σ' H' R' => h .non H' (ext_ R'.non rfl rfl)
      | rt d => exact fun v σ' H' R' => h v H' (ext_ R' rfl rfl)
      | bk => exact h.elim
      | ct => exact h.elim
  · intro fl s' q
    cases fl with
    | ret u =>
      obtain ⟨v, σ', H', J, rv, q⟩ := q
      exact ⟨v, H', J.os, J.bare, J.base, J.hok, rv, q⟩
    | next =>
      obtain ⟨σ', H', J, q⟩ := q
      exact ⟨V.non, H', J.os, J.bare, J.base, J.hok, rfl, q⟩
    | brk => obtain ⟨_, _, _, q⟩ := q; exact q.elim
    | cont => obtain ⟨_, _, _, q⟩ := q; exact q.elim
end
structure CalX (P : Program) (w : World) (K : PySem.W.Frag) (mg : Str → Option Value) (base : Heap) (T : List (Addr × Str)) (U : List Str) (k : Nat) (x : Str) (ps : List Str) (g : Str → Fn) : Prop where
  ex : ∃ (a : Addr) (fd : FuncData), FnX P w K mg base T U k a fd ps g ∧ mg x = some (.ref a) ∧ PySem.W.keepIn K (.ref a) = true ∧ Binds K fd ps []
section
variable {X : Cx} {Γ : Gam} {W : WX} {σ : L2.St} {H : Hp} {st : Ss} {p : Pd} {K : PySem.W.Frag} {U cs : List Str} {c x : Str} {z : Addr × Obj} {q pos : Pos} {e : Expr} {es : List Expr} {k j n : Nat} {ps : List Str} {g : Str → Fn} {ma : M (List AV)}
theorem call_inX {f : Fn} {pa : Addr} {Q : VK} (hm0 : Γ.m0[0]? = some pa) (h : rdE K Γ W (eCall n f [] ma) σ H Q) : rdA K Γ W ma σ H fun vs H1 => spX K Γ.T n f pa vs H1 Q (WE W σ) := by
  obtain ⟨st, p, R, h⟩ := h
  refine ⟨st, p, R, ?_⟩
  unfold eCall at h
  cases ea : ma st with
  | bad => rw [ea] at h; exact h
  | err c s1 => rw [ea] at h; exact h
  | ok xs s1 =>
    rw [ea] at h
    simp only [Res.bind_ok, List.length_nil, Nat.add_zero, List.append_nil] at h
    by_cases cn : xs.length = n
    · rw [if_pos cn] at h
      intro vs H1 hl R1
      obtain ⟨m, ar, am, ao, ab, R2, r⟩ := Rel.args (p := p.nob) hl R1
      obtain ⟨c1, c2, c3, c4, c5⟩ := R2.enter r
      refine ⟨by omega, _, m, am, xs, s1.s, R2.pm 0 _ hm0, c1, c2, c3, c4, c5, ?_⟩
      cases ef : f xs s1.s with
      | bad => rw [ef] at h; exact h
      | err c S' =>
        rw [ef] at h
        intro H2 hp
        obtain ⟨m', am', R3, _⟩ := R2.back rfl hp
        exact h H2 R3.rel
      | ok d S' =>
        rw [ef] at h
        intro v H2 hp
        obtain ⟨m', am', R3, r3⟩ := R2.back rfl hp
        exact h v H2 (R3.sh r3)
    · rw [if_neg cn] at h
      exact h.elim
theorem sClX (F : CalX X.prog X.w X.K X.mg X.base Γ.T U k x ps g) (hr : L2H.RoomH j X.A) (hk : k ≤ j) (hz : z ∈ X.pn) (hot : L2H.Hot1 X.A z) (EP : ExcP X.K U c z) (hm0 : Γ.m0[0]? = some z.1) (hg : Gl X x) (tk : L2N.Takes X W) (ha : PA X (e :: es) (rdA X.K Γ W ma)) (hn : ps.length = n := by rfl)
    (hdb : (x == ("__debug__" : Str)) = false := by decide) (he : starEach (e :: es) X.env = (false, eval e X.env) :: starEach es X.env := by rfl) (hpl : (backTo pos (starEach es X.env)).any (·.1) = false := by rfl) :
    PE X (.Call (.Name x q) (e :: es) [] pos) (rdE X.K Γ W (eCall n (g c) [] ma)) := by
  subst hn
  obtain ⟨a, fd, G, gm, kp, b⟩ := F.ex
  refine ⟨fun pins s σ H Q I h => wpAny_Call_Name_kw (ld_glob I hg gm ?_ hdb)⟩
  refine PySem.W.callWith_K (h₀ := X.base) I.ok.mod.kin kp (thn (ha.run pos pins s σ H _ I (call_inX hm0 h)) ?_) he hpl
  rintro us s1 ⟨vs, H1, I1, r, q⟩
  refine ⟨I1.kIn, ?_⟩
  have hl : us.length = ps.length := r.length.symm.trans q.1
  have bi := b s1 us I1.kIn (by rw [List.append_nil]; exact hl)
  rw [List.append_nil] at bi
  obtain ⟨g1, g2, g3, g4, g5⟩ := I1.pin z (List.mem_append_left _ hz)
  refine wpAny_call (codeAny_mono (G.run X.A X.stack s1 H1 ⟨us, []⟩ us vs Q (WE W σ) z c EP (hr.mono hk) hot ⟨g1, g2, fun hm => (List.mem_cons.mp (I1.stkSub z.1 hm)).elim g3 g4, g5⟩ I1.env0 bi r q) fun rr s' hq => ?_)
  cases rr with
  | error e => exact L2N.passAt tk σ pins H1 s1 e s' I1 hq
  | ok fl => cases fl with
    | ret u => exact I1.after hq
    | next => exact hq.elim
    | brk => exact hq.elim
    | cont => exact hq.elim
/-! ### the clause -/
def atomA : AV → Bool
  | .non | .bl _ | .int _ | .str _ => true
  | _ => false
/-- data without objects: it may pass from one world to another -/
def flatA : AV → Bool
  | .non | .bl _ | .int _ | .str _ => true
  | .tup xs => xs.all atomA
  | .lst false xs => xs.all atomA
  | _ => false
def plainA : AV → Bool
  | .non | .bl _ | .int _ | .str _ => true
  | .tup xs => xs.all atomA
  | _ => false
def mskS : List Bool → List Sl → List Sl
  | _, [] => []
  | [], _ :: r => .no :: mskS [] r
  | b :: bs, x :: r => (bif b then (match x with
    | .im d => bif flatA d then .im d else .no
    | _ => .no) else .no) :: mskS bs r
def hxS (keep : List Bool) (n : Nat) (r : List Sl) : List Sl := setSl (mskS keep r) n (.im (.loc 0))
def sTryAs (U cs : List Str) (n : Nat) (keep : List Bool) (mb : M Fl) (mh : Str → M Fl) : M Fl := fun st => match mb st with
  | .err c s1 => if c ∈ U then (if c ∈ cs then (match mh c ⟨hxS keep n s1.r, [.ded]⟩ with
    | .ok (.rt d) _ => bif plainA d then .ok (.rt d) s1 else .bad
    | _ => .bad) else .err c s1) else .bad
  | r => r
theorem rp_atoms {H' : Hp} {W1 W2 m1 m2 : List Addr} : ∀ {vs : List V} {xs : List AV}, Rp K H W1 m1 vs xs [] → xs.all atomA = true → Rp K H' W2 m2 vs xs []
  | [], xs, r, _ => by obtain ⟨rfl, _⟩ := r.nil_inv'; exact .nil
  | _ :: _, [], r, _ => by cases r.nil_inv.1
  | v :: vs, x :: xs, r, h => by
    rw [List.all_cons, Bool.and_eq_true] at h
    obtain ⟨r1, r2⟩ := r.head0
    have i := rp_atoms (H' := H') (W2 := W2) (m2 := m2) r2 h.2
    cases r1 with
    | non _ => exact .non i
    | bl _ => exact .bl i
    | int _ => exact .int i
    | str _ => exact .str i
    | _ => cases h.1
theorem rp_plain {W1 W2 m1 m2 : List Addr} {v : V} {x : AV} (r : Rp K H W1 m1 [v] [x] []) (h : plainA x = true) : Rp K H W2 m2 [v] [x] [] := by
  cases r with
  | non _ => exact .non .nil
  | bl _ => exact .bl .nil
  | int _ => exact .int .nil
  | str _ => exact .str .nil
  | tup h1 q _ => exact .tup h1 (rp_atoms q h) .nil
  | _ => cases h
theorem rp_flat {W1 m1 m2 : List Addr} {v : V} {x : AV} (r : Rp K H W1 m1 [v] [x] []) (h : flatA x = true) : Rp K H [] m2 [v] [x] [] := by
  cases r with
  | non _ => exact .non .nil
  | bl _ => exact .bl .nil
  | int _ => exact .int .nil
  | str _ => exact .str .nil
  | tup h1 q _ => exact .tup h1 (rp_atoms q h) .nil
  | lsI h1 _ q _ => exact .lsI h1 (fun y => nomatch y) (rp_atoms q h) .nil
  | _ => cases h
theorem rs_msk {W1 m1 m2 ar : List Addr} {r : List Sl} (q : Rs K H W1 m1 σ r ar) : ∀ keep : List Bool, Rs K H [] m2 σ (mskS keep r) [] := by
  induction q with
  | nil => intro keep; cases keep <;> exact .nil
  | no q ih => intro keep; cases keep with
    | nil => exact .no (ih _)
    | cons b bs => cases b <;> exact .no (ih _)
  | @im v d σ' r' as' h q ih => intro keep; cases keep with
    | nil => exact .no (ih _)
    | cons b bs => cases b with
      | false => exact .no (ih _)
      | true =>
        cases e : flatA d with
        | true => simp only [mskS, cond_true, e]; exact .im (rp_flat h e) (ih _)
        | false => simp only [mskS, cond_true, e, cond_false]; exact .no (ih _)
  | ow h q ih => intro keep; cases keep with
    | nil => exact .no (ih _)
    | cons b bs => cases b <;> exact .no (ih _)
theorem mskS_len : ∀ (keep : List Bool) (r : List Sl), (mskS keep r).length = r.length
  | [], [] => rfl
  | _ :: _, [] => rfl
  | [], _ :: r => by simp [mskS, mskS_len [] r]
  | b :: bs, x :: r => by simp [mskS, mskS_len bs r]
theorem setSl_out : ∀ (r : List Sl) (i : Nat) (y : Sl), r.length ≤ i → setSl r i y = r
  | [], _, _, _ => rfl
  | _ :: _, 0, _, h => absurd h (by simp)
  | _ :: r, i + 1, y, h => by rw [setSl_s, setSl_out r i y (by simpa using h)]
theorem rs_hx {W1 m1 ar : List Addr} {a : Addr} {n : Nat} {keep : List Bool} {r : List Sl} (q : Rs K H W1 m1 σ r ar) : Rs K H [] [a] (σ.set n (some (.ref a))) (hxS keep n r) [] := by
  by_cases hn : n < r.length
  case neg =>
    unfold hxS
    rw [List.set_eq_of_length_le (by rw [q.len]; omega), setSl_out _ _ _ (by rw [mskS_len]; omega)]
    exact rs_msk q keep
  obtain ⟨as', h1, _, h3⟩ := (rs_msk (m2 := [a]) q keep).drop n
  have e : as' = [] := List.eq_nil_iff_forall_not_mem.mpr fun b hb => nomatch h1 b hb
  subst e
  exact h3.setNo (by rw [mskS_len]; exact hn) (.loc rfl .nil)
theorem tryAs_in {i : Nat} {keep : List Bool} {mb : M Fl} {mh : Str → M Fl} {x : Str} {D : Ends} {st : Ss} {p : Pd} (hm : ExcM K x U cs) (h : match sTryAs U cs i keep mb mh st with
    | .ok .nx st' => ∀ σ' H', Rel K Γ σ' H' st' p → D.nx σ' H'
    | .ok (.rt d) st' => ∀ v σ' H', Rel K Γ σ' H' st' (p.sh v d) → D.rt v H'
    | .ok .bk st' => ∀ σ' H', Rel K Γ σ' H' st' p → D.bk σ' H'
    | .ok .ct st' => ∀ σ' H', Rel K Γ σ' H' st' p → D.ct σ' H'
    | .err c st' => ∀ σ' H', Rel K Γ σ' H' st' p → W (.ref (He.ga K c)) none σ' H'
    | .bad => False) : match mb st with
    | .ok .nx st' => ∀ σ' H', Rel K Γ σ' H' st' p → D.nx σ' H'
    | .ok (.rt d) st' => ∀ v σ' H', Rel K Γ σ' H' st' (p.sh v d) → D.rt v H'
    | .ok .bk st' => ∀ σ' H', Rel K Γ σ' H' st' p → D.bk σ' H'
    | .ok .ct st' => ∀ σ' H', Rel K Γ σ' H' st' p → D.ct σ' H'
    | .err c st' => ∀ σ' H', Rel K Γ σ' H' st' p → wAs K (.ref (He.ga K x)) i (fun a cls d D σ H => ∃ (c : Str) (Γ' : Gam), c ∈ U ∧ cls = .ref (He.ga K c) ∧ d = none ∧ Γ'.T = Γ.T ∧ Γ'.m0[0]? = some a ∧ rdS K Γ' noX (mh c) D σ H) W D (.ref (He.ga K c)) none σ' H'
    | .bad => False := by
  unfold sTryAs at h
  cases em : mb st with
  | bad => rw [em] at h; exact h
  | ok f s => rw [em] at h; cases f <;> exact h
  | err c s1 =>
    rw [em] at h
    simp only at h ⊢
    by_cases hc : c ∈ U
    · rw [if_pos hc] at h
      intro σ1 H1 R1
      refine ⟨decide (c ∈ cs), hm c hc, fun e a na => ?_, fun e => ?_⟩
      · have e : c ∈ cs := of_decide_eq_true e
        rw [if_pos e] at h
        obtain ⟨m, ar, am, ao, ab, R2⟩ := R1
        refine ⟨c, ⟨[], H1, [], [a], Γ.T⟩, hc, rfl, rfl, rfl, rfl, ⟨hxS keep i s1.r, [.ded]⟩, {}, ?_, rfl, ?_⟩
        · refine ⟨[a], [], [], [], [], ?_, .ded .nil, .nil, .nil, .nil, .nil, fun _ z => (nomatch z), fun b o e _ => ⟨o, e, fun _ => rfl⟩, fun _ _ e => e, fun _ z => (nomatch z), R2.tb⟩
          exact rs_hx R2.rs
        · cases eh : mh c ⟨hxS keep i s1.r, [.ded]⟩ with
          | bad => rw [eh] at h; exact h.elim
          | err _ _ => rw [eh] at h; exact h.elim
          | ok fl s6 =>
            rw [eh] at h
            cases fl with
            | nx => exact h.elim
            | bk => exact h.elim
            | ct => exact h.elim
            | rt d =>
              simp only at h
              cases pl : plainA d with
              | false => simp only [pl, cond_false] at h
              | true =>
                simp only [pl, cond_true] at h
                intro v σ6 H6 R6
                obtain ⟨m6, ar6, am6, ao6, ab6, R6⟩ := R6
                refine h v σ1 H6 ?_
                have kp6 : Kp H1 H6 [] := ⟨fun b o e _ t => by
                  obtain ⟨o', e', f⟩ := R6.kp b o e (fun z => nomatch z)
                  rw [f t] at e'
                  exact e', fun _ z => nomatch z⟩
                have t : Tr H1 H6 (wOf Γ ar am ao) (wOf Γ ar am ao) m m [] := ⟨kp6, (fun _ z => nomatch z), (fun _ _ n => n), (fun _ _ e => e)⟩
                refine ⟨m, ar, am, ao, ab, t.rs R2.rs (fun _ _ z => nomatch z), t.rp R2.rm (fun _ _ z => nomatch z), (rp_plain R6.ri.head0.1 pl).cons0 (t.rp0 R2.ri), t.rp R2.ro (fun _ _ z => nomatch z), t.rp R2.rb (fun _ _ z => nomatch z), R2.nd, R2.fr, fun b o e n => ?_, R2.pm, R2.gu, R6.tb⟩
                obtain ⟨o1, e1, f1⟩ := R2.kp b o e n
                obtain ⟨o2, e2, f2⟩ := R6.kp b o1 e1 (fun z => nomatch z)
                refine ⟨o2, e2, fun z => ?_⟩
                have z1 := f1 z
                subst z1
                exact f2 z
      · have e : c ∉ cs := of_decide_eq_false e
        rw [if_neg e] at h
        exact h σ1 H1 R1
    · rw [if_neg hc] at h
      exact h.elim
end
end Fk
/-! ## lambdas without parameters -/
namespace Fk
open PySem PySem.Spec PyProof.Rows L2 LamX
/-- how the heap turns where a lambda is made: its code object is known, or new -/
inductive LamH (H : Hp) (P c' : Addr) (q : Str) : Hp → Prop
  | hit : LamH H P c' q H
  | new {ps more : Array Value} (h1 : H P = some (.tbl ps)) (h2 : H c' = none) : LamH H P c' q (upd (upd H P (.tbl (ps ++ more))) c' (CodeO c' q))
section
variable {X : Cx} {pins : List (Addr × Obj)} {σ : L2.St} {H : Hp} {s : Shared}
theorem lam_mk {c P : Addr} {lp : Arguments} {lb : Expr} {ls : Scope} {pos : Pos} {E Q : Value → Shared → Prop} (I : Inv X pins σ H s) (TB : TabB X.base X.mg c P) (hcode : X.env.code = .ref c) (hT : TabS H P (X.env.qual ++ "<lambda>"))
    (hdef : defaultsOf lp X.env = ([], [])) (hfree : ∀ y ∈ ls.names, y.2 = .free → ∃ c, X.env.cells.lookup y.1 = some c)
    (go : ∀ (f c' : Addr) (pm ctv : Value) (H1 : Hp) (s' : Shared), Inv X pins σ H1 s' → LamH H P c' (X.env.qual ++ "<lambda>") H1 → TabS H1 P (X.env.qual ++ "<lambda>") →
      s'.heap.get? f = some (PySem.W.kla_obj "<lambda>" (X.env.qual ++ "<lambda>") lp lb ls (cloFrom X.env.cells ls.names []) pm c' ctv) → H1 f = none → f ∉ frs X.stack → H1 c' = some (CodeO c' (X.env.qual ++ "<lambda>")) → Q (.ref f) s') :
    wpAny (model X.prog X.w) X.A (eval (.Lambda lp lb ls pos) X.env) Q E s := by
  obtain ⟨ps, tP, tr, ta⟩ := hT
  have getP : s.heap.get? P = some { cls := .none, data := .fields ps } := I.hok P _ tP
  have far : ∀ g, s.heap.objs.size ≤ g → g ∉ frs X.stack := fun g hg hm => by
    rcases List.mem_cons.mp (I.stkSub g hm) with rfl | y
    · exact absurd (Nat.lt_of_lt_of_le I.lt hg) (Nat.lt_irrefl _)
    · exact I.nofs hg y
  refine PySem.W.kla_eval hdef ?_
  cases hc : codeAmong pos ps.toList with
  | some cv =>
    obtain ⟨c1, rfl, hk⟩ := ta pos cv hc
    refine PySem.W.kla_makeFunctionHit (mg := X.mg) (c := c) (P := P) (ps := ps) (closure_ok hfree) I.ok.glob (I.mod.glob.keeps I.bk) hcode (TB.code.keeps I.bk) getP tr hc (TB.bm.keeps I.bk) ?_
    intro ctv h1 tk up sz
    have J := I.kept (t' := tk) (h' := h1.push (PySem.W.kla_obj "<lambda>" (X.env.qual ++ "<lambda>") lp lb ls (cloFrom X.env.cells ls.names []) ((X.mg "__name__").getD .none) c1 ctv)) fun b o e => Heap.get?_push_of_some _ (up b o e)
    exact go _ c1 _ ctv H _ J .hit ⟨ps, tP, tr, ta⟩ (Heap.get?_push_size _ rfl) (I.hok.fresh sz) (far _ sz) hk
  | none =>
    refine PySem.W.kla_makeFunction (mg := X.mg) (c := c) (P := P) (ps := ps) (closure_ok hfree) I.ok.glob (I.mod.glob.keeps I.bk) hcode (TB.code.keeps I.bk) getP tr hc TB.gP (TB.bm.keeps I.bk) ?_
    intro c1 ctv h1 tk up ge lt rec tab
    obtain ⟨c2, oc, vs, t, e2, e3, e4, e5⟩ := rec
    cases e2
    have nC : H c1 = none := I.hok.fresh ge
    have J := inv_table (t' := tk) (more := #[rawInt pos.line, rawInt pos.col, .ref c1]) (h' := h1.push (PySem.W.kla_obj "<lambda>" (X.env.qual ++ "<lambda>") lp lb ls (cloFrom X.env.cells ls.names []) ((X.mg "__name__").getD .none) c1 ctv)) I tP
      (fun b o nb e => Heap.get?_push_of_some _ (up b o nb e)) (Heap.get?_push_of_some _ tab) ge ⟨oc, vs, t, Heap.get?_push_of_some _ e3, e4, e5⟩
    have sz : s.heap.objs.size ≤ h1.objs.size := Nat.le_trans ge (Nat.le_of_lt lt)
    have el : (ps ++ #[rawInt pos.line, rawInt pos.col, .ref c1]).toList = ps.toList ++ [rawInt pos.line, rawInt pos.col, .ref c1] := by simp
    refine go _ c1 _ ctv _ _ J (.new tP nC) ?_ (Heap.get?_push_size _ rfl) ?_ (far _ sz) upd_same
    · refine ⟨_, by rw [upd_ne (ne_of_none tP nC), upd_same], ?_, fun p' cv hcv => ?_⟩
      · rw [el]
        exact PySem.TriplesOk_snoc _ _ _ _ tr
      · rw [el] at hcv
        rcases among_app _ tr hcv with y | y
        · obtain ⟨c0, y1, y2⟩ := ta p' cv y
          refine ⟨c0, y1, ?_⟩
          rw [upd_ne (ne_of_none y2 nC), upd_ne (fun w => codeO_ne _ (Option.some.inj (y2.symm.trans (w ▸ tP))))]
          exact y2
        · exact ⟨c1, y, upd_same⟩
    · rw [upd_ne (Nat.ne_of_gt lt), upd_ne (Nat.ne_of_gt (Nat.lt_of_lt_of_le (Heap.lt_size getP) sz))]
      exact I.hok.fresh sz
end
section
variable {K : PySem.W.Frag} {Γ : Gam} {σ : L2.St} {H H1 : Hp} {st : Ss} {p : Pd} {P c' : Addr} {q : Str}
theorem Rl.lam {m ar am ao ab : List Addr} (R : Rl K Γ σ H st p m ar am ao ab) (h : LamH H P c' q H1) (hm : (P, q) ∈ Γ.T) (hu : ∀ x ∈ Γ.T, x.1 = P → x.2 = q) (t1 : TabS H1 P q) : Rl K Γ σ H1 st p m ar am ao ab := by
  cases h with
  | hit => exact R
  | @new ps more h1 h2 =>
    have at_ : ∀ b o, H b = some o → b ≠ P → upd (upd H P (.tbl (ps ++ more))) c' (CodeO c' q) b = some o := fun b o e n => by
      rw [upd_ne (ne_of_none e h2), upd_ne n]
      exact e
    have ne : ∀ b o, H b = some o → NoTbl o → b ≠ P := fun b o e n z => by
      rw [z, h1] at e
      exact n ps (Option.some.inj e).symm
    have k : Kp H (upd (upd H P (.tbl (ps ++ more))) c' (CodeO c' q)) [] := ⟨fun b o e _ t => at_ b o e (ne b o e t), fun _ z => nomatch z⟩
    have t : Tr H (upd (upd H P (.tbl (ps ++ more))) c' (CodeO c' q)) (wOf Γ ar am ao) (wOf Γ ar am ao) m m [] := ⟨k, (fun _ z => nomatch z), (fun _ _ n => n), (fun _ _ e => e)⟩
    refine ⟨t.rs R.rs (fun _ _ z => nomatch z), t.rp R.rm (fun _ _ z => nomatch z), t.rp0 R.ri, t.rp R.ro (fun _ _ z => nomatch z), t.rp R.rb (fun _ _ z => nomatch z), R.nd, R.fr, fun b o e n => ?_, R.pm, R.gu, ?_⟩
    · obtain ⟨o1, e1, f1⟩ := R.kp b o e n
      by_cases c : b = P
      · subst c
        obtain ⟨ps1, e2, _⟩ := t1
        refine ⟨_, e2, fun z => ?_⟩
        have z1 := f1 z
        subst z1
        rw [h1] at e1
        exact absurd (Option.some.inj e1).symm (z ps)
      · exact ⟨o1, at_ b o1 e1 c, f1⟩
    · refine ⟨fun x hx => ?_⟩
      by_cases c : x.1 = P
      · rw [hu x hx c, c]
        exact t1
      · obtain ⟨ps1, y1, y2, y3⟩ := R.tb.t x hx
        refine ⟨ps1, at_ _ _ y1 c, y2, fun pos cv hc => ?_⟩
        obtain ⟨c0, z1, z2⟩ := y3 pos cv hc
        exact ⟨c0, z1, at_ _ _ z2 (ne _ _ z2 fun qs z => codeO_ne qs z)⟩
/-- what stood when the def was entered, as it stands now -/
theorem Rl.frame {m ar am ao ab : List Addr} {vs : List V} {xs : List AV} (R : Rl K Γ σ H st p m ar am ao ab) (hk : ∀ b ∈ Γ.A0, ∃ o, Γ.H0 b = some o ∧ mutO o = true) : Tr Γ.H0 H (Γ.U ++ Γ.A0) (wOf Γ ar am ao) Γ.m0 m Γ.A0 := by
  refine ⟨⟨fun b o e n t => ?_, hk⟩, fun b hb => by simp [hb], fun b ⟨o, e⟩ n z => ?_, R.pm⟩
  · obtain ⟨o', e', f⟩ := R.kp b o e n
    rw [f t] at e'
    exact e'
  · have f := R.fr b
    simp only [wOf, List.mem_append] at n z f
    rcases z with z | z
    · exact n (.inl z)
    · rcases f z with y | y
      · exact n (.inr y)
      · rw [e] at y
        cases y
def imS : Sl → Sl
  | .im d => .im d
  | _ => .no
theorem Rs.imS {W m ar : List Addr} {r : List Sl} (q : Rs K H W m σ r ar) : Rs K H W m σ (r.map Fk.imS) [] := by
  induction q with
  | nil => exact .nil
  | no _ i => exact .no i
  | im h _ i => exact .im h i
  | ow _ _ i => exact .no i
/-- what a lambda is worth, by its maker's names and the objects -/
def runL (me : M AV) (r : List Sl) (S : List AV) : Res AV (List AV) := match me ⟨r.map imS, S⟩ with
  | .ok d st => .ok d st.s
  | .err c st => .err c st.s
  | .bad => .bad
abbrev Thk := List AV → Res AV (List AV)
def eThk (g : Thk) : M AV := fun st => back st.r (g st.s)
end
/-- the context of a lambda's body -/
abbrev lamN (X : Cx) (A : Around) (outer : List Env) (s : Shared) (H : Hp) (E : XK) (ls : Scope) (f c' : Addr) : Cx :=
  (lamCx X A outer s H E ls f c').tr [] fun e s' => wpAny (model X.prog X.w) (A.deeper (lamEnv X ls s.heap.objs.size f c')) (leaving (lamEnv X ls s.heap.objs.size f c') e) (fun _ s'' => L2N.CX X.prog X.w outer H s E e s'') (fun e' s'' => L2N.CX X.prog X.w outer H s E e' s'') s'
theorem takes_lam {X : Cx} {A : Around} {outer : List Env} {s : Shared} {H : Hp} {E : XK} {ls : Scope} {f c' : Addr} : L2N.Takes (lamN X A outer s H E ls f c') (fun cls d _ H => E cls d H) := L2N.takes_of rfl rfl rfl rfl
section
variable {X : Cx} {pins : List (Addr × Obj)} {σ : L2.St} {H : Hp} {s : Shared} {Γ Γz : Gam} {W : WX}
/-- the lambda's call, in the def Z that got it -/
theorem pe_thk {Ng : List Str} {qg a : Str} {sg : Scope} {g f c' : Addr} {cdg pm ctv : Value} {lp : Arguments} {lb : Expr} {ls : Scope} {k i : Nat} {pn : List (Addr × Obj)} {xe : Value → Shared → Prop} {Eg : XK} {me : M AV} {p1 p2 : Pos} {m ar am ao ab : List Addr} {st : Ss} {p : Pd}
    (I : Inv X pins σ H s) (R : Rl X.K Γ σ H st p m ar am ao ab) (hz : Γz = ⟨Γ.U ++ (ar ++ ao), H, am, m, Γ.T⟩) (L : LamS X.env.scope ls) (hf : s.heap.get? f = some (PySem.W.kla_obj "<lambda>" (X.env.qual ++ "<lambda>") lp lb ls (cloFrom X.env.cells ls.names []) pm c' ctv)) (hfn : H f = none) (hfr : f ∉ frs X.stack)
    (hco : H c' = some (CodeO c' (X.env.qual ++ "<lambda>"))) (hbind : bindArgs (PySem.W.kla_fn "<lambda>" (X.env.qual ++ "<lambda>") lp lb ls (cloFrom X.env.cells ls.names []) pm (.ref c') ctv) ⟨[], []⟩ = pure [])
    (tk : L2N.Takes ((cxOf (L2N.CX X.prog X.w) X.prog X.w X.K X.mg X.base Ng qg sg g cdg X.A X.stack s H Eg).tr pn xe) W) (hG : X.A.guards = some []) (hr : Room (k + 1) (X.A.deeper (envOfC qg sg s.heap.objs.size g cdg)))
    (hbody : ∀ (A : Around) (outer : List Env) (s : Shared) (H : Hp) (E : XK) (Γl : Gam), Γl.T = Γ.T → A.guards = some [] → Room k (A.deeper (lamEnv X ls s.heap.objs.size f c')) → PE (lamN X A outer s H E ls f c') lb (rdE X.K Γl (fun cls d _ H => E cls d H) me))
    (hN : Ng[i]? = some a) (hv : Vis sg a) (hd : (a == ("__debug__" : Str)) = false := by decide) (hcd : (a == ("__classdict__" : Str)) = false := by decide) :
    PE ((cxOf (L2N.CX X.prog X.w) X.prog X.w X.K X.mg X.base Ng qg sg g cdg X.A X.stack s H Eg).tr pn xe) (.Call (.Name a p1) [] [] p2)
      (fun σZ HZ Q => σZ[i]? = some (some (.ref f)) ∧ rdE X.K Γz W (eThk (runL me st.r)) σZ HZ Q) := by
  refine ⟨fun pinsZ sZ σZ HZ Q IZ ⟨hs, h⟩ => ?_⟩
  obtain ⟨stz, pz, ⟨mz, arz, amz, aoz, abz, RZ⟩, h⟩ := h
  refine wpAny_Call_Name_kw (thn ((pe_var (pos := p1) (i := i) hN hv hd hcd).run pinsZ sZ σZ HZ (fun v H1 => v = .ref f ∧ H1 = HZ) IZ ⟨.ref f, hs, rfl, rfl⟩) fun u s1 ⟨v, H1, I1, r1, q1, q2⟩ => ?_)
  subst q1 q2
  obtain rfl : u = Value.ref f := r1
  have un : Un (frs X.stack) [] H H1 s.heap s1.heap := I1.base
  have getf := un.keep f _ hf hfn hfr (fun y => nomatch y)
  refine PySem.W.callWith_F0 ⟨_, _, _, _, getf⟩ ?_
  subst hz
  have hk : ∀ b ∈ am, ∃ o, H b = some o ∧ mutO o = true := fun b hb => R.own b (by simp [hb])
  have fr := RZ.frame (vs := []) (xs := []) hk
  have hc1 : H1 c' = some (CodeO c' (X.env.qual ++ "<lambda>")) := fr.k.keep c' _ hco (fun y => by
    obtain ⟨o, e1, e2⟩ := hk c' y
    rw [hco] at e1
    cases e1
    cases e2) fun qs y => codeO_ne qs y
  obtain ⟨⟨oc, vs, t, g1, g2, g3⟩, _, _⟩ := I1.hok c' _ hc1
  -- the maker's names, as they stand now
  have h1 : ∀ b, b ∈ (Γ.U ++ (ar ++ ao)) ++ am → b ∈ wOf Γ ar am ao := fun b y => by
    simp only [wOf, List.mem_append] at y ⊢
    grind
  have rsz := fr.rs (R.rs.imS.perm h1) (fun _ y => nomatch y)
  obtain ⟨_, c2, c3, c4, c5⟩ := RZ.enter (vs := []) (xs := []) .nil
  have h2 : ∀ b, b ∈ ((Γ.U ++ (ar ++ ao)) ++ (arz ++ aoz)) ++ amz → b ∈ wOf ⟨Γ.U ++ (ar ++ ao), H, am, m, Γ.T⟩ arz amz aoz := fun b y => by
    simp only [wOf, List.mem_append] at y ⊢
    grind
  have rel : Rel X.K ⟨(Γ.U ++ (ar ++ ao)) ++ (arz ++ aoz), H1, amz, mz, Γ.T⟩ σ H1 ⟨st.r.map imS, stz.s⟩ {} := by
    have e : ((Γ.U ++ (ar ++ ao)) ++ (arz ++ aoz)) ++ amz = wOf ⟨(Γ.U ++ (ar ++ ao)) ++ (arz ++ aoz), H1, amz, mz, Γ.T⟩ [] amz [] := by simp [wOf]
    refine ⟨mz, [], amz, [], [], e ▸ rsz.perm h2, e ▸ c2, .nil, .nil, .nil, e ▸ c3, fun b hb => .inl (by simpa using hb), fun b o y _ => ⟨o, y, fun _ => rfl⟩, fun _ _ y => y, fun b hb => ⟨c4 b hb, fun y => ?_⟩, c5⟩
    exact (List.nodup_append.mp c3).2.2 b hb b y rfl
  have tb : rdE X.K ⟨(Γ.U ++ (ar ++ ao)) ++ (arz ++ aoz), H1, amz, mz, Γ.T⟩ (fun cls d _ H => WE W σZ cls d H) me σ H1 Q := by
    refine ⟨_, _, rel, ?_⟩
    unfold eThk runL at h
    cases em : me ⟨st.r.map imS, stz.s⟩ with
    | bad => rw [em] at h; exact h
    | err c st1 =>
      rw [em] at h
      intro H2 R2
      obtain ⟨m', am', R3, _⟩ := RZ.back (vs := []) (xs := []) rfl (ext_ R2 rfl rfl)
      exact h H2 R3.rel
    | ok d st1 =>
      rw [em] at h
      intro v H2 R2
      obtain ⟨m', am', R3, r3⟩ := RZ.back rfl (ext_ R2 rfl rfl)
      exact h v H2 (R3.sh r3)
  have run : codeAny (model X.prog X.w) (X.A.deeper (envOfC qg sg s.heap.objs.size g cdg)) (.call (.ref f) ⟨[], []⟩) (CR (L2N.CX X.prog X.w) (envOfC qg sg s.heap.objs.size g cdg :: X.stack) X.prog X.w H1 s1 Q (WE W σZ)) s1 := by
    refine PySem.W.kla_callFunE hr.depth getf rfl L.co L.gen rfl ⟨c', oc, vs, t, rfl, g1, g2, g3⟩ ?_
    rw [hbind]
    refine wpAny_pure (wpAny_newFunctionEnv (fun y hy => (L.own y hy).2) (fun y hy => absurd hy (by simp)) (fun h₁ hns hsb => ⟨I1.nolimit.fresh _ hsb, ?_⟩) L.kind)
    show codeAny _ _ (.expr lb (lamEnv X ls s1.heap.objs.size f c')) _ _
    have kp : ∀ b o, s1.heap.get? b = some o → h₁.get? b = some o := fun b o e => hsb.extBut b o (Nat.ne_of_lt (Heap.lt_size e)) (Heap.get?_push_of_some _ e)
    have J0 : Inv (lamCx X (X.A.deeper (envOfC qg sg s.heap.objs.size g cdg)) (envOfC qg sg s.heap.objs.size g cdg :: X.stack) s1 H1 (WE W σZ) ls f c') [] σ H1 { s1 with heap := h₁, toks := s1.toks + ([] : List (Str × Value)).length } :=
      lam_start2 I L I1.env0 hr.hd un hns kp
    have J := J0.toTry fun e s' => wpAny (model X.prog X.w) ((X.A.deeper (envOfC qg sg s.heap.objs.size g cdg)).deeper (lamEnv X ls s1.heap.objs.size f c')) (leaving (lamEnv X ls s1.heap.objs.size f c') e) (fun _ s'' => L2N.CX X.prog X.w (envOfC qg sg s.heap.objs.size g cdg :: X.stack) H1 s1 (WE W σZ) e s'') (fun e' s'' => L2N.CX X.prog X.w (envOfC qg sg s.heap.objs.size g cdg :: X.stack) H1 s1 (WE W σZ) e' s'') s'
    refine PySem.W.kla_codeExpr (wpAny_mono ((hbody (X.A.deeper (envOfC qg sg s.heap.objs.size g cdg)) _ s1 H1 _ ⟨(Γ.U ++ (ar ++ ao)) ++ (arz ++ aoz), H1, amz, mz, Γ.T⟩ rfl hG (hr.deeper _)).run [] _ _ H1 Q J tb) (fun v s' hq => ?_) fun e s' hq => hq)
    obtain ⟨w', H', J', rv, q⟩ := hq
    exact ⟨w', H', J'.os, J'.bare, J'.base, J'.hok, rv, q⟩
  refine wpAny_call (codeAny_mono run fun r s' hq => ?_)
  cases r with
  | error e => exact L2N.passAt tk σZ pinsZ H1 s1 e s' I1 hq
  | ok fl =>
    cases fl with
    | ret u => exact I1.after hq
    | next => exact False.elim hq
    | brk => exact False.elim hq
    | cont => exact False.elim hq
end
end Fk
/-! ## a def that is handed a lambda -/
namespace Fk
open PySem PySem.Spec PyProof.Rows L2 LamX
/-- a reading, where the first slot is known to hold f -/
def rd0 (K : PySem.W.Frag) (Γ : Gam) (W : WX) (f : Addr) (m : M Fl) : TS := fun D σ H => σ[0]? = some (some (.ref f)) ∧ rdS K Γ W m D σ H
def rd0E (K : PySem.W.Frag) (Γ : Gam) (W : WX) (f : Addr) (m : M AV) : TE := fun σ H Q => σ[0]? = some (some (.ref f)) ∧ rdE K Γ W m σ H Q
section
variable {X : Cx} {Γ : Gam} {W : WX} {f : Addr} {pos : Pos} {U cs : List Str}
theorem s0_one {s : Stmt} {m : M Fl} (h : PS X s (rd0 X.K Γ W f m)) : PSs X [s] (rd0 X.K Γ W f m) := pss_one h
theorem s0_seq {s : Stmt} {r : List Stmt} {ma mb : M Fl} (h1 : PS X s (rd0 X.K Γ W f ma)) (h2 : PSs X r (rdS X.K Γ W mb)) : PSs X (s :: r) (rd0 X.K Γ W f (sSeq ma mb)) := by
  refine pss_imp (pss_cons h1 h2) fun D σ H ⟨h0, h⟩ => ⟨h0, ?_⟩
  obtain ⟨st, p, R, hp, h⟩ := h
  refine ⟨st, p, R, hp, ?_⟩
  unfold sSeq at h
  cases ea : ma st with
  | bad => rw [ea] at h; exact h
  | err c s1 => rw [ea] at h; exact h
  | ok f s1 =>
    rw [ea] at h
    simp only [Res.bind_ok] at h
    cases f with
    | nx => exact fun σ' H' R' => ⟨s1, p, R', hp, h⟩
    | rt d => exact h
    | bk => exact h
    | ct => exact h
/-- n = f() -/
theorem s0_set {i : Nat} {x : Str} {e : Expr} {m : M AV} {pos' : Pos} (hN : X.N.Nodup) (hi : X.N[i]? = some x) (hx : Loc X.env.scope x) (he : PE X e (rd0E X.K Γ W f m)) (hs : swapsWith e (some (.Name x pos')) pos.line X.env = pure false := by rfl)
    (hf : X.fn x = true ∨ X.env.scope.names.lookup x = some .local := by first | exact .inl rfl | exact .inr rfl | assumption) : PS X (.Assign [.Name x pos'] e pos) (rd0 X.K Γ W f (sAsg i m)) := by
  refine ps_imp (ps_set hN hi hx he hs hf) fun D σ H ⟨h0, h⟩ => ⟨h0, ?_⟩
  obtain ⟨st, p, R, hp, h⟩ := h
  refine ⟨st, p, R, ?_⟩
  unfold sAsg at h
  cases ea : m st with
  | bad => rw [ea] at h; exact h
  | err c s1 => rw [ea] at h; exact fun H' R' => h σ H' (hp ▸ R')
  | ok d s1 =>
    rw [ea] at h
    simp only [Res.bind_ok] at h
    exact fun v H' R' => h _ H' (Rel.put (nob_sh hp ▸ R') i)
/-- try: .. except x as n: .. return .. -/
theorem s0_tryAs {x n : Str} {i : Nat} {keep : List Bool} {np pos' : Pos} {body suite : List Stmt} {b₀ : Stmt} {mb : M Fl} {mh : Str → M Fl} (hs : X.stack = X.env :: X.outer) (hf : X.env.frame = some X.env.locals) (hN : X.N.Nodup) (hi : X.N[i]? = some n) (hln : X.env.kindOf n = some .local)
    (hn : Names X x (.ref (He.ga X.K x))) (hm : ExcM X.K x U cs) (tk : L2N.Takes X W)
    (hb : ∀ (W' : WX) (pn : List (Addr × Obj)) (xe : Value → Shared → Prop), L2N.Takes (X.tr pn xe) W' → PassesOwn (model X.prog X.w) X.A X.env xe → PSs (X.tr pn xe) body (rd0 X.K Γ W' f mb))
    (hsu : ∀ (a : Addr) (oe : Obj) (pn : List (Addr × Obj)) (c : Str) (Γ' : Gam), ExcP X.K U c (a, oe) → L2H.Hot1 (X.suite a ((a, oe) :: pn)).A (a, oe) → Γ'.T = Γ.T → Γ'.m0[0]? = some a → PSs (X.suite a ((a, oe) :: pn)) (b₀ :: suite) (rdS X.K Γ' noX (mh c))) :
    PS X (.Try body [.ExceptHandler (some (.Name x np)) (some n) (b₀ :: suite) pos'] [] [] pos) (rd0 X.K Γ W f (sTryAs U cs i keep mb mh)) := by
  have hb2 : ∀ (W' : WX) (pn : List (Addr × Obj)) (xe : Value → Shared → Prop), L2N.Takes (X.tr pn xe) W' → PassesOwn (model X.prog X.w) X.A X.env xe → PSs (X.tr pn xe) body (fun D σ H => rd0 X.K Γ W' f mb D σ H) := hb
  have hsu' : ∀ (a : Addr) (oe : Obj) (cls : Value) (d : Option Addr) (pn : List (Addr × Obj)), L2N.Zn cls d oe → (∃ vs, oe.data = .fields vs) → PSs (X.suite a ((a, oe) :: pn)) (b₀ :: suite)
      (fun D σ H => ∃ (c : Str) (Γ' : Gam), c ∈ U ∧ cls = .ref (He.ga X.K c) ∧ d = none ∧ Γ'.T = Γ.T ∧ Γ'.m0[0]? = some a ∧ rdS X.K Γ' noX (mh c) D σ H) := fun a oe cls d pn hz hv => by
    refine ⟨fun pins s σ H D I ⟨c, Γ', h1, h2, h3, h4, h5, h6⟩ => ?_⟩
    subst h2 h3
    obtain ⟨vs, hv⟩ := hv
    exact (hsu a oe pn c Γ' ⟨h1, hz.1, hz.2.1, vs, hv⟩ ⟨rfl, vs, hv, hz.2.2 vs hv⟩ h4 h5).run pins s σ H D I h6
  refine ps_imp (L2N.ps_try_as hs hf hN hi hln hn tk (tb := fun W' => rd0 X.K Γ W' f mb) hb2 hsu') fun D σ H ⟨h0, h⟩ => ⟨h0, ?_⟩
  obtain ⟨st, p, R, hp, h⟩ := h
  exact ⟨st, p, R, hp, tryAs_in hm h⟩
end
/-- a def that calls what it gets: g is what that is worth -/
structure FnL (P : Program) (w : World) (K : PySem.W.Frag) (mg : Str → Option Value) (base : Heap) (T : List (Addr × Str)) (k : Nat) (f : Addr) (fd : FuncData) (a : Str) (mf : Thk → Fn) : Prop where
  run : ∀ (A : Around) (outer : List Env) (s : Shared) (H : Hp) (fl : Addr) (Q : VK) (E : XK) (g : Thk) (U m am : List Addr) (S : List AV), A.guards = some [] → Room k A → Env0 P w K mg base A outer s H → BindsTo s fd ⟨[.ref fl], []⟩ [(a, .ref fl)] →
    Rp K H (U ++ am) m (m.map V.ref) S am → (U ++ am).Nodup → (∀ b ∈ U, ∃ o, H b = some o ∧ mutO o = true) → Tb T H →
    (∀ (Ng : List Str) (qg : Str) (sg : Scope) (cdg : Value) (pn : List (Addr × Obj)) (xe : Value → Shared → Prop) (W : WX) (p1 p2 : Pos), Ng[0]? = some a → Vis sg a → L2N.Takes ((cxN P w K mg base Ng qg sg f cdg A outer s H E).tr pn xe) W →
      PE ((cxN P w K mg base Ng qg sg f cdg A outer s H E).tr pn xe) (.Call (.Name a p1) [] [] p2) (rd0E K ⟨U, H, am, m, T⟩ W fl (eThk g))) →
    (match mf g [.ded] S with
      | .ok d S' => ∀ v H', Pst K T U m am H [v] [d] S' H' → Q v H'
      | .err c S' => ∀ H', Pst K T U m am H [] [] S' H' → E (.ref (He.ga K c)) none H'
      | .bad => False) → codeAny (model P w) A (.call (.ref f) ⟨[.ref fl], []⟩) (CR (L2N.CX P w) outer P w H s Q E) s
section
variable {P : Program} {w : World} {K : PySem.W.Frag} {mg : Str → Option Value} {base : Heap} {k : Nat} {f : Addr} {fd : FuncData} {N : List Str} {x qual a : Str} {params : Arguments} {body : List Stmt} {scope : Scope} {dvs : List V} {kws : List (Str × V)} {T : List (Addr × Str)}
theorem okL {mb : Thk → M Fl} {n : Nat} (F : FunD K x qual params body scope dvs kws f fd) (S : FnScope N [a] scope) (h0 : N[0]? = some a) (hva : Vis scope a) (hn : N.length - 1 = n)
    (hb : ∀ (cdv : Value) (A : Around) (outer : List Env) (s : Shared) (H : Hp) (E : XK) (Γ : Gam) (fl : Addr) (g : Thk), Γ.T = T → A.guards = some [] → Room k (A.deeper (envOfC qual scope s.heap.objs.size f cdv)) →
      (∀ (pn : List (Addr × Obj)) (xe : Value → Shared → Prop) (W : WX) (p1 p2 : Pos), L2N.Takes ((cxN P w K mg base N qual scope f cdv A outer s H E).tr pn xe) W → PE ((cxN P w K mg base N qual scope f cdv A outer s H E).tr pn xe) (.Call (.Name a p1) [] [] p2) (rd0E K Γ W fl (eThk g))) →
      PSs (cxN P w K mg base N qual scope f cdv A outer s H E) body (rd0 K Γ (fun cls d _ H => E cls d H) fl (mb g))) : FnL P w K mg base T (k + 1) f fd a (fun g => fnM n (mb g)) := by
  obtain ⟨oc, od, dV, kV, doc, pm, an, cdv, ct, osl, rfl, lk, hcd, _, _⟩ := F.ex
  refine ⟨fun A outer s H fl Q E g U m am S0 hG hr e0 hbi r2 nd hu tb act h => ?_⟩
  have inK : K.In s.heap := e0.mod.kin.keeps fun b o e => (e0.bs b o e).1
  have lim : s.heap.NoLimit := e0.mod.nolimit.keeps fun b o e => (e0.bs b o e).1
  refine codeAny_call_function hr.depth (inK _ _ lk) rfl S.co S.gen rfl (PySem.W.codeRec_of inK hcd) (hbi _ _ _ _ ?_)
  refine wpAny_newFunctionEnv_cells S.kind ?_ ?_
  · rintro ⟨n1, v1⟩ hy
    rcases S.par n1 (List.of_mem_zip (l₁ := [a]) (l₂ := [Value.ref fl]) hy).1 with y | y
    · exact .inl y
    · exact .inr ⟨y, PySem.W.cellsFrom_some _ _ _ (.inl y)⟩
  intro env he s1 y
  subst he
  refine ⟨lim.keeps y.toInCall.keep, codeAny_func ?_⟩
  have I := inv_start (CX := L2N.CX P w) (E := E) (us := [.ref fl]) (vs := [.ref fl]) S hr.hd e0 rfl (.cons rfl .nil) y
  have hq := hb cdv A outer s H E ⟨U, H, am, m, T⟩ fl g rfl hG (hr.deeper _) (fun pn xe W p1 p2 tk => act N qual scope cdv pn xe W p1 p2 h0 hva tk)
  have est : L2.start N [V.ref fl] = [V.ref fl].map some ++ List.replicate n none := by unfold L2.start; rw [← hn]; rfl
  rw [est] at I
  refine wpAny_mono (hq.run [] s1 _ H { nx := fun _ H' => Q .non H', rt := Q } I ⟨rfl, _, _, ent (xs := [.ded]) (n := n) (.ded .nil) r2 nd hu tb, rfl, ?_⟩) ?_ (fun e s' q => q)
  · unfold fnM at h
    cases em : mb g ⟨[AV.ded].map Sl.im ++ List.replicate n .no, S0⟩ with
    | bad => rw [em] at h; exact h
    | err c1 st => rw [em] at h; exact fun σ' H' R' => h H' (ext_ R' rfl rfl)
    | ok fl st =>
      rw [em] at h
      cases fl with
      | nx => exact fun σ' H' R' => h .non H' (ext_ R'.non rfl rfl)
      | rt d => exact fun v σ' H' R' => h v H' (ext_ R' rfl rfl)
      | bk => exact h.elim
      | ct => exact h.elim
  · intro fl s' q
    cases fl with
    | ret u =>
      obtain ⟨v, σ', H', J, rv, q⟩ := q
      exact ⟨v, H', J.os, J.bare, J.base, J.hok, rv, q⟩
    | next =>
      obtain ⟨σ', H', J, q⟩ := q
      exact ⟨V.non, H', J.os, J.bare, J.base, J.hok, rfl, q⟩
    | brk => obtain ⟨_, _, _, q⟩ := q; exact q.elim
    | cont => obtain ⟨_, _, _, q⟩ := q; exact q.elim
end
structure CalL (P : Program) (w : World) (K : PySem.W.Frag) (mg : Str → Option Value) (base : Heap) (T : List (Addr × Str)) (k : Nat) (x a : Str) (mf : Thk → Fn) : Prop where
  ex : ∃ (g : Addr) (fd : FuncData), FnL P w K mg base T k g fd a mf ∧ mg x = some (.ref g) ∧ PySem.W.keepIn K (.ref g) = true ∧ Binds K fd [a] []
def eSaid (mf : Thk → Fn) (me : M AV) : M AV := fun st => back st.r (mf (runL me st.r) [.ded] st.s)
section
variable {X : Cx} {Γ : Gam} {W : WX} {k j kk : Nat} {x a : Str} {mf : Thk → Fn} {me : M AV} {c P : Addr} {lp : Arguments} {lb : Expr} {ls : Scope} {p lpos pos : Pos}
theorem s_said (F : CalL X.prog X.w X.K X.mg X.base Γ.T k x a mf) (hG : X.A.guards = some []) (hr : Room j X.A) (hk : k ≤ j) (hk2 : kk + 2 ≤ j) (hg : Gl X x) (tk : L2N.Takes X W) (TB : TabB X.base X.mg c P) (hcode : X.env.code = .ref c)
    (hmT : (P, X.env.qual ++ "<lambda>") ∈ Γ.T) (hu : ∀ y ∈ Γ.T, y.1 = P → y.2 = X.env.qual ++ "<lambda>") (L : LamS X.env.scope ls) (hdef : defaultsOf lp X.env = ([], []))
    (hbind : ∀ (q : Str) (cl : List (Str × Addr)) (pm cv ctv : Value), bindArgs (PySem.W.kla_fn "<lambda>" q lp lb ls cl pm cv ctv) ⟨[], []⟩ = pure [])
    (hbody : ∀ (A : Around) (outer : List Env) (s : Shared) (H : Hp) (E : XK) (f c' : Addr) (Γl : Gam), Γl.T = Γ.T → A.guards = some [] → Room kk (A.deeper (lamEnv X ls s.heap.objs.size f c')) → PE (lamN X A outer s H E ls f c') lb (rdE X.K Γl (fun cls d _ H => E cls d H) me))
    (hdb : (x == ("__debug__" : Str)) = false := by decide) (hd : (a == ("__debug__" : Str)) = false := by decide) (hcd : (a == ("__classdict__" : Str)) = false := by decide) :
    PE X (.Call (.Name x p) [.Lambda lp lb ls lpos] [] pos) (rdE X.K Γ W (eSaid mf me)) := by
  obtain ⟨ga, fd, G, gm, kp, b⟩ := F.ex
  refine ⟨fun pins s σ H Q I h => wpAny_Call_Name_kw (ld_glob I hg gm ?_ hdb)⟩
  obtain ⟨st, pd, ⟨m, ar, am, ao, ab, R⟩, h⟩ := h
  refine PySem.W.callWith_K (h₀ := X.base) I.ok.mod.kin kp ?_ (by rfl) (by rfl)
  show wpAny _ _ (spliced ((false, eval (.Lambda lp lb ls lpos) X.env) :: backTo pos (starEach [] X.env))) _ _ s
  refine Calls.spliced_cons (lam_mk I TB hcode (R.tb.t _ hmT) hdef (L.has I.ok) fun f c' pm ctv H1 s' I1 lh t1 hf hfn hfr hco => ?_)
  refine Calls.spliced_nil ⟨I1.kIn, ?_⟩
  have R1 := R.lam lh hmT hu t1
  obtain ⟨_, c2, c3, c4, c5⟩ := R1.enter (vs := []) (xs := []) .nil
  have bi := b s' [.ref f] I1.kIn rfl
  refine wpAny_call (codeAny_mono (G.run X.A X.stack s' H1 f Q (WE W σ) (runL me st.r) _ m am st.s hG (hr.mono hk) I1.env0 bi c2 c3 c4 c5 (fun Ng qg sg cdg pn xe W' p1 p2 hN hv tk' => ?_) ?_) fun r s2 hq => ?_)
  · exact pe_thk (i := 0) I1 R1 rfl L hf hfn hfr hco (hbind _ _ _ _ _) tk' hG ((hr.mono hk2).deeper _) (fun A outer s H E Γl hT hG hr => hbody A outer s H E f c' Γl hT hG hr) hN hv hd hcd
  · unfold eSaid at h
    cases em : mf (runL me st.r) [.ded] st.s with
    | bad => rw [em] at h; exact h
    | err c1 S' =>
      rw [em] at h
      intro H2 hp
      obtain ⟨m', am', R3, _⟩ := R1.back rfl hp
      exact h H2 R3.rel
    | ok d S' =>
      rw [em] at h
      intro v H2 hp
      obtain ⟨m', am', R3, r3⟩ := R1.back rfl hp
      exact h v H2 (R3.sh r3)
  · cases r with
    | error e => exact L2N.passAt tk σ pins H1 s' e s2 I1 hq
    | ok fl =>
      cases fl with
      | ret u => exact I1.after hq
      | next => exact False.elim hq
      | brk => exact False.elim hq
      | cont => exact False.elim hq
end
end Fk
/-! ## defs that make lambdas; the law's call and its end, with tables of code -/
namespace Fk
open PySem PySem.Spec PyProof.Rows L2 LamX
section
variable {P : Program} {w : World} {K : PySem.W.Frag} {mg : Str → Option Value} {base : Heap} {k : Nat} {f : Addr} {fd : FuncData} {ps N : List Str} {sp : Sp} {x qual : Str} {params : Arguments} {body : List Stmt} {scope : Scope} {dvs : List V} {kws : List (Str × V)} {T : List (Addr × Str)}
/-- a def that makes lambdas, by its body's plain meaning -/
theorem okMT {mb : M Fl} {n : Nat} (F : FunD K x qual params body scope dvs kws f fd) (S : FnScope N ps scope) (hn : N.length - ps.length = n) (hcB : codB K f = true)
    (hb : ∀ (cdv : Value) (A : Around) (outer : List Env) (s : Shared) (H : Hp) (E : XK) (Γ : Gam), Γ.T = T → A.guards = some [] → Room k (A.deeper (envOfC qual scope s.heap.objs.size f cdv)) → cdv = .ref (tabOf K f).1 →
      PSs (cxN P w K mg base N qual scope f cdv A outer s H E) body (rdS K Γ (fun cls d _ H => E cls d H) mb)) : FnN P w K mg base (k + 1) f fd ps (spM K T ps.length (fnM n mb)) := by
  have hc : ∃ oc od osl, K.lookup f = some ⟨oc, od, .func fd, osl⟩ := by
    obtain ⟨oc, od, dV, kV, doc, pm, an, cdv, ct, osl, e, lk, _⟩ := F.ex
    exact ⟨oc, od, osl, lk⟩
  obtain ⟨oc1, od1, dV, kV, doc, pm, an, cdv, ct, osl, rfl, lk, hcd, _, _⟩ := F.ex
  have ecd : cdv = .ref (tabOf K f).1 := codB_ok hcB lk
  refine ⟨fun vs H Q E h => h.1, ?_⟩
  intro A outer s H args us vs Q E hG hr e0 hbi r hsp
  have inK : K.In s.heap := e0.mod.kin.keeps fun b o e => (e0.bs b o e).1
  have lim : s.heap.NoLimit := e0.mod.nolimit.keeps fun b o e => (e0.bs b o e).1
  obtain ⟨hl, U1, m, am, xs, S0, r1, r2, nd, hu, tb, h⟩ := hsp
  refine codeAny_call_function hr.depth (inK _ _ lk) rfl S.co S.gen rfl (PySem.W.codeRec_of inK hcd) (hbi _ _ _ _ ?_)
  refine wpAny_newFunctionEnv_cells S.kind ?_ ?_
  · rintro ⟨n1, v1⟩ hy
    rcases S.par n1 (List.of_mem_zip hy).1 with y | y
    · exact .inl y
    · exact .inr ⟨y, PySem.W.cellsFrom_some _ _ _ (.inl y)⟩
  intro env he s1 y
  subst he
  refine ⟨lim.keeps y.toInCall.keep, codeAny_func ?_⟩
  have I := inv_start (CX := L2N.CX P w) (E := E) S hr.hd e0 hl r y
  have hq := hb cdv A outer s H E ⟨U1, H, am, m, T⟩ rfl hG (hr.deeper _) ecd
  have est : L2.start N vs = vs.map some ++ List.replicate n none := by unfold L2.start; rw [hl, hn]
  rw [est] at I
  refine wpAny_mono (hq.run [] s1 _ H { nx := fun _ H' => Q .non H', rt := Q } I ⟨_, _, ent (n := n) r1 r2 nd hu tb, rfl, ?_⟩) ?_ (fun e s' q => q)
  · unfold fnM at h
    cases em : mb ⟨xs.map Sl.im ++ List.replicate n .no, S0⟩ with
    | bad => rw [em] at h; exact h
    | err c1 st => rw [em] at h; exact fun σ' H' R' => h H' (ext_ R' rfl rfl)
    | ok fl st =>
      rw [em] at h
      cases fl with
      | nx => exact fun σ' H' R' => h .non H' (ext_ R'.non rfl rfl)
      | rt d => exact fun v σ' H' R' => h v H' (ext_ R' rfl rfl)
      | bk => exact h.elim
      | ct => exact h.elim
  · intro fl s' q
    cases fl with
    | ret u =>
      obtain ⟨v, σ', H', J, rv, q⟩ := q
      exact ⟨v, H', J.os, J.bare, J.base, J.hok, rv, q⟩
    | next =>
      obtain ⟨σ', H', J, q⟩ := q
      exact ⟨V.non, H', J.os, J.bare, J.base, J.hok, rfl, q⟩
    | brk => obtain ⟨_, _, _, q⟩ := q; exact q.elim
    | cont => obtain ⟨_, _, _, q⟩ := q; exact q.elim
end
theorem units1 {k : Nat} {A : Around} (r : Room k A) : A.units + 1 < cLine := by have := r.un; omega
theorem unitsH {k : Nat} {A : Around} (r : L2H.RoomH k A) : A.units + 64 < cLine ∧ A.units + 65 < cLine ∧ A.units + 1 < cLine := by have := r.un; omega
/-! ### the law's call -/
theorem law_NT {P : Program} {w : World} {K : PySem.W.Frag} {mg mb : Str → Option Value} {k : Nat} {fa a : Addr} {fd : FuncData} {x : Str} {sp : Sp} {s1 : Shared} {vs : List Value} {ns : List Int} {cs : List (Addr × Addr)}
    (KX : K.In s1.heap) (hns : s1.heap.Ns mainGlobals mg) (hb : s1.heap.Ns builtinsNs mb) (hbb : ∀ x : Str, x ≠ "__name__" → mb x = bootBuiltins x) (hlim : s1.heap.NoLimit) (hg : s1.gens = #[])
    (hT : ∀ p ∈ cs, s1.heap.get? p.2 = some { cls := .none, data := .fields #[] }) (nT : ∀ p ∈ cs, K.lookup p.2 = none) (C : ∀ p ∈ cs, PySem.W.CodeHd s1.heap p.1 p.2)
    (hbm : ∃ (bm : Addr) (ob : Obj), mg "__builtins__" = some (.ref bm) ∧ bm ≠ builtinsNs ∧ s1.heap.get? bm = some ob ∧ ob.cls = .type "module" ∧ ob.dict = some builtinsNs ∧ ob.data = .plain)
    (ha : s1.heap.get? a = some { cls := .type "list", data := .seq vs.toArray }) (hi : IntsAre vs ns) (hl : ns.length ≤ sizeLine) (hr : Room k callerA)
    (Fn : ∀ base : Heap, K.In base → base.Ns mainGlobals mg → (∀ p ∈ cs, TabB base mg p.1 p.2) → FnN P w K mg base k fa fd [x] sp) (hbind : ∀ (s : Shared) (u : Value), BindsTo s fd ⟨[u], []⟩ [(x, u)])
    (hsp : ∀ H : Hp, (∀ p ∈ cs, H p.2 = some (.tbl #[])) → (∀ b ps, H b = some (.tbl ps) → ∃ p ∈ cs, p.2 = b) → Scr K H a (ns.map V.int) → sp [.ref a] H (fun v _ => v = .bl true) fun _ _ _ => False) :
    codeAny (model P w) callerA (.call (.ref fa) ⟨[.ref a], []⟩) (fun r s' => r = .ok (.ret (.bool true)) ∧ OldK s1.heap s'.heap ∧ s'.os = s1.os ∧ AllBare s'.gens) s1 := by
  have rv := vals_ints hi
  have lenV := hi.length
  let ob : Obj := { cls := .type "list", data := .seq vs.toArray }
  let ts : List Addr := cs.map (·.2)
  let Hs : Hp := fun b => if b ∈ ts then some (.tbl #[]) else if b = a ∧ K.lookup a = none then some (.frz ob (.lst (ns.map V.int))) else none
  have isT : ∀ b ∈ ts, s1.heap.get? b = some { cls := .none, data := .fields #[] } := fun b hb => by
    obtain ⟨p, hp, rfl⟩ := List.mem_map.mp hb
    exact hT p hp
  have aT : a ∉ ts := fun z => by
    have q := isT a z
    rw [ha] at q
    cases q
  have at_ : ∀ b u, Hs b = some u → (b ∈ ts ∧ u = .tbl #[]) ∨ (b ∉ ts ∧ b = a ∧ K.lookup a = none ∧ u = .frz ob (.lst (ns.map V.int))) := fun b u q => by
    by_cases c0 : b ∈ ts
    · have q2 : some (HO.tbl #[]) = some u := (if_pos c0).symm.trans q
      exact .inl ⟨c0, (Option.some.inj q2).symm⟩
    · have q1 := (if_neg c0).symm.trans q
      by_cases c : b = a ∧ K.lookup a = none
      · have q2 : some (HO.frz ob (.lst (ns.map V.int))) = some u := (if_pos c).symm.trans q1
        exact .inr ⟨c0, c.1, c.2, (Option.some.inj q2).symm⟩
      · have q2 : (none : Option HO) = some u := (if_neg c).symm.trans q1
        cases q2
  have hS : Scr K Hs a (ns.map V.int) := by
    cases hk : K.lookup a with
    | none => exact .inl ⟨ob, (if_neg aT).trans (if_pos ⟨rfl, hk⟩)⟩
    | some o =>
      have e := KX a o hk
      rw [ha] at e
      cases e
      exact .inr ⟨_, vs.toArray, _, hk, rfl, rfl, rfl, by rw [List.size_toArray, lenV]; exact hl, by simpa using rv⟩
  have hok : HOk P w Hs s1.heap := fun b u q => by
    rcases at_ b u q with ⟨c0, rfl⟩ | ⟨_, rfl, _, rfl⟩
    · exact isT b c0
    · exact ⟨ha, by rw [List.length_map]; exact hl, vs, _, rv, ha⟩
  have hid : ∀ {b : Addr} {o : Obj}, s1.heap.get? b = some o → b ∉ ts → (b = a → K.lookup a ≠ none) → (hidT s1.heap Hs).get? b = some o := fun {b o} e nt n => by
    refine hidT_get e ?_
    cases q : Hs b with
    | none => rfl
    | some u =>
      rcases at_ b u q with ⟨c0, _⟩ | ⟨_, e1, e2, _⟩
      · exact absurd c0 nt
      · exact absurd e2 (n e1)
  have ntD : ∀ {b : Addr} {o : Obj}, s1.heap.get? b = some o → o.data ≠ .fields #[] → b ∉ ts := fun {b o} e n z => by
    rw [isT b z] at e
    cases e
    exact n rfl
  have nsK : ∀ {b : Addr} {m : Str → Option Value}, s1.heap.Ns b m → (hidT s1.heap Hs).Ns b m := fun {b m} ⟨o, es, ep, e, d, rr⟩ => by
    refine ⟨o, es, ep, hid e (ntD e (by rw [d]; exact fun z => nomatch z)) ?_, d, rr⟩
    rintro rfl
    rw [ha] at e
    cases e
    cases d
  have hKb : K.In (hidT s1.heap Hs) := fun b o e => hid (KX b o e) (fun z => by
    obtain ⟨p, hp, rfl⟩ := List.mem_map.mp z
    rw [nT p hp] at e
    cases e) (fun z => by rw [← z, e]; exact fun q => nomatch q)
  have hM : Mod K mg (hidT s1.heap Hs) := by
    refine ⟨hKb, nsK hns, ⟨mb, nsK hb, hbb⟩, ?_⟩
    obtain ⟨mc, h1, h2⟩ := hlim
    exact ⟨mc, nsK h1, h2⟩
  have seqN : ∀ {b : Addr} {o : Obj}, s1.heap.get? b = some o → (∀ vs n, o.data ≠ .seq vs n) → (b = a → K.lookup a ≠ none) := fun {b o} e n z => by
    subst z
    rw [ha] at e
    cases e
    exact absurd rfl (n _ _)
  have TB : ∀ p ∈ cs, TabB (hidT s1.heap Hs) mg p.1 p.2 := fun p hp => by
    have hTp := hT p hp
    refine ⟨?_, ?_, fun z => ?_⟩
    · obtain ⟨o, us, file, tf, flags, tg, inF, text, tt, e1, y1, y2, y3, y4⟩ := C p hp
      refine ⟨o, us, file, tf, flags, tg, inF, text, tt, hid e1 (ntD e1 ?_) (seqN e1 ?_), y1, y2, y3, y4⟩
      · rw [y2]
        intro z
        cases z
        simp at y3
      · rw [y2]
        exact fun _ _ z => nomatch z
    · obtain ⟨bm, o, b1, b2, b3, b4, b5, b6⟩ := hbm
      refine ⟨bm, o, b1, b2, fun z => ?_, fun z => ?_, hid b3 (ntD b3 (by rw [b6]; exact fun z => nomatch z)) (seqN b3 (by rw [b6]; exact fun _ _ z => nomatch z)), b4, b5, b6⟩
      · obtain ⟨o', es, ep, e, hd, _⟩ := hns
        rw [z, e] at b3
        cases b3
        rw [hd] at b6
        cases b6
      · rw [z, hTp] at b3
        cases b3
        cases b6
    · obtain ⟨o', es, ep, e, hd, _⟩ := hns
      rw [z, hTp] at e
      cases e
      cases hd
  have e0 : Env0 P w K mg (hidT s1.heap Hs) callerA [] s1 Hs := ⟨rfl, hM, fun b o e => of_hidT e, Nat.le_of_eq (hidT_size _ _), trivial, fun b z => absurd (show b ∈ ([] : List Addr) from z) (by simp), hok, .of_eq hg⟩
  have hH : ∀ p ∈ cs, Hs p.2 = some (.tbl #[]) := fun p hp => if_pos (List.mem_map.mpr ⟨p, hp, rfl⟩)
  refine codeAny_mono ((Fn _ hKb (nsK hns) TB).run callerA [] s1 Hs ⟨[.ref a], []⟩ [.ref a] [.ref a] _ _ rfl hr e0 (hbind s1 (.ref a)) (.cons rfl .nil) (hsp Hs hH (fun b ps e => ?_) hS)) ?_
  · rcases at_ b _ e with ⟨c0, _⟩ | ⟨_, _, _, z⟩
    · obtain ⟨p, hp, q⟩ := List.mem_map.mp c0
      exact ⟨p, hp, q⟩
    · cases z
  intro r s' h
  cases r with
  | error e =>
    obtain ⟨_, _, _, _, _, _, _, _, _, _, _, _, z⟩ := h
    exact z.elim
  | ok fl =>
    cases fl with
    | next => exact h.elim
    | brk => exact h.elim
    | cont => exact h.elim
    | ret u =>
      obtain ⟨v, H', os, bare, un, hok', r', q⟩ := h
      have q' : v = .bl true := q
      subst q'
      obtain rfl : u = Value.bool true := r'
      have grown : ∀ p ∈ cs, ∃ more : Array Value, s'.heap.get? p.2 = some { cls := .none, data := .fields more } := fun p hp => by
        obtain ⟨more, z⟩ := un.tbls p.2 #[] (hH p hp)
        exact ⟨_, hok' p.2 _ z⟩
      have keep : ∀ b o, b ∉ ts → s1.heap.get? b = some o → s'.heap.get? b = some o := fun b o nb e => by
        cases q : Hs b with
        | none => exact un.keep b o e q (fun z => absurd (show b ∈ ([] : List Addr) from z) (by simp)) (by simp)
        | some u =>
          rcases at_ b u q with ⟨c0, _⟩ | ⟨_, e1, e2, e3⟩
          · exact absurd c0 nb
          · subst e3
            have z2 := un.frzs b ob _ q
            obtain ⟨g1, _⟩ := hok b _ q
            obtain ⟨g2, _⟩ := hok' b _ z2
            rw [e] at g1
            cases g1
            exact g2
      refine ⟨rfl, ⟨fun b o e => ?_, fun b o e => ?_⟩, os, bare⟩
      · by_cases c : b ∈ ts
        · obtain ⟨p, hp, rfl⟩ := List.mem_map.mp c
          obtain ⟨more, hm⟩ := grown p hp
          rw [hT p hp] at e
          cases e
          exact .inr (.inl ⟨((C p hp).tab (hT p hp)).isCodeTable, rfl, #[], more, rfl, by rw [Array.empty_append]; exact hm⟩)
        · exact .inl (keep b o c e)
      · by_cases c : b ∈ ts
        · obtain ⟨p, hp, rfl⟩ := List.mem_map.mp c
          obtain ⟨more, hm⟩ := grown p hp
          exact ⟨_, hm⟩
        · exact ⟨o, keep b o c e⟩
theorem walk_endT {l : PySem.W.OpenLaw} {n k : Nat} {q : Program} {loose : List Str} {XP : (Str → Option Value) → Heap → Prop} {YP : World → Heap → Prop} {d : DefRec} {x : Str}
    (hn : l.most = some n) (hn2 : n ≤ sizeLine) (hdf : d.params.defaults = []) (hr : Room k callerA)
    (Fx : ∀ (w : World) (mg : Str → Option Value) (fa : Addr) (h : Heap), YP w h → h.Ns mainGlobals mg → mg d.name = some (.ref fa) →
      ∃ (K : PySem.W.Frag) (fd : FuncData) (sp : Sp) (cs : List (Addr × Addr)), K.In h ∧ (∀ p ∈ cs, h.get? p.2 = some { cls := .none, data := .fields #[] }) ∧ (∀ p ∈ cs, K.lookup p.2 = none) ∧ (∀ p ∈ cs, PySem.W.CodeHd h p.1 p.2) ∧ (∀ (s : Shared) (u : Value), BindsTo s fd ⟨[u], []⟩ [(x, u)]) ∧
        (∀ (H : Hp) (a : Addr) (ns : List Int), ns.length ≤ n → (∀ z ∈ ns, Builtin.Int.intBits z ≤ 1048576) → (∀ p ∈ cs, H p.2 = some (.tbl #[])) → (∀ b ps, H b = some (.tbl ps) → ∃ p ∈ cs, p.2 = b) → Scr K H a (ns.map V.int) → sp [.ref a] H (fun v _ => v = .bl true) fun _ _ _ => False) ∧
        ∀ base : Heap, K.In base → base.Ns mainGlobals mg → (∀ p ∈ cs, TabB base mg p.1 p.2) → FnN l.prog w K mg base k fa fd [x] sp) :
    PySem.W.WalkO q loose XP YP l.row.toRowW d [] (fun f vs => PySem.call f vs) := by
  refine Att.attach_callB hn hdf ?_
  intro w s0 s1 mg mb fa o pm cd doc a vs ns G Y ho hd hcd hmg hobj hints hlen hbits hg
  obtain ⟨K, fd, sp, cs, KX, t1, t2, t3, hb, hsp, hF⟩ := Fx w mg fa _ Y G.T.g hmg
  exact law_NT KX G.T.g G.T.b G.T.builtins G.T.nolimit hg t1 t2 t3 G.T.bmain hobj hints (Nat.le_trans hlen hn2) hr hF hb (fun H hT hA hS => hsp H a ns hlen hbits hT hA hS)
theorem law_spT {K : PySem.W.Frag} {f : Fn} {H : Hp} {a : Addr} {ns : List Int} {mk : List Str} (h : ∃ S, f [.scr (ns.map AV.int)] [] = .ok (.bl true) S) (hT : ∀ p ∈ mk.map (mkr K), H p.2 = some (.tbl #[])) (hA : ∀ b ps, H b = some (.tbl ps) → ∃ p ∈ mk.map (mkr K), p.2 = b) (hS : Scr K H a (ns.map V.int)) :
    spM K (tabsOf K mk) 1 f [.ref a] H (fun v _ => v = .bl true) fun _ _ _ => False := by
  obtain ⟨S, e⟩ := h
  refine ⟨rfl, [], [], [], [.scr (ns.map AV.int)], [], .scr hS (rp_intsA ns) .nil, .nil, .nil, (fun _ z => nomatch z), ⟨fun y hy => ?_⟩, ?_⟩
  · obtain ⟨x, hx, rfl⟩ := List.mem_map.mp hy
    exact TabS.nil (hT _ (List.mem_map.mpr ⟨x, hx, rfl⟩))
  · rw [e]
    intro v H' hp
    obtain ⟨m', am', r, _⟩ := hp
    exact r.bl_i
end Fk
/-! ## calls with keywords -/
namespace Fk
open PySem PySem.Spec PyProof.Rows L2
/-- where a parameter's value comes from: the place, the keyword, the default of this number -/
inductive Src where
  | p (i : Nat) | k (j : Nat) | d (i : Nat)
def Src.get {α : Type} (xs zs ds : List α) : Src → Option α
  | .p i => xs[i]?
  | .k j => zs[j]?
  | .d i => ds[i]?
def srcs {α : Type} (xs zs ds : List α) : List Src → List α
  | [] => []
  | s :: r => match s.get xs zs ds with
    | some x => x :: srcs xs zs ds r
    | none => srcs xs zs ds r
section
variable {K : PySem.W.Frag} {H : Hp} {W m : List Addr}
end
/-! ### what a call with keywords binds -/
section
variable {K : PySem.W.Frag} {x qual : Str} {params : Arguments} {body : List Stmt} {scope : Scope} {dvs : List V} {kws : List (Str × V)} {f : Addr} {fd : FuncData} {ps : List Str}
end
def eCallK (np n m : Nat) (f : Fn) (ss : List Src) (ds : List AV) (ma mk : M (List AV)) : M AV := fun st => (ma st).bind fun xs s1 => (mk s1).bind fun zs s2 => if xs.length = n ∧ zs.length = m ∧ (srcs xs zs ds ss).length = np then back s2.r (f (srcs xs zs ds ss) s2.s) else .bad
def eMethK (C nm : Str) (np n m : Nat) (f : Fn) (ss : List Src) (ds : List AV) (mo : M AV) (ma mk : M (List AV)) : M AV := fun st => (mo st).bind fun x s1 => bif clsOk s1.s C nm x then (ma s1).bind fun xs s2 => (mk s2).bind fun zs s3 => if xs.length = n ∧ zs.length = m ∧ (srcs (x :: xs) zs ds ss).length = np then back s3.r (f (srcs (x :: xs) zs ds ss) s3.s) else .bad else .bad
def eMakeK (C : Str) (np n m : Nat) (f : Fn) (ss : List Src) (ds : List AV) (ma mk : M (List AV)) : M AV := fun st => (ma st).bind fun xs s1 => (mk s1).bind fun zs s2 => if xs.length = n ∧ zs.length = m ∧ (srcs (.loc s2.s.length :: xs) zs ds ss).length = np then mkBack s2.r s2.s.length (f (srcs (.loc s2.s.length :: xs) zs ds ss) (s2.s ++ [.ins C [] []])) else .bad
section
variable {X : Cx} {Γ : Gam} {W : WX} {σ : L2.St} {H : Hp} {st : Ss} {p : Pd} {K : PySem.W.Frag} {pos apos q kpos : Pos} {o e : Expr} {es : List Expr} {kws : List Keyword} {x : Str} {k j n m np : Nat} {C nm : Str} {ps ks : List Str} {ss : List Src} {ds : List AV} {f : Fn} {mo me : M AV} {ma mk : M (List AV)}
end
end Fk
/-! ## sets of ints by comprehensions, their length -/
namespace Fk
open PySem PySem.Spec PyProof.Rows L2 PpSet
theorem set_fresh {H : Hp} {h : Heap} (P : Program) (w : World) : ObjOk P w H (h.push { cls := .type "set", dict := none, data := .set #[] 0 (.fresh 0 0 (!w.params.followText "set-order")) }) h.objs.size (.set (fun _ => false) 0) := (setR_fresh w).setOf
section
variable {X : Cx}
theorem addI_ok {pins : List (Addr × Obj)} {σ : L2.St} {H : Hp} {s : Shared} {E : Value → Shared → Prop} {D : Addr} {S : Int → Bool} {n : Nat} {y : Int} {t : Tok} {Q : Value → Shared → Prop} (I : Inv X pins σ H s) (hD : H D = some (.set S n)) (room : n + 1 < scanBound)
    (h : ∀ s', Inv X pins σ (upd H D (.set (fun j => S j || decide (j = y)) (if S y = true then n else n + 1))) s' → Q .none s') : wpAny (model X.prog X.w) X.A (call (.builtin "set.add") [.ref D, .int y t]) Q E s := by
  have R : s.heap.SetOf (intKind X.prog X.w) D S n := I.hok D _ hD
  refine call_set_add (knd := intKind X.prog X.w) (k := y) (by simp [intKind, Value.isInt]) rfl R room fun h' sb new => ?_
  have he : ∃ u, h'.get? D = some u := by
    obtain ⟨o, _, _, _, ho, _⟩ := id new
    exact ⟨o, ho⟩
  exact h _ (I.write (e := D) (t' := s.toks + 1) (by rw [hD]; trivial) (.inl rfl) (fun b u hb hu => (sb.2 b hb).trans hu) he new)
def tScI (wi : TI) (g : TG) (tt : TT) (te : TE) (vs : List Nat) : TE := fun σ H Q => wi σ H fun J H1 => ∀ D, H1 D = none → ∃ W : Nat → Nat → Hp → Prop, (∃ m, W 0 m (upd H1 D (.set (fun _ => false) 0))) ∧ ∀ i m H, W i m H →
  (J.stop i H ∧ Q (.ref D) H) ∨ (J.go i H ∧ ∃ Nx : Hp → Prop, (∀ H', Nx H' → ∃ m', m' < m ∧ W (i + 1) m' H') ∧ ∀ x H', J.yld i H x H' → g x (L2.wipe σ vs) H' fun σ2 H2 => L2.wipe σ2 vs = L2.wipe σ vs ∧ tt σ2 H2 fun b H3 =>
    if b = true then te σ2 H3 fun y H4 => ∃ (c : Int) (S : Int → Bool) (n : Nat), y = .int c ∧ H4 D = some (.set S n) ∧ n + 1 < scanBound ∧ Nx (upd H4 D (.set (fun j => S j || decide (j = c)) (if S c = true then n else n + 1))) else Nx H3)
theorem sci_core {pins : List (Addr × Obj)} {s : Shared} {σ : L2.St} {H : Hp} {Q : VK} {elt tg iter : Expr} {ifs : List Expr} {scope : Scope} {own : List (PySem.Str × Nat)} {pos pos' : Pos} {wi : TI} {g : TG} {tt : TT} {te : TE} {us0 : Option (Value → Sem Unit)} {Qf : Value → Shared → Prop}
    (hc : X.calm = true) (hN : X.N.Nodup) (I : Inv X pins σ H s) (hi : PI X tg iter wi) (bok : BlkOk X.N X.env.scope scope own)
    (hg : ∀ (sq : Shared) (Hq : Hp) (Cq : Addr) (cq : List (PySem.Str × Addr)) (fq : List Addr), PG (X.blk sq Hq scope (compEnvC scope cq Cq X.env) fq) tg g) (ht : ∀ (sq : Shared) (Hq : Hp) (Cq : Addr) (cq : List (PySem.Str × Addr)) (fq : List Addr), PTs (X.blk sq Hq scope (compEnvC scope cq Cq X.env) fq) ifs tt)
    (he : ∀ (sq : Shared) (Hq : Hp) (Cq : Addr) (cq : List (PySem.Str × Addr)) (fq : List Addr), PE (X.blk sq Hq scope (compEnvC scope cq Cq X.env) fq) elt te) (hs : ∀ x, foldedSetIterable iter X.env x = pure x)
    (h : tScI wi g tt te (own.map (·.2)) σ H Q)
    (fine : ∀ D C s' m H', Inv X pins σ H' s' → Q (.ref D) H' → s'.heap.Ns C m → FpOk X pins H' C → compPost (model X.prog X.w) X.A X.xe us0 Qf (.ref D) C (.ok .next) s') :
    wpAny (model X.prog X.w) X.A (comprehension (.SetComp elt [⟨tg, iter, ifs, 0⟩] scope pos) scope X.env pos' (newSet (.type "set")) false (eval iter X.env) us0) Qf X.xe s := by
  have clo : ∀ y ∈ scope.names, y.2 = .free → ∃ c, X.env.cells.lookup y.1 = some c := fun y hy e => by
    rcases bok.free y hy e with k | k
    · exact I.ok.has _ (.inl k)
    · exact I.ok.has _ (.inr k)
  refine wpAny_comprehension_free (use := us0) rfl hs (closure_ok clo) bok.kind (fun y hy e => by rw [bok.uniq y hy, e])
    (thn (hi.run pins s σ H _ I h) fun xw s1 hw => thn hw fun iw s2 h2 => ?_)
  obtain ⟨it, fp, tn, J, H2, e, J2, T, at2, gp2, q⟩ := h2
  subst e
  refine newSet_ok (newEnv_comp ?_)
  generalize eD : s2.heap.objs.size = D
  have nD : H2 D = none := J2.hok.fresh (Nat.le_of_eq eD)
  obtain ⟨W, ⟨mz, wz⟩, trn⟩ := q D nD
  generalize es3 : ({ s2 with heap := s2.heap.push { cls := .type "set", dict := none, data := .set #[] 0 (.fresh 0 0 (!X.w.params.followText "set-order")) } } : Shared) = sa
  have J3 : Inv X pins σ (upd H2 D (HO.set (fun _ => false) 0)) sa := by
    rw [← es3]
    refine J2.laid (t' := s2.toks) (fun b o e => Heap.get?_push_of_some _ e) (Nat.le_of_eq eD) ?_
    rw [← eD]
    exact set_fresh X.prog X.w
  have eh3 : sa.heap = s2.heap.push { cls := .type "set", dict := none, data := .set #[] 0 (.fresh 0 0 (!X.w.params.followText "set-order")) } := by rw [← es3]
  have lts : ∀ b ∈ fp, b < s2.heap.objs.size := fun b hb => by
    obtain ⟨o, e, _⟩ := T.obj _ _ at2 b hb
    exact Heap.lt_size e
  have gp3 : ∀ b ∈ fp, FpOk X pins (upd H2 D (HO.set (fun _ => false) 0)) b ∧ b < sa.heap.objs.size := fun b hb => by
    have hlt := lts b hb
    refine ⟨⟨?_, (gp2 b hb).2⟩, by rw [eh3, Heap.size_push]; exact Nat.lt_succ_of_lt hlt⟩
    rw [upd_ne (by rw [← eD]; exact Nat.ne_of_lt hlt)]
    exact (gp2 b hb).1
  have at3 : tn 0 sa.heap := T.keep _ _ _ at2 fun b _ o e => by rw [eh3]; exact Heap.get?_push_of_some _ e
  have J4 := block_start J3 bok hN gp3
  have pgt := hg sa (upd H2 D (HO.set (fun _ => false) 0)) sa.heap.objs.size (cellsFrom (sa.heap.objs.size + 1) scope.names (cloFrom X.env.cells scope.names [])) fp
  have ptt := ht sa (upd H2 D (HO.set (fun _ => false) 0)) sa.heap.objs.size (cellsFrom (sa.heap.objs.size + 1) scope.names (cloFrom X.env.cells scope.names [])) fp
  have pee := he sa (upd H2 D (HO.set (fun _ => false) 0)) sa.heap.objs.size (cellsFrom (sa.heap.objs.size + 1) scope.names (cloFrom X.env.cells scope.names [])) fp
  show codeAny _ _ (.compStart (.SetComp elt [⟨tg, iter, ifs, 0⟩] scope pos) 0 (.ref it) (.ref D) (compEnvC scope (cellsFrom (sa.heap.objs.size + 1) scope.names (cloFrom X.env.cells scope.names [])) sa.heap.objs.size X.env)) (compPost (model X.prog X.w) X.A X.xe us0 Qf (.ref D) sa.heap.objs.size) { sa with heap := pushCells (sa.heap.push { cls := .type "dict", data := .dict #[] }) scope.names }
  have nop : ∀ b ∈ fp, (upd H2 D (HO.set (fun _ => false) 0)) b = none := fun b hb => (gp3 b hb).1.1
  generalize ece : compEnvC scope (cellsFrom (sa.heap.objs.size + 1) scope.names (cloFrom X.env.cells scope.names [])) sa.heap.objs.size X.env = ev at J4 pgt ptt pee ⊢
  have cloc : ev.locals = sa.heap.objs.size := by subst ece; rfl
  generalize eHa : upd H2 D (HO.set (fun _ => false) 0) = Ha at J3 J4 pgt ptt pee wz nop gp3
  generalize es4 : ({ sa with heap := pushCells (sa.heap.push { cls := .type "dict", data := .dict #[] }) scope.names } : Shared) = sb4 at J4 ⊢
  have at4 : tn 0 sb4.heap := T.keep _ _ _ at3 fun b _ o e => by rw [← es4]; exact pushCells_keeps _ _ _ _ (Heap.get?_push_of_some _ e)
  have okf : ∀ {σ' : L2.St} {H' : Hp} {s' : Shared}, Inv (X.blk sa Ha scope ev fp) [] σ' H' s' → (∀ b ∈ fp, H' b = none) → ∀ b ∈ fp, FpOk (X.blk sa Ha scope ev fp) [] H' b := fun {σ' H' s'} J' hn b hb =>
    ⟨hn b hb, (J'.ok.exf b hb).1, J'.ok.exfs b hb, .inl hb, fun x c e => (J'.ok.exf b hb).2 x c e, fun p hp => absurd (show p ∈ ([] : List (Addr × Obj)) ++ [] from hp) (by simp)⟩
  have lup : codeAny (model X.prog X.w) X.A (.compLoop (.SetComp elt [⟨tg, iter, ifs, 0⟩] scope pos) 0 (.ref it) (.ref D) ev) (compPost (model X.prog X.w) X.A X.xe us0 Qf (.ref D) sa.heap.objs.size) sb4 := by
    refine compLoopS_any (fun n s' => ∃ i H', Inv (X.blk sa Ha scope ev fp) [] (wipe σ (own.map (·.2))) H' s' ∧ tn i s'.heap ∧ (∀ b ∈ fp, H' b = none) ∧ W i n H') ?_ mz ⟨0, Ha, J4, at4, nop, wz⟩
    rintro n sc5 ⟨i, Hc, J5, at5, nc, wc⟩
    rcases trn i n Hc wc with ⟨fin0, qend⟩ | ⟨gon, Nn, nxm, stp⟩
    · have tdn := T.done (X.blk sa Ha scope ev fp) rfl rfl rfl hc i [] sc5 _ Hc (fun _ _ => False) J5 (okf J5 nc) at5 fin0
      refine thnF tdn fun r sd6 ⟨hr, J6⟩ => ?_
      subst hr
      have J7 : Inv X pins σ Hc sd6 := J3.call' (ch := fp) J6.os J6.base J6.hok J6.bare fun b hb => ⟨(gp3 b hb).1.2.2.2.1, (gp3 b hb).1.2.1, (gp3 b hb).1.2.2.2.2.1, (gp3 b hb).1.2.2.2.2.2⟩
      have nC : Hc sa.heap.objs.size = none := by
        have z : Hc ev.locals = none := J6.free
        rw [cloc] at z
        exact z
      obtain ⟨m, hn, _⟩ := J6.loc
      have hn : sd6.heap.Ns ev.locals m := hn
      rw [cloc] at hn
      exact fine D sa.heap.objs.size sd6 m Hc J7 qend hn (J3.fpOk (Nat.le_refl _) nC)
    · have tit := T.item (X.blk sa Ha scope ev fp) rfl rfl rfl hc i [] sc5 _ Hc (fun _ _ => False) J5 (okf J5 nc) at5 gon
      refine thnF tit fun r sd6 ⟨u, hr, h6⟩ => ?_
      subst hr
      refine thnF h6 fun _ se7 ⟨x, He7, J7, re7, ye7, at7, ne7⟩ => ?_
      have J7' := J7.pinned (okf J7 ne7) (T.obj _ _ at7)
      refine thnF (pgt.run _ se7 _ He7 x u _ J7' re7 (stp x He7 ye7)) fun _ sf8 ⟨σe, Hf8, J8, hwe, qe8⟩ => ?_
      refine thnF (ptt.run _ sf8 σe Hf8 _ J8 qe8) fun b sg9 ⟨Hg9, J9, qe9⟩ => ?_
      have clz : ∀ {s' : Shared} {H' : Hp}, Inv (X.blk sa Ha scope ev fp) ([] ++ pinsAt fp se7.heap) σe H' s' → Nn H' → ∃ m, m < n ∧ ∃ i H', Inv (X.blk sa Ha scope ev fp) [] (wipe σ (own.map (·.2))) H' s' ∧ tn i s'.heap ∧ (∀ b ∈ fp, H' b = none) ∧ W i m H' := fun {s' H'} J' nxx => by
        obtain ⟨m', hm, w'⟩ := nxm H' nxx
        have pinq : ∀ b ∈ fp, ∀ o, se7.heap.get? b = some o → s'.heap.get? b = some o ∧ H' b = none := fun b hb o e =>
          let z := J'.pin (b, o) (List.mem_append_right _ (List.mem_append_right _ (mem_pinsAt hb e)))
          ⟨z.1, z.2.1⟩
        have hle : (wipe σ (own.map (·.2))).length = σe.length := by rw [← hwe, wipe_length]
        refine ⟨m', hm, i + 1, H', (J'.unpinned (pins := [])).weak hle (fun j v e => ?_), T.keep _ _ _ at7 fun b hb o e => (pinq b hb o e).1, fun b hb => ?_, w'⟩
        · rw [← hwe] at e
          exact (wipe_some e).1
        · obtain ⟨o, e, _⟩ := T.obj _ _ at7 b hb
          exact (pinq b hb o e).2
      cases b with
      | false =>
        simp only [Bool.false_eq_true, if_false] at qe9 ⊢
        exact clz J9 qe9
      | true =>
        simp only [if_true] at qe9 ⊢
        refine thnF (pee.run _ sg9 σe Hg9 _ J9 qe9) fun z sh10 ⟨yv, Hh10, J10, r10, cb, S0, n0, ey, hD10, hz10, nxx⟩ => ?_
        subst ey
        obtain ⟨tz, rfl⟩ := (show ∃ t, z = Value.int cb t from r10)
        exact addI_ok (X := X.blk sa Ha scope ev fp) J10 hD10 hz10 fun si11 J11 => clz J11 nxx
  exact codeAny_compStart_set lup (T.self X.A 0 _ _ _ at4 lup)
theorem pe_scI {elt tg iter : Expr} {ifs : List Expr} {scope : Scope} {own : List (PySem.Str × Nat)} {pos : Pos} {wi : TI} {g : TG} {tt : TT} {te : TE} (hc : X.calm = true) (hN : X.N.Nodup) (hi : PI X tg iter wi) (bok : BlkOk X.N X.env.scope scope own)
    (hgt : ∀ (sq : Shared) (Hq : Hp) (Cq : Addr) (cq : List (PySem.Str × Addr)) (fq : List Addr), PG (X.blk sq Hq scope (compEnvC scope cq Cq X.env) fq) tg g) (htt : ∀ (sq : Shared) (Hq : Hp) (Cq : Addr) (cq : List (PySem.Str × Addr)) (fq : List Addr), PTs (X.blk sq Hq scope (compEnvC scope cq Cq X.env) fq) ifs tt)
    (hee : ∀ (sq : Shared) (Hq : Hp) (Cq : Addr) (cq : List (PySem.Str × Addr)) (fq : List Addr), PE (X.blk sq Hq scope (compEnvC scope cq Cq X.env) fq) elt te) (hss : ∀ x, foldedSetIterable iter X.env x = pure x := by intro _; rfl) :
    PE X (.SetComp elt [⟨tg, iter, ifs, 0⟩] scope pos) (tScI wi g tt te (own.map (·.2))) := by
  refine ⟨fun pins s σ H Q I h => ?_⟩
  rw [eval_SetComp]
  refine sci_core hc hN I hi bok hgt htt hee hss h fun D C s' m H' J q hn f => ⟨m, hn, fun h2 sb => ?_⟩
  obtain ⟨y0, y1, y2, y3, y4, y5⟩ := f
  exact ⟨.ref D, H', J.turned (t' := s'.toks) (fun b o hb e => (sb.2 b hb).trans e) y0 y1 y3 y4 y5, rfl, q⟩
theorem call_lenS : CallR X (.builtin "len") (fun xs H Q => ∃ a S n, xs = [.ref a] ∧ H a = some (.set S n) ∧ n < 4096 ∧ Q (.int n) H) := by
  intro pins s σ H xs us Q I r ⟨a, S, n, hx, hs, hn, q⟩
  subst hx
  obtain ⟨u, rfl, rx⟩ := vals1 r
  cases rx
  have R : s.heap.SetOf (intKind X.prog X.w) a S n := I.hok a _ hs
  obtain ⟨o, es, ep, t, h1, h2, h3, _, _, _, h7, h8⟩ := R
  exact call_len_set h1 h2 h3 h7 (by omega) ⟨.int n, H, I.tok _, ⟨_, by rw [← h8]⟩, q⟩
end
/-! ### the rule -/
def addK (ks : List Int) (k : Int) : List Int := if k ∈ ks then ks else ks ++ [k]
theorem addK_is {S : Int → Bool} {n : Nat} {ks : List Int} (h : SetIs S n ks) (k : Int) : SetIs (fun j => S j || decide (j = k)) (if S k = true then n else n + 1) (addK ks k) := by
  unfold addK
  have hm := h.mem k
  by_cases c : k ∈ ks
  · rw [if_pos c, if_pos (by rw [hm]; exact decide_eq_true c)]
    refine ⟨fun j => ?_, h.len, h.nd⟩
    rw [h.mem j]
    by_cases e : j = k
    · subst e; simp [c]
    · simp [e]
  · rw [if_neg c, if_neg (by rw [hm]; simp [c])]
    refine ⟨fun j => ?_, by rw [List.length_append, ← h.len]; rfl, ?_⟩
    · rw [h.mem j]
      simp [Bool.or_comm]
    · rw [List.nodup_append]
      exact ⟨h.nd, by simp, fun a ha b hb e => c (by simp at hb; rw [← hb, ← e]; exact ha)⟩
def compS (t : Tg) (tt : M Bool) (te : M AV) (vs : List Nat) : List AV → List Int → Ss → Res (List Int) Ss
  | [], ks, st => .ok ks st
  | d :: ds, ks, st => match t d st with
    | none => .bad
    | some s0 => match tt s0 with
      | .ok false s1 => compS t tt te vs ds ks (s1.wipe vs)
      | .ok true s1 => match te s1 with
        | .ok (.int k) s2 => if ks.length < 1000 then compS t tt te vs ds (addK ks k) (s2.wipe vs) else .bad
        | _ => .bad
      | _ => .bad
def eSc (mi : M (List AV)) (t : Tg) (tt : M Bool) (te : M AV) (vs : List Nat) : M AV := fun st => (mi st).bind fun ds s1 => (compS t tt te vs ds [] (s1.wipe vs)).bind fun ks s2 => .ok (.set ks) s2
def eLenS (m : M AV) : M AV := fun st => (m st).bind fun d s1 => match d with
  | .set ks => if ks.length < 1000 then .ok (.int ks.length) s1 else .bad
  | _ => .bad
section
variable {X : Cx} {Γ : Gam} {W : WX} {σ : L2.St} {H : Hp} {st : Ss} {p : Pd} {K : PySem.W.Frag} {pos q pos' : Pos}
theorem Rl.newSet {m ar am ao ab : List Addr} (R : Rl K Γ σ H st p m ar am ao ab) {D : Addr} (h : H D = none) : Rel K Γ σ (upd H D (.set (fun _ => false) 0)) st (p.own (.ref D) (.set [])) :=
  (R.newO (o := .set (fun _ => false) 0) (d := .set []) h fun {H' W'} t h1 => .set h1 ⟨fun k => by simp, rfl, by simp⟩ .nil).rel
/-- an int goes into the set that is pending -/
theorem Rel.addS {D : Addr} {ks : List Int} {y : V} {k : Int} (R : Rel K Γ σ H st ((p.own (.ref D) (.set ks)).sh y (.int k))) : ∃ S n, y = .int k ∧ H D = some (.set S n) ∧ n = ks.length ∧ Rel K Γ σ (upd H D (.set (fun j => S j || decide (j = k)) (if S k = true then n else n + 1))) st (p.own (.ref D) (.set (addK ks k))).nob := by
  obtain ⟨m, ar, am, ao, ab, R⟩ := R
  have ry := R.ri.head0.1.int_i
  obtain ⟨cs, ao', eo, rd, ro'⟩ := R.ro.head
  cases rd with
  | @set _ S n _ _ _ as0 h e r0 =>
    obtain ⟨_, rfl⟩ := r0.nil_inv
    refine ⟨S, n, ry, h, e.len, ?_⟩
    have nd := R.nd
    have fr := R.fr
    have hq : D ∈ wOf Γ ar am ao := by rw [eo]; simp [wOf]
    have t : Tr H (upd H D (.set (fun j => S j || decide (j = k)) (if S k = true then n else n + 1))) (wOf Γ ar am ao) (wOf Γ ar am ao) m m [D] := Tr.put h rfl hq fun _ z => z
    have n0 : ∀ c ∈ ar, c ∉ [D] := fun c hc z => by
      simp only [wOf, eo, List.nodup_append, List.nodup_cons, List.mem_append, List.mem_cons, List.mem_singleton] at nd z
      grind
    have n1 : ∀ c ∈ am, c ∉ [D] := fun c hc z => by
      simp only [wOf, eo, List.nodup_append, List.nodup_cons, List.mem_append, List.mem_cons, List.mem_singleton] at nd z
      grind
    have n2 : ∀ c ∈ ao', c ∉ [D] := fun c hc z => by
      simp only [wOf, eo, List.nodup_append, List.nodup_cons, List.mem_append, List.mem_cons, List.mem_singleton, List.nil_append] at nd z
      grind
    refine ⟨m, ar, am, ao, [], t.rs R.rs n0, t.rp R.rm n1, t.rp0 R.ri.head0.2, ?_, .nil, R.nd, R.fr, fun a o e' n' => ?_, R.pm, R.gu, tabs_put R.tb h rfl⟩
    · have q := Rp.set (K := K) (W := wOf Γ ar am ao) (m := m) upd_same (addK_is e k) (t.rp ro' n2)
      have e3 : ao = D :: ao' := by simpa using eo
      rw [e3] at q ⊢
      exact q
    · obtain ⟨o2, e2, f2⟩ := R.kp a o e' n'
      have ne : a ≠ D := by
        rintro rfl
        rcases fr a (by rw [eo]; simp) with z | z
        · exact n' z
        · rw [e'] at z; cases z
      exact ⟨o2, by rw [upd_ne ne]; exact e2, f2⟩
theorem sc_in {mi : M (List AV)} {ns vs : List Nat} {t : Tg} {mt : M Bool} {me : M AV} {Q : VK} (hns : ∀ i ∈ ns, i ∈ vs) (h : rdO K Γ W (eSc mi t mt me vs) σ H Q) : tScI (rdI K Γ W mi) (rdG K Γ ns t) (rdT K Γ noX mt) (rdE K Γ noX me) vs σ H Q := by
  obtain ⟨st, p, R, h⟩ := h
  refine ⟨st, p, R, ?_⟩
  unfold eSc at h
  cases ea : mi st with
  | bad => rw [ea] at h; exact h
  | err c s1 => rw [ea] at h; exact h
  | ok ds s1 =>
    rw [ea] at h
    simp only [Res.bind_ok] at h
    have noerr : ∀ (ds : List AV) (ks : List Int) (st : Ss) (c : Str) (s : Ss), compS t mt me vs ds ks st ≠ .err c s := fun ds => by
      induction ds with
      | nil => intro ks st c s z; cases z
      | cons d ds ih =>
        intro ks st c s z
        unfold compS at z
        repeat' split at z
        all_goals first | exact ih _ _ _ _ z | cases z
    have h : match compS t mt me vs ds [] (s1.wipe vs) with
      | .ok ks st' => ∀ v H', Rel K Γ σ H' st' (p.nob.own v (.set ks)) → Q v H'
      | _ => False := by
      cases ec : compS t mt me vs ds [] (s1.wipe vs) with
      | bad => rw [ec] at h; exact h
      | err c s => exact absurd ec (noerr _ _ _ _ _)
      | ok xs s => rw [ec] at h; exact h
    intro J H1 pv px hl R1 J1 D hD
    refine ⟨fun i n H => n = ds.length - i ∧ i ≤ ds.length ∧ ∃ (s0 : Ss) (ks : List Int), Rel K Γ (L2.wipe σ vs) H (s0.wipe vs) ((p.nob.shs pv px).own (.ref D) (.set ks)) ∧ (match compS t mt me vs (ds.drop i) ks (s0.wipe vs) with
      | .ok ks st' => ∀ v H', Rel K Γ σ H' st' (p.nob.own v (.set ks)) → Q v H'
      | _ => False), ⟨_, rfl, Nat.zero_le _, s1, [], ?_, h⟩, ?_⟩
    · obtain ⟨m, ar, am, ao, ab, R2⟩ := R1.wipe vs
      exact R2.newSet hD
    rintro i n H ⟨rfl, hi, s0, ks, R2, h2⟩
    by_cases c : i < ds.length
    · rw [List.drop_eq_getElem_cons c] at h2
      unfold compS at h2
      cases et : t ds[i] (s0.wipe vs) with
      | none => rw [et] at h2; exact h2.elim
      | some s2 =>
        rw [et] at h2
        obtain ⟨go, yl⟩ := J1.1 i ds[i] (L2.wipe σ vs) H (s0.wipe vs) _ _ (by simp [c]) R2
        refine .inr ⟨go, fun H' => ∃ (s0 : Ss) (ks : List Int), Rel K Γ (L2.wipe σ vs) H' (s0.wipe vs) ((p.nob.shs pv px).own (.ref D) (.set ks)) ∧ (match compS t mt me vs (ds.drop (i + 1)) ks (s0.wipe vs) with
          | .ok ks st' => ∀ v H', Rel K Γ σ H' st' (p.nob.own v (.set ks)) → Q v H'
          | _ => False), fun H' ⟨s3, acc3, R3, h3⟩ => ⟨_, by omega, rfl, c, s3, acc3, R3, h3⟩, fun x H' y => ?_⟩
        refine ⟨_, _, ds[i], s2, yl x H' y, et, fun σ2 H2 w1 R3 => ⟨?_, s2, _, R3, ?_⟩⟩
        · have w2 := wipe_sub w1 hns
          have w3 : L2.wipe (L2.wipe σ vs) vs = L2.wipe σ vs := wipe_wipe
          exact w2.trans w3
        have back : ∀ {H : Hp} {st : Ss} {q : Pd}, Rel K Γ σ2 H st q → Rel K Γ (L2.wipe σ vs) H (st.wipe vs) q := fun z => by
          have z1 := z.wipe vs
          have w2 := wipe_sub w1 hns
          have w3 : L2.wipe (L2.wipe σ vs) vs = L2.wipe σ vs := wipe_wipe
          rw [w2.trans w3] at z1
          exact z1
        cases em : mt s2 with
        | bad => simp only [em] at h2
        | err _ _ => simp only [em] at h2
        | ok b s3 =>
          intro H3 R4
          cases b with
          | false =>
            simp only [em] at h2
            rw [if_neg Bool.false_ne_true]
            exact ⟨s3, ks, back R4, h2⟩
          | true =>
            simp only [em] at h2
            rw [if_pos rfl]
            refine ⟨s3, _, R4, ?_⟩
            cases ee : me s3 with
            | bad => simp only [ee] at h2
            | err _ _ => simp only [ee] at h2
            | ok d s4 =>
              intro y H4 R5
              cases d with
              | int k =>
                simp only [ee] at h2
                by_cases cz : ks.length < 1000
                · simp only [cz, if_true] at h2
                  obtain ⟨S, n, rfl, e1, e2, R6⟩ := Rel.addS (p := p.nob.shs pv px) R5
                  exact ⟨k, S, n, rfl, e1, by rw [e2]; show _ < 4096; omega, s4, addK ks k, back R6, h2⟩
                · simp only [cz, if_false] at h2
              | _ => simp only [ee] at h2
    · have e : i = ds.length := by omega
      subst e
      rw [List.drop_length] at h2
      refine .inl ⟨J1.2 _ H _ _ _ R2, ?_⟩
      have R3 := R2.unwipe
      exact h2 (.ref D) H (Rel.dropL (p := p.nob.own (.ref D) (.set ks)) hl R3)
theorem s_scO {elt tg iter : Expr} {ifs : List Expr} {scope : Scope} {own : List (Str × Nat)} {mi : M (List AV)} {ns : List Nat} {t : Tg} {mt : M Bool} {me : M AV} (hc : X.calm = true) (hN : X.N.Nodup) (hi : PI X tg iter (rdI X.K Γ W mi)) (ok : BlkOk X.N X.env.scope scope own)
    (hg : ∀ (s : Shared) (H : Hp) (C : Addr) (cl : List (Str × Addr)) (fp : List Addr), PG (X.blk s H scope (compEnvC scope cl C X.env) fp) tg (rdG X.K Γ ns t)) (ht : ∀ (s : Shared) (H : Hp) (C : Addr) (cl : List (Str × Addr)) (fp : List Addr), PTs (X.blk s H scope (compEnvC scope cl C X.env) fp) ifs (rdT X.K Γ noX mt))
    (he : ∀ (s : Shared) (H : Hp) (C : Addr) (cl : List (Str × Addr)) (fp : List Addr), PE (X.blk s H scope (compEnvC scope cl C X.env) fp) elt (rdE X.K Γ noX me)) (hns : ∀ i ∈ ns, i ∈ own.map (·.2) := by decide) (hs : ∀ x, foldedSetIterable iter X.env x = pure x := by intro _; rfl) :
    PE X (.SetComp elt [⟨tg, iter, ifs, 0⟩] scope pos) (rdO X.K Γ W (eSc mi t mt me (own.map (·.2)))) :=
  pe_imp (pe_scI hc hN hi ok hg ht he hs) fun σ H Q h => sc_in hns h
theorem s_lenS {e : Expr} {m : M AV} (hg : Gl X "len") (hm : X.mg "len" = none) (he : PE X e (rdO X.K Γ W m)) (hs : starEach [e] X.env = (false, eval e X.env) :: starEach [] X.env := by rfl) (hpl : (backTo pos (starEach [] X.env)).any (·.1) = false := by rfl) :
    PE X (.Call (.Name "len" q) [e] [] pos) (rdE X.K Γ W (eLenS m)) := by
  refine pe_imp (pe_callB call_lenS hg hm (by decide +kernel) (pa_cons he pa_nil hs) (by decide) (by decide) hs hpl) fun σ H Q h => ?_
  obtain ⟨st, p, R, h⟩ := h
  refine ⟨st, p, R, ?_⟩
  unfold eLenS at h
  cases ea : m st with
  | bad => rw [ea] at h; exact h
  | err c s1 => rw [ea] at h; exact h
  | ok d s1 =>
    rw [ea] at h
    simp only [Res.bind_ok] at h
    intro v H1 R1
    cases d with
    | set ks =>
      by_cases c : ks.length < 1000
      · simp only [c, if_true] at h
        obtain ⟨m1, ar, am, ao, ab, R2⟩ := R1
        obtain ⟨cs, ao', eo, rd, ro'⟩ := R2.ro.head
        cases rd with
        | @set a S n _ _ _ as0 hs1 e1 r0 =>
          obtain ⟨_, rfl⟩ := r0.nil_inv
          refine ⟨a, S, n, rfl, hs1, by rw [e1.len]; omega, ?_⟩
          rw [e1.len]
          have nd := R2.nd
          have fr := R2.fr
          have t : Tr H1 H1 (wOf Γ ar am ao) (wOf Γ ar am ao') m1 m1 [] := Tr.same fun c z => by
            simp only [wOf, eo, List.mem_append, List.mem_cons] at z ⊢
            grind
          refine h _ _ (Rel.int (p := p.nob) ⟨m1, ar, am, ao', ab, t.rs R2.rs (fun _ _ z => nomatch z), t.rp R2.rm (fun _ _ z => nomatch z), t.rp0 R2.ri, t.rp ro' (fun _ _ z => nomatch z), t.rp R2.rb (fun _ _ z => nomatch z), ?_, ?_, R2.kp, R2.pm, R2.gu, R2.tb⟩ _)
          · simp only [wOf, eo, List.nodup_append, List.nodup_cons, List.mem_append, List.mem_cons] at nd ⊢
            grind
          · intro a ha
            have h1 := fr a
            simp only [eo, List.mem_append, List.mem_cons] at h1 ha
            grind
      · simp only [c, if_false] at h
    | _ => exact h.elim
end
end Fk
/-! ## twins: list(d.items()), rows copied, several attributes at once -/
namespace Fk
open PySem PySem.Spec PyProof.Rows L2 LiI
section
variable {X : Cx} {Γ : Gam} {W : WX} {σ : L2.St} {H H' : Hp} {st : Ss} {p : Pd} {K : PySem.W.Frag} {pos apos cpos q q1 q2 q3 q4 q5 : Pos} {o e : Expr} {C f : Str} {fs : List Str}
theorem Rl.ext {m ar am ao ab : List Addr} (R : Rl K Γ σ H st p m ar am ao ab) (x : ∀ b o, H b = some o → H' b = some o) : Rl K Γ σ H' st p m ar am ao ab := by
  have t : Tr H H' (wOf Γ ar am ao) (wOf Γ ar am ao) m m [] := ⟨⟨fun b o e _ _ => x b o e, fun _ z => nomatch z⟩, (fun _ z => nomatch z), (fun _ _ n => n), (fun _ _ e => e)⟩
  refine ⟨t.rs R.rs (fun _ _ z => nomatch z), t.rp R.rm (fun _ _ z => nomatch z), t.rp0 R.ri, t.rp R.ro (fun _ _ z => nomatch z), t.rp R.rb (fun _ _ z => nomatch z), R.nd, R.fr, fun a u e n => ?_, R.pm, R.gu, ⟨R.tb.t.ext x⟩⟩
  obtain ⟨o', e', f⟩ := R.kp a u e n
  exact ⟨o', x _ _ e', f⟩
/-! ### list(d.items()) -/
def kA : Key → AV
  | .inl i => .int i
  | .inr x => .str x
/-! ### [list(row) for row in e.f] -/
def rowOk : AV → Bool
  | .lst true ys => ys.all atomA
  | _ => false
def eCpN (C f : Str) (mo : Ss → Option AV) : M AV := fun st => match pFld C f mo st with
  | some (.nst xs) => bif xs.all rowOk && decide (xs.length < 16777216) then .ok (.nst xs) st else .bad
  | _ => .bad
def sAt2 (C f g : Str) (mo mq : Ss → Option AV) (ma mb : M AV) : M Fl := fun st => (ma st).bind fun x s1 => (mb s1).bind fun y s2 => match (mo s2).bind fun z => putFld C f z x s2 with
  | some s3 => (match (mq s3).bind fun z => putFld C g z y s3 with
    | some s4 => .ok .nx s4
    | none => .bad)
  | none => .bad
def sAt3 (C f g k : Str) (mo mq mr : Ss → Option AV) (ma mb mc : M AV) : M Fl := fun st => (ma st).bind fun x s1 => (mb s1).bind fun y s2 => (mc s2).bind fun w s3 => match (mo s3).bind fun z => putFld C f z x s3 with
  | some s4 => (match (mq s4).bind fun z => putFld C g z y s4 with
    | some s5 => (match (mr s5).bind fun z => putFld C k z w s5 with
      | some s6 => .ok .nx s6
      | none => .bad)
    | none => .bad)
  | none => .bad
end
end Fk
/-! ## tuples that were made by tuple(..): they have no dict; t.index(x) -/
namespace Fk
open PySem PySem.Spec PyProof.Rows L2
def eIxD (mo me : M AV) : M AV := fun st => (mo st).bind fun x s1 => match x with
  | .tud xs => (me s1).bind fun y s2 => if okA (.tup xs) && okA y then ofO (((dats xs).findIdx? fun w => PyData.eqv w (dat y)).map fun j => AV.int (j : Nat)) s2 else .bad
  | _ => .bad
section
variable {X : Cx} {Γ : Gam} {W : WX} {σ : L2.St} {H : Hp} {st : Ss} {p : Pd} {K : PySem.W.Frag} {apos cpos : Pos} {o e : Expr} {mo me m : M AV}
end
end Fk
/-! ## list(range(n)) -/
namespace Fk
open PySem PySem.Spec PyProof.Rows L2
def fRgL : AV → Option AV
  | .int n => if 0 ≤ n ∧ n ≤ 1000 then some (.lst true (rngL 0 n)) else none
  | _ => none
section
variable {X : Cx} {Γ : Gam} {W : WX} {pos q q2 pos2 : Pos} {e : Expr} {m : M AV}
theorem rp_rg {K : PySem.W.Frag} {H : Hp} {W m : List Addr} : ∀ l : List Nat, Rp K H W m (l.map fun i => V.int ((0 : Int) + (i : Nat))) (l.map fun i => AV.int ((0 : Int) + (i : Nat))) []
  | [] => .nil
  | _ :: l => .int (rp_rg l)
theorem s_lrgO (hc : X.calm = true) (hg : Gl X "list") (hm : X.mg "list" = none) (hg2 : Gl X "range") (hm2 : X.mg "range" = none) (he : PE X e (rdE X.K Γ W m)) (na : starEach [e] X.env = (false, eval e X.env) :: starEach [] X.env := by rfl)
    (nb : starEach [.Call (.Name "range" q2) [e] [] pos2] X.env = (false, eval (.Call (.Name "range" q2) [e] [] pos2) X.env) :: starEach [] X.env := by rfl) :
    PE X (.Call (.Name "list" q) [.Call (.Name "range" q2) [e] [] pos2] [] pos) (rdO X.K Γ W (e1 fRgL m)) := by
  refine pe_imp (pe_listRg hc hg hm (prg_1 hg2 hm2 he na) nb) fun σ H Q h => ?_
  obtain ⟨st, p, R, h⟩ := h
  refine ⟨st, p, R, ?_⟩
  unfold e1 at h
  cases ea : m st with
  | bad => rw [ea] at h; exact h
  | err c s1 => rw [ea] at h; exact h
  | ok x s1 =>
    rw [ea] at h
    simp only [Res.bind_ok] at h
    intro v H1 R1
    cases x with
    | int n =>
      by_cases c : 0 ≤ n ∧ n ≤ 1000
      · simp only [fRgL, if_pos c, ofO_some] at h
        obtain ⟨m1, ar, am, ao, ab, R2, r⟩ := R1.one
        obtain rfl := r.int_i
        refine ⟨n, rfl, ⟨by omega, by omega, by omega, by omega, by omega⟩, fun l hl => h _ _ (R2.newO hl fun {H' W'} t h1 => ?_).rel⟩
        exact .lsO h1 (rp_rg _) .nil
      · simp only [fRgL, if_neg c, ofO_none] at h
    | _ => simp only [fRgL, ofO_none] at h
end
end Fk
/-! ## text or text -/
namespace Fk
open PySem PySem.Spec PyProof.Rows L2
def strB : AV → Option Bool
  | .str y => if y.length ≤ 1000 then some ((y.length : Int) != 0) else none
  | _ => none
def eOrS (a b : M AV) : M AV := fun st => (a st).bind fun x s1 => (ofO (strB x) s1).bind fun c s2 => bif c then .ok x s2 else b s2
section
variable {X : Cx} {Γ : Gam} {W : WX} {pos : Pos} {a b : Expr} {rest : List Expr} {ma mb : M AV}
theorem s_vorS (h : PE X a (rdE X.K Γ W ma)) (h2 : PE X (.BoolOp .Or (b :: rest) pos) (rdE X.K Γ W mb)) : PE X (.BoolOp .Or (a :: b :: rest) pos) (rdE X.K Γ W (eOrS ma mb)) := by
  refine pe_imp (L2.pe_orT h h2) fun σ H Q h => ?_
  obtain ⟨st, p, R, h⟩ := h
  refine ⟨st, p, R, ?_⟩
  unfold eOrS at h
  cases ea : ma st with
  | bad => rw [ea] at h; exact h
  | err c s1 => rw [ea] at h; exact h
  | ok x s1 =>
    rw [ea] at h
    simp only [Res.bind_ok] at h
    intro v H1 R1
    cases x with
    | str y =>
      by_cases hl : y.length ≤ 1000
      · simp only [strB, if_pos hl, ofO_some, Res.bind_ok] at h
        obtain ⟨m, ar, am, ao, ab, R2, r⟩ := R1.one
        obtain rfl := r.str_i
        refine ⟨_, ⟨Nat.le_trans hl (by rw [sizeLine_eq]; decide), rfl⟩, ?_⟩
        cases hc : ((y.length : Int) != 0) with
        | true => rw [hc] at h; rw [if_pos rfl]; exact h _ _ R1
        | false => rw [hc] at h; rw [if_neg Bool.false_ne_true]; exact ⟨s1, p.nob, R2.rel, h⟩
      · simp only [strB, if_neg hl, ofO_none, Res.bind_bad] at h
    | _ => simp only [strB, ofO_none, Res.bind_bad] at h
end
end Fk
/-! ## d.update(d2) -/
namespace Fk
open PySem PySem.Spec PyProof.Rows L2
def mrgKA (t : List Key × List AV) : List Key → List AV → List Key × List AV
  | k :: ks, x :: xs => mrgKA (putKA t.1 t.2 k x) ks xs
  | _, _ => t
section
variable {X : Cx} {pins : List (Addr × Obj)} {σ : L2.St} {H : Hp} {s : Shared} {a b : Addr} {A : Around} {E : Value → Shared → Prop}
end
section
variable {X : Cx} {o e : Expr} {td ty : TE} {apos cpos : Pos}
end
end Fk
namespace Fk
open PySem PySem.Spec PyProof.Rows L2
def dctI : AV → Option (List Key × List AV)
  | .dct false ks xs => some (ks, xs)
  | _ => none
def eUpdD (i : Nat) (m : M AV) : M AV := fun st => match ownD (getSl st.r i) with
  | none => .bad
  | some _ => (m st).bind fun d s1 => match ownD (getSl s1.r i), dctI d with
    | some (ks, xs), some (ks2, xs2) => if ks.length + ks2.length ≤ 16777216 then .ok .non (putD i (mrgKA (ks, xs) ks2 xs2).1 (mrgKA (ks, xs) ks2 xs2).2 s1) else .bad
    | _, _ => .bad
@[simp] theorem k_eUpdD (i : Nat) (m : M AV) (r0 : List Sl) (s0 : List AV) : eUpdD i m (Ss.mk r0 s0) = match ownD (getSl r0 i) with
  | none => .bad
  | some _ => (m (Ss.mk r0 s0)).bind fun d s1 => match ownD (getSl s1.r i), dctI d with
    | some (ks, xs), some (ks2, xs2) => if ks.length + ks2.length ≤ 16777216 then .ok .non (putD i (mrgKA (ks, xs) ks2 xs2).1 (mrgKA (ks, xs) ks2 xs2).2 s1) else .bad
    | _, _ => .bad := id rfl
section
variable {X : Cx} {Γ : Gam} {W : WX} {σ : L2.St} {H : Hp} {st : Ss} {p : Pd} {K : PySem.W.Frag} {apos cpos q : Pos} {ev : Expr} {x : Str} {i : Nat} {mv : M AV}
end
end Fk
/-! ## {k: v} of two ints -/
namespace Fk
open PySem PySem.Spec PyProof.Rows L2
section
variable {X : Cx} {Γ : Gam} {W : WX} {pos : Pos}
def eD1 (k v : Int) : M AV := fun st => .ok (.dct true [.inl k] [.int v]) st
@[simp] theorem k_eD1 (k v : Int) (r0 : List Sl) (s0 : List AV) : eD1 k v (Ss.mk r0 s0) = .ok (.dct true [.inl k] [.int v]) (Ss.mk r0 s0) := id rfl
end
end Fk
/-! ## {k: v, ..} with written keys -/
namespace Fk
open PySem PySem.Spec PyProof.Rows L2
section
variable {X : Cx} {Γ : Gam} {W : WX} {σ : L2.St} {H : Hp} {st : Ss} {p : Pd} {K : PySem.W.Frag} {pos : Pos}
def eDsp (ks : List Key) (a : M (List AV)) : M AV := fun st => (a st).bind fun xs s1 => if xs.length = ks.length then .ok (.dct true ks xs) s1 else .bad
@[simp] theorem k_eDsp (ks : List Key) (a : M (List AV)) (r0 : List Sl) (s0 : List AV) : eDsp ks a (Ss.mk r0 s0) = (a (Ss.mk r0 s0)).bind fun xs s1 => if xs.length = ks.length then .ok (.dct true ks xs) s1 else .bad := id rfl
end
end Fk
/-! ## o.f.append(x); {k: v for ..} -/
namespace Fk
open PySem PySem.Spec PyProof.Rows L2
def ownLst : AV → Option (List AV)
  | .lst true xs => some xs
  | _ => none
theorem ownLst_eq {z : AV} {xs : List AV} (h : ownLst z = some xs) : z = .lst true xs := by
  unfold ownLst at h
  split at h
  · cases h; rfl
  · cases h
def eAppP (fo : Option (Str × Str)) (mo me : Ss → Option AV) : M AV := fun st => match (mo st).bind locOf with
  | none => .bad
  | some l => match me st, (getPl st.s l fo).bind ownLst with
    | some d, some xs => if imm d = true ∧ xs.length < 16777216 then .ok .non ⟨st.r, setPl st.s l fo (.lst true (xs ++ [d]))⟩ else .bad
    | _, _ => .bad
@[simp] theorem k_eAppP (fo : Option (Str × Str)) (mo me : Ss → Option AV) (r0 : List Sl) (s0 : List AV) : eAppP fo mo me (Ss.mk r0 s0) = match (mo (Ss.mk r0 s0)).bind locOf with
  | none => .bad
  | some l => match me (Ss.mk r0 s0), (getPl s0 l fo).bind ownLst with
    | some d, some xs => if imm d = true ∧ xs.length < 16777216 then .ok .non ⟨r0, setPl s0 l fo (.lst true (xs ++ [d]))⟩ else .bad
    | _, _ => .bad := id rfl
section
variable {X : Cx} {Γ : Gam} {W : WX} {σ : L2.St} {H : Hp} {st : Ss} {p : Pd} {K : PySem.W.Frag} {apos cpos : Pos} {o e : Expr} {mo me : Ss → Option AV} {fo : Option (Str × Str)}
end
/-! ### dict comprehensions -/
def compD (t : Tg) (tt : M Bool) (tk tv : M AV) (vs : List Nat) : List AV → List Key → List AV → Ss → Res (List Key × List AV) Ss
  | [], ks, xs, st => .ok (ks, xs) st
  | d :: ds, ks, xs, st => match t d st with
    | none => .bad
    | some s0 => match tt s0 with
      | .ok false s1 => compD t tt tk tv vs ds ks xs (s1.wipe vs)
      | .ok true s1 => match tk s1 with
        | .ok y s2 => match tv s2 with
          | .ok z s3 => match keyA y with
            | some k => if ks.length < 16777216 then compD t tt tk tv vs ds (putKA ks xs k z).1 (putKA ks xs k z).2 (s3.wipe vs) else .bad
            | none => .bad
          | _ => .bad
        | _ => .bad
      | _ => .bad
def eDc (mi : M (List AV)) (t : Tg) (tt : M Bool) (tk tv : M AV) (vs : List Nat) : M AV := fun st => (mi st).bind fun ds s1 => (compD t tt tk tv vs ds [] [] (s1.wipe vs)).bind fun a s2 => .ok (.dct true a.1 a.2) s2
@[simp] theorem k_eDc (mi : M (List AV)) (t : Tg) (tt : M Bool) (tk tv : M AV) (vs : List Nat) (r0 : List Sl) (s0 : List AV) : eDc mi t tt tk tv vs (Ss.mk r0 s0) = (mi (Ss.mk r0 s0)).bind fun ds s1 => (compD t tt tk tv vs ds [] [] (s1.wipe vs)).bind fun a s2 => .ok (.dct true a.1 a.2) s2 := id rfl
section
variable {X : Cx} {Γ : Gam} {W : WX} {σ : L2.St} {H : Hp} {st : Ss} {p : Pd} {K : PySem.W.Frag} {pos : Pos}
end
end Fk
/-! ## [n for n, t in enumerate(o.f) if t is None], [C if t is None else t for t in o.f] -/
namespace Fk
open PySem PySem.Spec PyProof.Rows L2
def nonAt (n : Nat) : List AV → List AV
  | [] => []
  | x :: xs => if isN x = true then .int n :: nonAt (n + 1) xs else nonAt (n + 1) xs
def eWtF (C f : Str) (mo : Ss → Option AV) : M AV := fun st => match (pFld C f mo st).bind ownLst with
  | some xs => if xs.length < 16777216 then .ok (.lst false (nonAt 0 xs)) st else .bad
  | none => .bad
@[simp] theorem k_eWtF (C f : Str) (mo : Ss → Option AV) (r0 : List Sl) (s0 : List AV) : eWtF C f mo (Ss.mk r0 s0) = match (pFld C f mo (Ss.mk r0 s0)).bind ownLst with
  | some xs => if xs.length < 16777216 then .ok (.lst false (nonAt 0 xs)) (Ss.mk r0 s0) else .bad
  | none => .bad := id rfl
def eGnF (C f : Str) (mo : Ss → Option AV) (g : AV) : M AV := fun st => match (pFld C f mo st).bind ownLst with
  | some xs => if xs.length < 16777216 then .ok (.lst true (xs.map fun x => if isN x = true then g else x)) st else .bad
  | none => .bad
@[simp] theorem k_eGnF (C f : Str) (mo : Ss → Option AV) (g : AV) (r0 : List Sl) (s0 : List AV) : eGnF C f mo g (Ss.mk r0 s0) = match (pFld C f mo (Ss.mk r0 s0)).bind ownLst with
  | some xs => if xs.length < 16777216 then .ok (.lst true (xs.map fun x => if isN x = true then g else x)) (Ss.mk r0 s0) else .bad
  | none => .bad := id rfl
section
variable {X : Cx} {Γ : Gam} {W : WX} {σ : L2.St} {H : Hp} {st : Ss} {p : Pd} {K : PySem.W.Frag} {pos q1 q2 q4 q5 q6 q7 q8 q9 q10 tpos : Pos} {o : Expr} {C f : Str} {fs : List Str}
end
end Fk
/-! ## [(k, d[k]) for k in d], the dict one's own -/
namespace Fk
open PySem PySem.Spec PyProof.Rows L2
def wkT (ks : List Key) (xs : List AV) (l : List Key) : List AV := l.map fun k => .tup [kA k, (getK ks xs k).getD .non]
def wkOk (ks : List Key) (xs : List AV) : Bool := ks.all fun k => (getK ks xs k).isSome
def eWkD (i : Nat) : M AV := fun st => match ownD (getSl st.r i) with
  | some (ks, xs) => if ks.length < 16777216 ∧ wkOk ks xs = true then .ok (.lst false (wkT ks xs ks)) st else .bad
  | none => .bad
@[simp] theorem k_eWkD (i : Nat) (r0 : List Sl) (s0 : List AV) : eWkD i (Ss.mk r0 s0) = match ownD (getSl r0 i) with
  | some (ks, xs) => if ks.length < 16777216 ∧ wkOk ks xs = true then .ok (.lst false (wkT ks xs ks)) (Ss.mk r0 s0) else .bad
  | none => .bad := id rfl
section
variable {X : Cx} {Γ : Gam} {W : WX} {σ : L2.St} {H : Hp} {st : Ss} {p : Pd} {K : PySem.W.Frag} {pos q1 q2 q3 q4 q5 q6 sp tp : Pos}
end
end Fk
/-! ## for x in a list of the store -/
namespace Fk
open PySem PySem.Spec PyProof.Rows L2
def lstAt (s : List AV) (l : Nat) : Option (List AV) := (getPl s l none).bind ownLst
def forLM (l : Nat) (t : Tg) (body : M Fl) : Nat → Nat → M Fl
  | 0, i, st => match lstAt st.s l with
    | some zs => if zs.length ≤ i then .ok .nx st else .bad
    | none => .bad
  | n + 1, i, st => match lstAt st.s l with
    | none => .bad
    | some zs => match zs[i]? with
      | none => .ok .nx st
      | some d => match t d st with
        | none => .bad
        | some s0 => match body s0 with
          | .ok .nx s1 => forLM l t body n (i + 1) s1
          | .ok .ct s1 => forLM l t body n (i + 1) s1
          | .ok .bk s1 => .ok .nx s1
          | .ok (.rt d) s1 => .ok (.rt d) s1
          | .err c s1 => .err c s1
          | .bad => .bad
def sForL (m : M AV) (t : Tg) (body : M Fl) : M Fl := fun st => (m st).bind fun x s1 => match locOf x with
  | some l => match lstAt s1.s l with
    | some zs => forLM l t body zs.length 0 s1
    | none => .bad
  | none => .bad
@[simp] theorem k_sForL (m : M AV) (t : Tg) (body : M Fl) (r0 : List Sl) (s0 : List AV) : sForL m t body (Ss.mk r0 s0) = (m (Ss.mk r0 s0)).bind fun x s1 => match locOf x with
  | some l => match lstAt s1.s l with
    | some zs => forLM l t body zs.length 0 s1
    | none => .bad
  | none => .bad := id rfl
section
variable {X : Cx} {Γ : Gam} {W : WX} {σ : L2.St} {H : Hp} {st : Ss} {p : Pd} {K : PySem.W.Frag} {pos : Pos}
theorem Rl.lstAt {m ar am ao ab : List Addr} {a : Addr} {l : Nat} {zs : List AV} (R : Rl K Γ σ H st p m ar am ao ab) (em : m[l]? = some a) (e : Fk.lstAt st.s l = some zs) : ∃ us, H a = some (.lst us) ∧ Rp K H (wOf Γ ar am ao) m us zs [] := by
  obtain ⟨z, e1, e2⟩ := Option.bind_eq_some_iff.mp e
  have e3 := ownLst_eq e2
  subst e3
  obtain ⟨q', bb, hat', rz, _⟩ := R.place (cs := []) (ao' := ao) e1 rfl R.ro rfl
  have e4 : m[l]? = some q' := hat'
  rw [em] at e4
  cases e4
  obtain ⟨q2, us, eq2, _, hs2, qq⟩ := rz.lsO_i
  cases eq2
  exact ⟨us, hs2, qq⟩
end
end Fk
/-! ## x.upper() -/
namespace Fk
open PySem PySem.Spec PyProof.Rows L2
def upA : AV → Option AV
  | .str z => if z.length ≤ 5592405 then some (.str (Txt.upper z)) else none
  | _ => none
def eUpp (m : M AV) : M AV := fun st => (m st).bind fun x s1 => ofO (upA x) s1
@[simp] theorem k_eUpp (m : M AV) (r0 : List Sl) (s0 : List AV) : eUpp m (Ss.mk r0 s0) = (m (Ss.mk r0 s0)).bind fun x s1 => ofO (upA x) s1 := id rfl
section
variable {X : Cx} {Γ : Gam} {W : WX} {apos pos : Pos} {o : Expr}
end
end Fk
/-! ## a, b, c = x, y, z where a name is seen by a comprehension; x.remove(y) of ints -/
namespace Fk
open PySem PySem.Spec PyProof.Rows L2
def intsO : List AV → Option (List Int)
  | [] => some []
  | x :: xs => (asI x).bind fun i => (intsO xs).map fun is => i :: is
def remA (xs : List AV) (d : AV) : Option (AV × List AV) := (asI d).bind fun k => (intsO xs).bind fun ns => (ns.findIdx? fun n => decide (n = k)).map fun j => (.non, (ns.eraseIdx j).map .int)
def eRem (i : Nat) (m : M AV) : M AV := fun st => match ownL (getSl st.r i) with
  | none => .bad
  | some _ => (m st).bind fun d s1 => match ownL (getSl s1.r i) with
    | none => .bad
    | some xs => match remA xs d with
      | some (y, ys) => .ok y (putL i ys s1)
      | none => .bad
@[simp] theorem k_eRem (i : Nat) (m : M AV) (r0 : List Sl) (s0 : List AV) : eRem i m (Ss.mk r0 s0) = match ownL (getSl r0 i) with
  | none => .bad
  | some _ => (m (Ss.mk r0 s0)).bind fun d s1 => match ownL (getSl s1.r i) with
    | none => .bad
    | some xs => match remA xs d with
      | some (y, ys) => .ok y (putL i ys s1)
      | none => .bad := id rfl
section
variable {X : Cx} {Γ : Gam} {W : WX} {σ : L2.St} {H : Hp} {st : Ss} {p : Pd} {K : PySem.W.Frag} {pos apos cpos : Pos} {e : Expr} {x : Str} {i : Nat}
end
end Fk
/-! ## x[i], n = a, b -/
namespace Fk
open PySem PySem.Spec PyProof.Rows L2
section
variable {X : Cx} {Γ : Gam} {W : WX} {pos : Pos}
end
end Fk
/-! ## texts: split, partition, join, startswith, str, int, f-strings, signs of a text -/
namespace Fk
open PySem PySem.Spec PyProof.Rows L2
def isStrA : AV → Bool
  | .str _ => true
  | _ => false
/-- a text's method of one argument -/
def eM1 (f : AV → AV → Option AV) (a b : M AV) : M AV := fun st => (a st).bind fun x s1 => bif isStrA x then (b s1).bind fun y s2 => ofO (f x y) s2 else .bad
@[simp] theorem k_eM1 (f : AV → AV → Option AV) (a b : M AV) (r0 : List Sl) (s0 : List AV) : eM1 f a b (Ss.mk r0 s0) = (a (Ss.mk r0 s0)).bind fun x s1 => bif isStrA x then (b s1).bind fun y s2 => ofO (f x y) s2 else .bad := id rfl
@[simp] theorem isStrA_s (z : Str) : isStrA (.str z) = true := id rfl
def spA (x y : AV) : Option AV := match x, y with
  | .str a, .str b => if (b.length == 0) = false ∧ a.length ≤ 16777214 then some (.lst false ((Txt.split a b).map .str)) else none
  | _, _ => none
def ptA (x y : AV) : Option AV := match x, y with
  | .str a, .str b => if (b.length == 0) = false ∧ a.length ≤ 16777216 then some (.tup [.str (Txt.partition a b).1, .str (Txt.partition a b).2.1, .str (Txt.partition a b).2.2]) else none
  | _, _ => none
def swA (x y : AV) : Option AV := match x, y with
  | .str a, .str b => some (.bl (Txt.startswith a b))
  | _, _ => none
def asSs : List AV → Option (List Str)
  | [] => some []
  | .str b :: xs => (asSs xs).map (b :: ·)
  | _ :: _ => none
def jnA (x y : AV) : Option AV := match x with
  | .str a => (seqA y).bind fun ys => (asSs ys).bind fun zs => if (zs.map (·.length)).sum + zs.length * a.length ≤ 16777216 then some (.str (Txt.join a zs)) else none
  | _ => none
section
variable {K : PySem.W.Frag} {H : Hp} {W m as : List Addr} {v : V} {vs : List V} {xs : List AV} {x y : AV}
theorem asSs_v : ∀ {xs : List AV} {bs : List Str} {us : List V} {as : List Addr}, Rp K H W m us xs as → asSs xs = some bs → us = bs.map V.str
  | [], bs, us, as, r, e => by cases e; exact r.nil_inv.1
  | x :: xs, bs, us, as, r, e => by
    cases x with
    | str b =>
      obtain ⟨cs, ec, rfl⟩ := Option.map_eq_some_iff.mp (show (asSs xs).map (b :: ·) = some bs from e)
      cases us with
      | nil => cases r.nil_inv'.1
      | cons u us =>
        obtain ⟨a1, a2, _, r1, r2⟩ := r.head
        rw [r1.str_i, asSs_v r2 ec]
        rfl
    | _ => cases e
theorem strs_rp : ∀ (ns : List Str), Rp K H W m (ns.map V.str) (ns.map .str) []
  | [] => .nil
  | n :: ns => .str (strs_rp ns)
end
section
variable {X : Cx} {Γ : Gam} {W : WX} {σ : L2.St} {H : Hp} {st : Ss} {p : Pd} {K : PySem.W.Frag} {pos apos : Pos} {o e : Expr}
theorem m1_in {ma mb : M AV} {Q : VK} {f : AV → AV → Option AV} {r : V → List V → Hp → VK → Prop} (ho : Op2 K (fun x y H Q => r x [y] H Q) f) (h : rdE K Γ W (eM1 f ma mb) σ H Q) : tM1 r (rdE K Γ W ma) (rdE K Γ W mb) σ H Q := by
  obtain ⟨st, p, R, h⟩ := h
  refine ⟨st, p, R, ?_⟩
  unfold eM1 at h
  cases ea : ma st with
  | bad => rw [ea] at h; exact h
  | err c s1 => rw [ea] at h; exact h
  | ok x s1 =>
    rw [ea] at h
    simp only [Res.bind_ok] at h
    intro v1 H1 R1
    cases ex : isStrA x with
    | false => simp only [ex, cond_false] at h
    | true =>
      simp only [ex, cond_true] at h
      cases x with
      | str z =>
        obtain ⟨mm, ar, am, ao, ab, R2, r⟩ := R1.one
        obtain rfl := r.str_i
        refine ⟨⟨z, rfl⟩, s1, _, R1, ?_⟩
        cases eb : mb s1 with
        | bad => rw [eb] at h; exact h
        | err c s2 =>
          rw [eb] at h
          intro H2 R2
          exact h H2 R2.drop
        | ok y s2 =>
          rw [eb] at h
          simp only [Res.bind_ok] at h
          intro v2 H2 R2
          cases ef : f (.str z) y with
          | none => simp only [ef, ofO_none] at h
          | some d =>
            simp only [ef, ofO_some] at h
            obtain ⟨m, ar, am, ao, ab, R3, r1, r2⟩ := R2.two
            exact ho Γ σ H2 s2 _ m ar am ao ab _ v2 _ y d _ _ Q R3 r1 r2 ef h
      | _ => cases ex
theorem s_split {ma mb : M AV} (ha : PE X o (rdE X.K Γ W ma)) (hb : PE X e (rdE X.K Γ W mb)) (hs : starEach [e] X.env = [(false, eval e X.env)] := by rfl) (hbase : attributeBase o "split" X.env (eval o X.env) = eval o X.env := by rfl) (hline : (apos.endLine == pos.line) = true := by rfl) :
    PE X (.Call (.Attribute o "split" apos) [e] [] pos) (rdE X.K Γ W (eM1 spA ma mb)) := by
  refine pe_imp (pe_split ha hb hs hbase hline) fun σ H Q h => m1_in ?_ h
  intro Γ σ H st p m ar am ao ab v1 v2 x y d a1 a2 Q R r1 r2 ef hq
  unfold spA at ef
  split at ef
  · rename_i a b
    split at ef
    · rename_i c
      cases ef
      exact ⟨a, b, r1.str_i, by rw [r2.str_i], c.1, by have := c.2; have e := sizeLine_eq; omega, fun q hf => hq _ _ (R.nob.lst hf (strs_rp _)).rel⟩
    · cases ef
  · cases ef
theorem s_partition {ma mb : M AV} (ha : PE X o (rdE X.K Γ W ma)) (hb : PE X e (rdE X.K Γ W mb)) (hs : starEach [e] X.env = [(false, eval e X.env)] := by rfl) (hbase : attributeBase o "partition" X.env (eval o X.env) = eval o X.env := by rfl) (hline : (apos.endLine == pos.line) = true := by rfl) :
    PE X (.Call (.Attribute o "partition" apos) [e] [] pos) (rdE X.K Γ W (eM1 ptA ma mb)) := by
  refine pe_imp (pe_partition ha hb hs hbase hline) fun σ H Q h => m1_in ?_ h
  intro Γ σ H st p m ar am ao ab v1 v2 x y d a1 a2 Q R r1 r2 ef hq
  unfold ptA at ef
  split at ef
  · rename_i a b
    split at ef
    · rename_i c
      cases ef
      exact ⟨a, b, r1.str_i, by rw [r2.str_i], c.1, by rw [sizeLine_eq]; exact c.2, fun q hf => hq _ _ (R.nob.tup hf (.str (.str (.str .nil)))).rel⟩
    · cases ef
  · cases ef
theorem s_join {ma mb : M AV} (ha : PE X o (rdE X.K Γ W ma)) (hb : PE X e (rdE X.K Γ W mb)) (hs : starEach [e] X.env = [(false, eval e X.env)] := by rfl) (hbase : attributeBase o "join" X.env (eval o X.env) = eval o X.env := by rfl) (hline : (apos.endLine == pos.line) = true := by rfl) :
    PE X (.Call (.Attribute o "join" apos) [e] [] pos) (rdE X.K Γ W (eM1 jnA ma mb)) := by
  refine pe_imp (pe_join ha hb hs hbase hline) fun σ H Q h => m1_in ?_ h
  intro Γ σ H st p m ar am ao ab v1 v2 x y d a1 a2 Q R r1 r2 ef hq
  unfold jnA at ef
  split at ef
  · rename_i a
    obtain ⟨ys, e1, ef⟩ := Option.bind_eq_some_iff.mp ef
    obtain ⟨zs, e2, ef⟩ := Option.bind_eq_some_iff.mp ef
    split at ef
    · rename_i c
      cases ef
      obtain ⟨q, us, b, rfl, hs, q1⟩ := seqA_v r2 e1
      obtain rfl := asSs_v q1 e2
      exact ⟨a, q, zs, r1.str_i, rfl, hs, c, hq _ _ (R.nob.rel.str _)⟩
    · cases ef
  · cases ef
theorem s_startsw {ma mb : M AV} (ha : PE X o (rdE X.K Γ W ma)) (hb : PE X e (rdE X.K Γ W mb)) (hs : starEach [e] X.env = [(false, eval e X.env)] := by rfl) (hbase : attributeBase o "startswith" X.env (eval o X.env) = eval o X.env := by rfl) (hline : (apos.endLine == pos.line) = true := by rfl) :
    PE X (.Call (.Attribute o "startswith" apos) [e] [] pos) (rdE X.K Γ W (eM1 swA ma mb)) := by
  refine pe_imp (pe_m1 PySem.F.slot_str_startswith PySem.F.type_str_startswith mt_startswith ha hb hs hbase hline) fun σ H Q h => m1_in ?_ h
  intro Γ σ H st p m ar am ao ab v1 v2 x y d a1 a2 Q R r1 r2 ef hq
  unfold swA at ef
  split at ef
  · rename_i a b
    cases ef
    exact ⟨a, b, r1.str_i, by rw [r2.str_i], hq _ _ (R.nob.rel.bl _)⟩
  · cases ef
/-! str(x), int(x) -/
def lg (i : Int) : Bool := decide (i.natAbs.log2 < 1920)
def fStr (_ : List AV) : List AV → Option AV
  | [.int i] => if lg i = true then some (.str (toString i)) else none
  | [.str z] => some (.str z)
  | _ => none
def uStr : List V → Hp → VK → Prop := fun xs H Q => (∃ i, xs = [V.int i] ∧ i.natAbs.log2 < 1920 ∧ Q (.str (toString i)) H) ∨ ∃ a, xs = [V.str a] ∧ Q (.str a) H
theorem cr_str : CallR X (.type "str") uStr := CallR.or call_str_int SkE.call_str_str
theorem o_str : OpA K uStr fStr := by
  intro Γ σ H st p m ar am ao ab vs xs as d Q R r e h
  unfold fStr at e
  split at e
  · split at e
    · rename_i i c
      cases e
      obtain ⟨v, rfl, r1⟩ := r.one
      obtain rfl := r1.int_i
      exact .inl ⟨i, rfl, of_decide_eq_true c, h _ _ (R.nob.rel.str _)⟩
    · cases e
  · cases e
    obtain ⟨v, rfl, r1⟩ := r.one
    obtain rfl := r1.str_i
    exact .inr ⟨_, rfl, h _ _ (R.nob.rel.str _)⟩
  · cases e
def fIntS (S : List AV) : List AV → Option AV
  | [.str z] => if z.length ≤ 640 then (PySem.intText? z).map .int else none
  | xs => fInt S xs
def uIntS : List V → Hp → VK → Prop := fun xs H Q => uInt xs H Q ∨ ∃ a n, xs = [V.str a] ∧ PySem.intText? a = some n ∧ a.length ≤ 640 ∧ Q (.int n) H
theorem cr_intS : CallR X (.type "int") uIntS := CallR.or call_int1 call_int_str
theorem o_intS : OpA K uIntS fIntS := by
  intro Γ σ H st p m ar am ao ab vs xs as d Q R r e h
  unfold fIntS at e
  split at e
  · split at e
    · rename_i z c
      obtain ⟨n, en, rfl⟩ := Option.map_eq_some_iff.mp e
      obtain ⟨v, rfl, r1⟩ := r.one
      obtain rfl := r1.str_i
      exact .inr ⟨z, n, rfl, en, c, h _ _ (R.nob.rel.int _)⟩
    · cases e
  · exact .inl (o_int Γ σ H st p m ar am ao ab vs _ as d Q R r e h)
/-! one sign in a text -/
def rInSg (g : Bool → Bool) : R2 := fun x y H Q => ∃ (c : Nat) (z : Str), x = .str ⟨#[c]⟩ ∧ y = .str z ∧ Q (.bl (g (decide (c ∈ z.cps.toList)))) H
def uInS (K : PySem.W.Frag) : R2 := fun x y H Q => uIn K x y H Q ∨ rInSg (fun b => b) x y H Q
theorem oo_inS (hu : X.A.units + 65 < cLine) : OpR X (compareOp .In) (uInS X.K) := (oo_in hu).or op_in_sign
def sgOf (z : Str) : Option Nat := match z.cps.toList with
  | [c] => some c
  | _ => none
def inSg (x y : AV) : Option Bool := match x, y with
  | .str a, .str z => (sgOf a).map fun c => decide (c ∈ z.cps.toList)
  | _, _ => none
def isTx : AV → Bool
  | .str _ => true
  | _ => false
def oInS (x y : AV) : Option AV := bif isTx y then (inSg x y).map AV.bl else oIn x y
theorem sgOf_eq {z : Str} {c : Nat} (h : sgOf z = some c) : z = ⟨#[c]⟩ := by
  unfold sgOf at h
  split at h
  · rename_i l e
    cases h
    exact TL.ext_tl e
  · cases h
theorem inSg_sem {g : Bool → Bool} {b : Bool} {m ar am ao ab a1 a2 : List Addr} {v1 v2 : V} {x y : AV} {Q : VK} (R : Rl K Γ σ H st p m ar am ao ab) (r1 : Rp K H (wOf Γ ar am ao) m [v1] [x] a1) (r2 : Rp K H (wOf Γ ar am ao) m [v2] [y] a2) (e : inSg x y = some b)
    (h : ∀ v H', Rel K Γ σ H' st (p.nob.sh v (.bl (g b))) → Q v H') : rInSg g v1 v2 H Q := by
  unfold inSg at e
  split at e
  · obtain ⟨c, ec, rfl⟩ := Option.map_eq_some_iff.mp e
    obtain rfl := r1.str_i
    obtain rfl := r2.str_i
    exact ⟨c, _, by rw [sgOf_eq ec], rfl, h _ _ (R.nob.rel.bl _)⟩
  · cases e
theorem p_inS : Op2 K (uInS K) oInS := by
  intro Γ σ H st p m ar am ao ab v1 v2 x y d a1 a2 Q R r1 r2 e h
  unfold oInS at e
  cases c : isTx y with
  | false => rw [c] at e; exact .inl (p_in Γ σ H st p m ar am ao ab v1 v2 x y d a1 a2 Q R r1 r2 e h)
  | true =>
    rw [c] at e
    obtain ⟨b, eb, rfl⟩ := Option.map_eq_some_iff.mp e
    exact .inr (inSg_sem (g := fun b => b) R r1 r2 eb h)
/-! the signs of a text, walked -/
def sgs (z : Str) : List AV := z.cps.toList.map fun c => .str ⟨#[c]⟩
def itemsS : AV → Option (List AV)
  | .str z => some (sgs z)
  | x => itemsOf x
def iOfS (m : M AV) : M (List AV) := fun st => (m st).bind fun x s1 => ofO (itemsS x) s1
@[simp] theorem k_iOfS (m : M AV) (r0 : List Sl) (s0 : List AV) : iOfS m (Ss.mk r0 s0) = (m (Ss.mk r0 s0)).bind fun x s1 => ofO (itemsS x) s1 := id rfl
theorem s_itS {tg e : Expr} {m : M AV} (h : PE X e (rdE X.K Γ W m)) : PI X tg e (rdI X.K Γ W (iOfS m)) := by
  refine pi_imp (pi_or (s_it (W := W) h) (pi_str h)) fun σ H R q => ?_
  obtain ⟨st, p, R0, q⟩ := q
  unfold iOfS at q
  cases ea : m st with
  | bad => rw [ea] at q; exact q.elim
  | err c s1 =>
    rw [ea] at q
    refine .inl ⟨st, p, R0, ?_⟩
    unfold iOf
    rw [ea]
    exact q
  | ok d s1 =>
    rw [ea] at q
    simp only [Res.bind_ok] at q
    cases d with
    | str z =>
      refine .inr ⟨st, p, R0, ?_⟩
      rw [ea]
      intro v H1 R1
      obtain ⟨mm, ar, am, ao, ab, R2, r⟩ := R1.one
      obtain rfl := r.str_i
      refine ⟨z, rfl, q (Its z) H1 [.str z] [.str z] rfl R1 ⟨fun i d σ H st ov ox e R3 => ?_, fun σ H st ov ox R3 => ?_⟩⟩
      · unfold sgs at e
        rw [List.getElem?_map] at e
        obtain ⟨c, ec, rfl⟩ := Option.map_eq_some_iff.mp e
        have hi := (List.getElem?_eq_some_iff.mp ec).1
        rw [Array.length_toList] at hi
        refine ⟨hi, fun x H' y => ?_⟩
        obtain ⟨eh, c', e1, rfl⟩ := y
        subst eh
        rw [Array.getElem?_toList, e1] at ec
        cases ec
        exact R3.str _
      · show z.cps.size ≤ (sgs z).length
        unfold sgs
        rw [List.length_map, Array.length_toList]
        exact Nat.le_refl _
    | _ =>
      refine .inl ⟨st, p, R0, ?_⟩
      unfold iOf
      rw [ea]
      exact q
/-! f-strings -/
def fmA : AV → Option AV
  | .str y => if y.length ≤ 16777216 then some (.str y) else none
  | .int i => if lg i = true then some (.str (toString i)) else none
  | _ => none
theorem s_fmt {m : M AV} (h : PE X e (rdE X.K Γ W m)) : PE X (.FormattedValue e (-1) none pos) (rdE X.K Γ W (e1 fmA m)) := by
  refine pe_imp (pe_fmt h) fun σ H Q h => ?_
  obtain ⟨st, p, R, h⟩ := h
  refine ⟨st, p, R, ?_⟩
  unfold e1 at h
  cases ea : m st with
  | bad => rw [ea] at h; exact h
  | err c s1 => rw [ea] at h; exact h
  | ok x s1 =>
    rw [ea] at h
    simp only [Res.bind_ok] at h
    intro v H1 R1
    cases ef : fmA x with
    | none => simp only [ef, ofO_none] at h
    | some d =>
      simp only [ef, ofO_some] at h
      obtain ⟨mm, ar, am, ao, ab, R2, r⟩ := R1.one
      unfold fmA at ef
      split at ef
      · split at ef
        · rename_i c
          cases ef
          obtain rfl := r.str_i
          exact .inl ⟨_, rfl, by rw [sizeLine_eq]; exact c, h _ _ (R2.nob.rel.str _)⟩
        · cases ef
      · split at ef
        · rename_i c
          cases ef
          obtain rfl := r.int_i
          exact .inr ⟨_, rfl, of_decide_eq_true c, h _ _ (R2.nob.rel.str _)⟩
        · cases ef
      · cases ef
def eJs : List (M AV) → Str → M AV
  | [], acc => fun st => .ok (.str acc) st
  | m :: ms, acc => fun st => (m st).bind fun x s1 => match x with
    | .str y => if (acc ++ y).length ≤ 16777216 then eJs ms (acc ++ y) s1 else .bad
    | _ => .bad
inductive PJs (X : Cx) (Γ : Gam) (W : WX) : List Expr → List (M AV) → Prop where
  | nil : PJs X Γ W [] []
  | cons {e : Expr} {m : M AV} {es : List Expr} {ms : List (M AV)} (h : PE X e (rdE X.K Γ W m)) (r : PJs X Γ W es ms) : PJs X Γ W (e :: es) (m :: ms)
theorem PJs.pj {es : List Expr} {ms : List (M AV)} (h : PJs X Γ W es ms) : PJ X es (ms.map (rdE X.K Γ W)) := by
  induction h with
  | nil => exact .nil
  | cons h _ i => exact .cons h i
theorem js_in : ∀ {ms : List (M AV)} {acc : Str} {σ : L2.St} {H : Hp} {Q : VK}, rdE K Γ W (eJs ms acc) σ H Q → tJs (ms.map (rdE K Γ W)) acc σ H fun out H1 => Q (.str out) H1
  | [], acc, σ, H, Q, h => by
    obtain ⟨st, p, R, h⟩ := h
    exact h _ _ (R.nob.str _)
  | m :: ms, acc, σ, H, Q, h => by
    obtain ⟨st, p, R, h⟩ := h
    show rdE K Γ W m σ H _
    refine ⟨st, p, R, ?_⟩
    unfold eJs at h
    cases ea : m st with
    | bad => rw [ea] at h; exact h
    | err c s1 => rw [ea] at h; exact h
    | ok x s1 =>
      rw [ea] at h
      simp only [Res.bind_ok] at h
      intro v H1 R1
      cases x with
      | str y =>
        simp only at h
        by_cases c : (acc ++ y).length ≤ 16777216
        · rw [if_pos c] at h
          obtain ⟨mm, ar, am, ao, ab, R2, r⟩ := R1.one
          obtain rfl := r.str_i
          refine ⟨y, rfl, by rw [sizeLine_eq]; exact c, js_in (ms := ms) ⟨s1, _, R2.rel, h⟩⟩
        · rw [if_neg c] at h
          exact h.elim
      | _ => exact h.elim
theorem s_fstr {v1 v2 : Expr} {rest : List Expr} {ms : List (M AV)} (h : PJs X Γ W (v1 :: v2 :: rest) ms) : PE X (.JoinedStr (v1 :: v2 :: rest) pos) (rdE X.K Γ W (eJs ms Str.empty)) :=
  pe_imp (pe_joined h.pj) fun _ _ _ q => js_in q
end
end Fk
/-! ## [e for x in a for y in b] -/
namespace Fk
open PySem PySem.Spec PyProof.Rows L2
def compI (t : Tg) (te : M AV) (vs : List Nat) : List AV → List AV → Ss → Res (List AV) Ss
  | [], acc, st => .ok acc st
  | d :: ds, acc, st => match t d st with
    | none => .bad
    | some s0 => match te s0 with
      | .ok y s2 => if acc.length < 16777216 then compI t te vs ds (acc ++ [y]) (s2.wipe vs) else .bad
      | _ => .bad
def compO (t : Tg) (mi1 : M (List AV)) (t1 : Tg) (te : M AV) (vs vs1 : List Nat) : List AV → List AV → Ss → Res (List AV) Ss
  | [], acc, st => .ok acc st
  | d :: ds, acc, st => match t d st with
    | none => .bad
    | some s0 => match mi1 s0 with
      | .ok es s1 => (match compI t1 te vs1 es acc (s1.wipe vs1) with
        | .ok acc2 s2 => compO t mi1 t1 te vs vs1 ds acc2 (s2.wipe vs)
        | _ => .bad)
      | _ => .bad
def lc2M (mi : M (List AV)) (t : Tg) (mi1 : M (List AV)) (t1 : Tg) (te : M AV) (vs vs1 : List Nat) : M (List AV) := fun st => (mi st).bind fun ds s1 => match compO t mi1 t1 te vs vs1 ds [] (s1.wipe vs) with
  | .ok xs s2 => .ok xs s2
  | _ => .bad
@[simp] theorem k_lc2M (mi : M (List AV)) (t : Tg) (mi1 : M (List AV)) (t1 : Tg) (te : M AV) (vs vs1 : List Nat) (r0 : List Sl) (s0 : List AV) : lc2M mi t mi1 t1 te vs vs1 (Ss.mk r0 s0) = (mi (Ss.mk r0 s0)).bind fun ds s1 => match compO t mi1 t1 te vs vs1 ds [] (s1.wipe vs) with
  | .ok xs s2 => .ok xs s2
  | _ => .bad := id rfl
section
variable {X : Cx} {Γ : Gam} {W : WX} {σ : L2.St} {H : Hp} {st : Ss} {p : Pd} {K : PySem.W.Frag} {pos : Pos}
theorem lc2_in {mi mi1 : M (List AV)} {ns ns1 vs vs1 : List Nat} {t t1 : Tg} {me : M AV} {Q : VK} (hns : ∀ i ∈ ns, i ∈ vs) (hns1 : ∀ i ∈ ns1, i ∈ vs1) (hv : ∀ i ∈ vs1, i ∈ vs) (h : rdO K Γ W (eLc true (lc2M mi t mi1 t1 me vs vs1)) σ H Q) :
    tLc2 (rdI K Γ W mi) (rdG K Γ ns t) tYes (rdI K Γ noX mi1) (rdG K Γ ns1 t1) tYes (rdE K Γ noX me) vs vs1 σ H Q := by
  obtain ⟨st, p, R, h⟩ := h
  refine ⟨st, p, R, ?_⟩
  unfold eLc lc2M at h
  cases ea : mi st with
  | bad => rw [ea] at h; exact h
  | err c s1 => rw [ea] at h; exact h
  | ok ds s1 =>
    rw [ea] at h
    simp only [Res.bind_ok] at h
    obtain ⟨xs, st', ec, h⟩ : ∃ xs st', compO t mi1 t1 me vs vs1 ds [] (s1.wipe vs) = .ok xs st' ∧ ∀ v H', Rel K Γ σ H' st' (p.nob.own v (.lst true xs)) → Q v H' := by
      cases ec : compO t mi1 t1 me vs vs1 ds [] (s1.wipe vs) with
      | bad => rw [ec] at h; exact h.elim
      | err c s => rw [ec] at h; exact h.elim
      | ok xs s => rw [ec] at h; exact ⟨xs, s, rfl, h⟩
    intro J H1 pv px hl R1 J1 D hD
    refine ⟨fun i n H => n = ds.length - i ∧ i ≤ ds.length ∧ ∃ (s0 : Ss) (acc : List AV), Rel K Γ (L2.wipe σ vs) H (s0.wipe vs) ((p.nob.shs pv px).own (.ref D) (.lst true acc)) ∧ compO t mi1 t1 me vs vs1 (ds.drop i) acc (s0.wipe vs) = .ok xs st', ⟨_, rfl, Nat.zero_le _, s1, [], ?_, ec⟩, ?_⟩
    · obtain ⟨m, ar, am, ao, ab, R2⟩ := R1.wipe vs
      exact R2.newLst hD .nil
    rintro i n H ⟨rfl, hi, s0, acc, R2, h2⟩
    by_cases c : i < ds.length
    · rw [List.drop_eq_getElem_cons c] at h2
      unfold compO at h2
      cases et : t ds[i] (s0.wipe vs) with
      | none => rw [et] at h2; cases h2
      | some s2 =>
        rw [et] at h2
        simp only at h2
        cases em : mi1 s2 with
        | bad => rw [em] at h2; cases h2
        | err _ _ => rw [em] at h2; cases h2
        | ok es s3 =>
          rw [em] at h2
          simp only at h2
          cases ei : compI t1 me vs1 es acc (s3.wipe vs1) with
          | bad => rw [ei] at h2; cases h2
          | err _ _ => rw [ei] at h2; cases h2
          | ok acc2 s4 =>
            rw [ei] at h2
            simp only at h2
            obtain ⟨go, yl⟩ := J1.1 i ds[i] (L2.wipe σ vs) H (s0.wipe vs) _ _ (by simp [c]) R2
            refine .inr ⟨go, fun H' => ∃ s0 : Ss, Rel K Γ (L2.wipe σ vs) H' (s0.wipe vs) ((p.nob.shs pv px).own (.ref D) (.lst true acc2)) ∧ compO t mi1 t1 me vs vs1 (ds.drop (i + 1)) acc2 (s0.wipe vs) = .ok xs st',
              fun H' ⟨s5, R5, h5⟩ => ⟨_, by omega, rfl, c, s5, acc2, R5, h5⟩, fun x H' y => ?_⟩
            have ww : ∀ {σ2 : L2.St}, L2.wipe σ2 ns = L2.wipe (L2.wipe σ vs) ns → L2.wipe σ2 vs = L2.wipe σ vs := fun w1 => (wipe_sub w1 hns).trans wipe_wipe
            refine ⟨_, _, ds[i], s2, yl x H' y, et, fun σ2 H2 w1 R3 => ⟨ww w1, ?_⟩⟩
            have w2 := ww w1
            simp only [tYes, if_true]
            refine ⟨s2, _, R3, ?_⟩
            rw [em]
            intro J2 H4 pv2 px2 hl2 R4 J3
            refine ⟨fun j k H => k = es.length - j ∧ j ≤ es.length ∧ ∃ (s6 : Ss) (ac : List AV), Rel K Γ (L2.wipe σ2 vs1) H (s6.wipe vs1) (((p.nob.shs pv px).own (.ref D) (.lst true ac)).shs pv2 px2) ∧ compI t1 me vs1 (es.drop j) ac (s6.wipe vs1) = .ok acc2 s4, ⟨_, rfl, Nat.zero_le _, s3, acc, R4.wipe vs1, ei⟩, ?_⟩
            rintro j k H5 ⟨rfl, hj, s6, ac, R6, h6⟩
            by_cases c2 : j < es.length
            · rw [List.drop_eq_getElem_cons c2] at h6
              unfold compI at h6
              cases e1 : t1 es[j] (s6.wipe vs1) with
              | none => rw [e1] at h6; cases h6
              | some s7 =>
                rw [e1] at h6
                simp only at h6
                cases e2 : me s7 with
                | bad => rw [e2] at h6; cases h6
                | err _ _ => rw [e2] at h6; cases h6
                | ok d s8 =>
                  rw [e2] at h6
                  simp only at h6
                  by_cases cz : ac.length < 16777216
                  · rw [if_pos cz] at h6
                    obtain ⟨go2, yl2⟩ := J3.1 j es[j] (L2.wipe σ2 vs1) H5 (s6.wipe vs1) _ _ (by simp [c2]) R6
                    refine .inr ⟨go2, fun H' => ∃ s6 : Ss, Rel K Γ (L2.wipe σ2 vs1) H' (s6.wipe vs1) (((p.nob.shs pv px).own (.ref D) (.lst true (ac ++ [d]))).shs pv2 px2) ∧ compI t1 me vs1 (es.drop (j + 1)) (ac ++ [d]) (s6.wipe vs1) = .ok acc2 s4,
                      fun H' ⟨s5, R5, h5⟩ => ⟨_, by omega, rfl, c2, s5, _, R5, h5⟩, fun x2 H7 y2 => ?_⟩
                    have w3 : ∀ {σ3 : L2.St}, L2.wipe σ3 ns1 = L2.wipe (L2.wipe σ2 vs1) ns1 → L2.wipe σ3 vs1 = L2.wipe σ2 vs1 := fun w => (wipe_sub w hns1).trans wipe_wipe
                    refine ⟨_, _, es[j], s7, yl2 x2 H7 y2, e1, fun σ3 H8 w4 R8 => ⟨w3 w4, ?_⟩⟩
                    have w5 := w3 w4
                    simp only [tYes, if_true]
                    refine ⟨s7, _, R8, ?_⟩
                    rw [e2]
                    intro yv H9 R9
                    obtain ⟨us, f1, f2, R10⟩ := Rel.appO (p := (p.nob.shs pv px).shs pv2 px2) R9
                    refine ⟨us, f1, by rw [f2, mx_eq]; exact cz, s8, ?_, h6⟩
                    have z1 := R10.wipe vs1
                    rw [w5] at z1
                    exact z1
                  · rw [if_neg cz] at h6; cases h6
            · have e : j = es.length := by omega
              subst e
              rw [List.drop_length] at h6
              unfold compI at h6
              cases h6
              refine .inl ⟨J3.2 _ H5 _ _ _ R6, s6.wipe vs1, ?_, h2⟩
              have R7 := Rel.dropL (p := (p.nob.shs pv px).own (.ref D) (.lst true acc2)) hl2 R6.unwipe
              have z1 := R7.wipe vs
              rw [w2] at z1
              exact z1
    · have e : i = ds.length := by omega
      subst e
      rw [List.drop_length] at h2
      unfold compO at h2
      cases h2
      refine .inl ⟨J1.2 _ H _ _ _ R2, ?_⟩
      exact h (.ref D) H (Rel.dropL (p := p.nob.own (.ref D) (.lst true xs)) hl R2.unwipe)
theorem s_asgLc2 {i : Nat} {y : Str} {py spos : Pos} {elt tg iter tg1 iter1 : Expr} {scope : Scope} {own : List (Str × Nat)} {vs1 : List Nat} {mi mi1 : M (List AV)} {ns ns1 : List Nat} {t t1 : Tg} {me : M AV} (hc : X.calm = true) (hN : X.N.Nodup) (hy : X.N[i]? = some y) (hyl : X.env.scope.names.lookup y = some .local)
    (hsw : swapsWith (.ListComp elt [⟨tg, iter, [], 0⟩, ⟨tg1, iter1, [], 0⟩] scope pos) (some (.Name y py)) spos.line X.env = pure true) (hi : PI X tg iter (rdI X.K Γ W mi)) (ok : BlkOk X.N X.env.scope scope own)
    (hg : ∀ (s : Shared) (H : Hp) (C : Addr) (cl : List (Str × Addr)) (fp : List Addr), PG (X.blk s H scope (compEnvC scope cl C X.env) fp) tg (rdG X.K Γ ns t))
    (hi1 : ∀ (s : Shared) (H : Hp) (C : Addr) (cl : List (Str × Addr)) (fp : List Addr), PI (X.blk s H scope (compEnvC scope cl C X.env) fp) tg1 iter1 (rdI X.K Γ noX mi1))
    (hg1 : ∀ (s : Shared) (H : Hp) (C : Addr) (cl : List (Str × Addr)) (fp : List Addr), PG (X.blk s H scope (compEnvC scope cl C X.env) fp) tg1 (rdG X.K Γ ns1 t1))
    (he : ∀ (s : Shared) (H : Hp) (C : Addr) (cl : List (Str × Addr)) (fp : List Addr), PE (X.blk s H scope (compEnvC scope cl C X.env) fp) elt (rdE X.K Γ noX me))
    (hv : ∀ i ∈ vs1, i ∈ own.map (·.2) := by decide) (hns : ∀ i ∈ ns, i ∈ own.map (·.2) := by decide) (hns1 : ∀ i ∈ ns1, i ∈ vs1 := by decide)
    (hs : ∀ x, foldedSetIterable iter X.env x = pure x := by intro _; rfl) (hs1 : ∀ env x, foldedSetIterable iter1 env x = pure x := by intro _ _; rfl) :
    PS X (.Assign [.Name y py] (.ListComp elt [⟨tg, iter, [], 0⟩, ⟨tg1, iter1, [], 0⟩] scope pos) spos) (rdS X.K Γ W (sAsg i (eLc false (lc2M mi t mi1 t1 me (own.map (·.2)) vs1)))) := by
  refine ps_imp (ps_setLc2 hc hN hy hyl hsw hi ok hv hg (fun _ _ _ _ _ => pts_nil) hi1 hg1 (fun _ _ _ _ _ => pts_nil) he hs hs1) fun D σ H h => ?_
  obtain ⟨st, p, R, hp, h⟩ := h
  refine lc2_in hns hns1 hv (frz_in ⟨st, p, R, ?_⟩)
  unfold sAsg at h
  cases ea : eLc false (lc2M mi t mi1 t1 me (own.map (·.2)) vs1) st with
  | bad => rw [ea] at h; exact h
  | err c s1 => rw [ea] at h; exact fun H' R' => h σ H' (hp ▸ R')
  | ok d s1 =>
    rw [ea] at h
    simp only [Res.bind_ok] at h
    exact fun v H' R' => h _ H' (Rel.put (nob_sh hp ▸ R') i)
end
end Fk
/-! ## t[::2], t[1::2] of a tuple -/
namespace Fk
open PySem PySem.Spec PyProof.Rows L2
/-- each second one from k on -/
def evs {α : Type} : List α → List α
  | [] => []
  | [x] => [x]
  | x :: _ :: r => x :: evs r
def stpA (k : Nat) : AV → Option AV
  | .tup xs => some (.tup (evs (xs.drop k)))
  | _ => none
theorem evs_len {α : Type} : ∀ xs : List α, (evs xs).length = (xs.length + 1) / 2
  | [] => by simp [evs]
  | [_] => by simp [evs]
  | _ :: _ :: r => by simp only [evs, List.length_cons, evs_len r]; omega
theorem evs_get {α : Type} : ∀ (xs : List α) (i : Nat), (evs xs)[i]? = xs[2 * i]?
  | [], i => by simp [evs]
  | [x], 0 => rfl
  | [x], i + 1 => by
    rw [List.getElem?_eq_none (by simp [evs]), List.getElem?_eq_none (by simp only [List.length_singleton]; omega)]
  | x :: y :: r, 0 => rfl
  | x :: y :: r, i + 1 => by
    show (evs r)[i]? = _
    rw [evs_get r i, show 2 * (i + 1) = 2 * i + 1 + 1 by omega]
    rfl
theorem evs_rp {K : PySem.W.Frag} {H : Hp} {W m : List Addr} : ∀ {us : List V} {xs : List AV}, Rp K H W m us xs [] → Rp K H W m (evs us) (evs xs) []
  | [], xs, r => by obtain ⟨rfl, _⟩ := r.nil_inv'; exact .nil
  | u :: us, [], r => by cases r.nil_inv.1
  | [u], [x], r => r
  | [u], x :: y :: xs, r => by have := r.len; simp at this
  | u :: w :: us, [x], r => by have := r.len; simp at this
  | u :: w :: us, x :: y :: xs, r => by
    show Rp K H W m (u :: evs us) (x :: evs xs) []
    exact r.head0.1.cons0 (evs_rp r.head0.2.head0.2)
theorem drop_rp {K : PySem.W.Frag} {H : Hp} {W m : List Addr} (n : Nat) : ∀ {us : List V} {xs : List AV}, Rp K H W m us xs [] → Rp K H W m (us.drop n) (xs.drop n) [] := by
  induction n with
  | zero => intro us xs r; exact r
  | succ n ih =>
    intro us xs r
    cases us with
    | nil => obtain ⟨rfl, _⟩ := r.nil_inv'; exact .nil
    | cons u us => cases xs with
      | nil => cases r.nil_inv.1
      | cons x xs => exact ih r.head0.2
theorem drop_vals {us : List V} {vs : List Value} (n : Nat) (h : Vals us vs) : Vals (us.drop n) (vs.drop n) := by
  induction n generalizing us vs with
  | zero => exact h
  | succ n ih =>
    cases h with
    | nil => exact .nil
    | cons r t => exact ih t
theorem evs_vals : ∀ {us : List V} {vs : List Value}, Vals us vs → Vals (evs us) (evs vs)
  | [], _, .nil => .nil
  | [_], _, .cons r .nil => .cons r .nil
  | _ :: _ :: _, _, .cons r (.cons _ t) => .cons r (evs_vals t)
/-- the start that is written: none is 0 -/
def stO (k : Nat) : Option Int := if k = 0 then none else some 1
theorem adj2 {k n : Nat} (hk : k = 0 ∨ k = 1) : Builtin.Slice.sliceAdjust (stO k) none 2 (n : Int) = (((min k n : Nat) : Int), (n : Int)) := by
  rcases hk with rfl | rfl
  · show (0, (n : Int)) = _
    simp
  · unfold stO Builtin.Slice.sliceAdjust
    simp
    omega
theorem plc2 {k n : Nat} : Builtin.Slice.slicePlaces ((k : Nat) : Int) (n : Int) 2 = (n - k + 1) / 2 := by
  unfold Builtin.Slice.slicePlaces
  rw [if_pos (by decide)]
  by_cases c : (k : Int) < n
  · rw [if_pos c]
    omega
  · rw [if_neg c]
    omega
theorem fm_some {α β : Type} {f : α → Option β} {g : α → β} : ∀ l : List α, (∀ a ∈ l, f a = some (g a)) → l.filterMap f = l.map g
  | [], _ => rfl
  | a :: l, h => by rw [List.filterMap_cons, h a (by simp), List.map_cons]; simp only; rw [fm_some l fun b hb => h b (by simp [hb])]
theorem pick2 (xs : Array Value) (k : Nat) : ((List.range ((xs.size - k + 1) / 2)).filterMap fun (m : Nat) => xs[(((k : Nat) : Int) + (m : Int) * 2).toNat]?) = evs (xs.toList.drop k) := by
  have e1 : ((List.range ((xs.size - k + 1) / 2)).filterMap fun (m : Nat) => xs[(((k : Nat) : Int) + (m : Int) * 2).toNat]?) = (List.range ((xs.size - k + 1) / 2)).map fun m => xs.toList.getD (k + 2 * m) .none := by
    refine fm_some _ fun m hm => ?_
    have hm2 := List.mem_range.mp hm
    have e0 : (((k : Nat) : Int) + (m : Int) * 2).toNat = k + 2 * m := by omega
    rw [e0, ← Array.getElem?_toList]
    have hlt : k + 2 * m < xs.toList.length := by rw [Array.length_toList]; omega
    rw [List.getD_eq_getElem?_getD, List.getElem?_eq_getElem hlt]
    rfl
  rw [e1]
  apply List.ext_getElem?
  intro i
  rw [evs_get, List.getElem?_drop, List.getElem?_map]
  by_cases c : i < (xs.size - k + 1) / 2
  · have hlt : k + 2 * i < xs.toList.length := by rw [Array.length_toList]; omega
    rw [List.getElem?_range c, List.getElem?_eq_getElem hlt]
    show some (xs.toList.getD (k + 2 * i) .none) = _
    rw [List.getD_eq_getElem?_getD, List.getElem?_eq_getElem hlt]
    rfl
  · have hge : xs.toList.length ≤ k + 2 * i := by rw [Array.length_toList]; omega
    rw [List.getElem?_eq_none (by rw [List.length_range]; omega), List.getElem?_eq_none hge]
    rfl
section
variable {prog : Program} {w : World} {A : Around} {E : Value → Shared → Prop} {s : Shared}
def stV (k : Nat) (t : Tok) : Value := if k = 0 then .none else .int 1 t
theorem two_run {sl : Addr} {t u : Tok} {n k : Nat} (hk : k = 0 ∨ k = 1) {Q : Int × Int × Nat → Shared → Prop} (hs : s.heap.IsSliceOf sl (stV k u) .none (.int 2 t))
    (h : Q (((min k n : Nat) : Int), 2, (n - min k n + 1) / 2) s) : wpAny (model prog w) A (Builtin.Slice.sliceApplied (.ref sl) (pure (n : Int))) Q E s := by
  obtain ⟨od, g1, g2, g3⟩ := id hs
  unfold Builtin.Slice.sliceApplied Builtin.Slice.sliceFields
  refine wpAny_bind (wpAny_bind (wpAny_field g1 g3 (x := stV k u) rfl (wpAny_bind (wpAny_field g1 g3 (x := .none) rfl (wpAny_bind (wpAny_field g1 g3 (x := .int 2 t) rfl (wpAny_pure ?_)))))))
  refine wpAny_bind (HT.slicePart_ (IsPart.int _ _) ?_)
  show wpAny _ _ (if ((2 : Int) == 0) = true then _ else _) _ _ s
  rw [if_neg (by decide)]
  have part : IsPart (stV k u) (stO k) := by
    rcases hk with rfl | rfl
    · exact .none
    · exact .int _ _
  refine wpAny_bind (HT.slicePart_ part (wpAny_bind (HT.slicePart_ .none (wpAny_bind (wpAny_pure ?_)))))
  show wpAny _ _ (match Builtin.Slice.sliceAdjust (stO k) none 2 (n : Int) with | (lo, hi) => pure (lo, (2 : Int), Builtin.Slice.slicePlaces lo hi 2)) _ _ s
  rw [adj2 hk]
  show wpAny _ _ (pure (((min k n : Nat) : Int), (2 : Int), Builtin.Slice.slicePlaces ((min k n : Nat) : Int) (n : Int) 2)) _ _ s
  rw [plc2]
  exact wpAny_pure h
theorem item_two {t sl : Addr} {tk u : Tok} {k : Nat} (hk : k = 0 ∨ k = 1) {items : Array Value} {Q : Value → Shared → Prop} (ht : IsTup s.heap t items) (hs : s.heap.IsSliceOf sl (stV k u) .none (.int 2 tk))
    (h : Q (.ref s.heap.objs.size) { s with heap := s.heap.push { cls := .type "tuple", data := .seq (evs (items.toList.drop k)).toArray } })
    (hsz : items.size ≤ sizeLine) : wpAny (model prog w) A (getItem (.ref t) (.ref sl)) Q E s := by
  have fits : sizeOk (.seq (evs (items.toList.drop k)).toArray) := by
    show (evs (items.toList.drop k)).toArray.size ≤ sizeLine
    rw [List.size_toArray, evs_len, List.length_drop, Array.length_toList]
    omega
  obtain ⟨od, g1, g2, g3⟩ := id hs
  have hT : s.TypeIs (.ref sl) "slice" := ⟨od, g1, g2⟩
  unfold getItem
  try with_reducible refine wpAny_holding ?_
  first | refine wpAny_bind (wpAny_pure ?_) | skip
  refine wpAny_bind (wpAny_sequenceKey ht.typeIs (by decide) ?_)
  refine wpAny_bind (wpAny_callSpecial?_slot (name := Str.ofString "__getitem__") ht.typeIs PyProof.Rows.slot_tuple_getitem
    (wpAny_call_entry PyProof.Rows.slot_tuple_getitem ht.typeIs entry_tuple_getitem ?_ (args_tuple_getitem _ _)))
  show wpAny _ _ (Builtin.Tuple.tupleItemsOf (.ref t) >>= _) _ _ s
  refine wpAny_bind (tupleItemsOf_ ht ?_)
  refine wpAny_bind (wpAny_typeOf hT ?_)
  rw [if_pos (by decide)]
  refine wpAny_bind (two_run hk hs ?_)
  show wpAny _ _ (if (((((min k items.size : Nat) : Int)) == 0) && (2 : Int) == 1 && (items.size - min k items.size + 1) / 2 == items.size) = true then _ else _) _ _ s
  rw [if_neg (by rw [show ((2 : Int) == 1) = false from rfl, Bool.and_false, Bool.false_and]; exact Bool.false_ne_true)]
  have ep : ((List.range ((items.size - min k items.size + 1) / 2)).filterMap fun (m : Nat) => items[(((min k items.size : Nat) : Int) + (m : Int) * 2).toNat]?).toArray = (evs (items.toList.drop k)).toArray := by
    rw [pick2]
    by_cases c : k ≤ items.size
    · rw [Nat.min_eq_left c]
    · have e1 : min k items.size = items.size := by omega
      rw [e1, List.drop_eq_nil_of_le (by simp), List.drop_eq_nil_of_le (by simp; omega)]
  rw [ep]
  first
    | exact wpAny_bind (m := Builtin.Tuple.tupleExact _) (wpAny_newObj_type (wpAny_pure ⟨_, rfl, wpAny_pure h⟩) fits)
    | exact wpAny_bind (m := Builtin.Tuple.tupleExact _) (wpAny_newObj_type (wpAny_bind (wpAny_pure (wpAny_pure ⟨_, rfl, wpAny_pure h⟩))) fits)
    | exact wpAny_bind (wpAny_bind (m := Builtin.Tuple.tupleExact _) (wpAny_newObj_type (wpAny_pure (wpAny_pure ⟨_, rfl, wpAny_pure h⟩)) fits))
    | exact wpAny_bind (wpAny_bind (m := Builtin.Tuple.tupleExact _) (wpAny_newObj_type (wpAny_pure ⟨_, rfl, wpAny_pure h⟩) fits))
end
section
variable {X : Cx} {Γ : Gam} {W : WX} {σ : L2.St} {H : Hp} {st : Ss} {p : Pd} {K : PySem.W.Frag} {pos : Pos}
def tStp (K : PySem.W.Frag) (k : Nat) (te : TE) : TE := fun σ H Q => te σ H fun x H1 => ∃ a xs, x = .ref a ∧ SqT K H1 a xs ∧ ∀ p, H1 p = none → Q (.ref p) (upd H1 p (.tup (evs (xs.drop k))))
theorem stp_fin {pins : List (Addr × Obj)} {σ : L2.St} {H : Hp} {s4 : Shared} {a : Addr} {xs : List V} {Q : VK} {k : Nat} (hk : k = 0 ∨ k = 1) {u tk : Tok} {e : Expr} {sle : Expr}
    (hsl : ∀ {op : Value} {A : Around} {E : Value → Shared → Prop} {Q : Value → Shared → Prop} {s : Shared}, s.TypeIs (.ref a) "tuple" → wpAny (model X.prog X.w) A (getItem (.ref a) op) Q E s → wpAny (model X.prog X.w) A (subscriptTail e sle (.ref a) op) Q E s)
    (I4 : Inv X pins σ H s4) (hx : SqT X.K H a xs) (q : ∀ p, H p = none → Q (.ref p) (upd H p (.tup (evs (xs.drop k))))) :
    wpAny (model X.prog X.w) X.A (subscriptTail e sle (.ref a) (.ref s4.heap.objs.size)) (EP X pins σ Q) X.xe { s4 with heap := s4.heap.push { cls := .type "slice", data := .fields #[stV k u, .none, .int 2 tk] } } := by
  have I5 : Inv X pins σ H { s4 with heap := s4.heap.push { cls := .type "slice", data := .fields #[stV k u, .none, .int 2 tk] } } := I4.kept (t' := s4.toks) fun b ob q => Heap.get?_push_of_some _ q
  obtain ⟨its, r, ht, hz⟩ := I5.tuple hx
  have hlen := r.length
  refine hsl ht.typeIs ?_
  refine item_two hk ht (Heap.IsSliceOf.new ..) ?_ (by rw [List.size_toArray]; omega)
  refine ⟨.ref _, _, I5.laid (t' := s4.toks) (o := .tup (evs (xs.drop k))) (fun b ob q => Heap.get?_push_of_some _ q) (Nat.le_refl _) ?_, rfl, q _ (I5.hok.fresh (Nat.le_refl _))⟩
  exact ⟨by rw [evs_len, List.length_drop]; omega, evs (its.drop k), evs_vals (drop_vals k r), ⟨_, Heap.get?_push_size _ rfl, rfl, _, rfl⟩⟩
theorem pe_stp0 {e : Expr} {te : TE} {j : Nat} {p1 p3 pos : Pos} (he : PE X e te) : PE X (.Subscript e (.Slice none none (some (.Constant (.int 2) j p1)) p3) pos) (tStp X.K 0 te) := by
  refine ⟨fun pins s σ H Q I h => ?_⟩
  refine Subscript_ (thn (he.run pins s σ H _ I h) fun v s1 ⟨x, H1, I1, r1, q1⟩ => ?_)
  obtain ⟨a, xs, ex, hx, q⟩ := q1
  subst ex
  cases r1
  have hst : PO X (some (.Constant (.int 2) j p1)) (tPart (tC (.int 2))) := po_some pe_int
  refine wpAny_Slice (thn (po_none.run pins s1 σ H1 (fun o H2 => o = none ∧ H2 = H1) I1 ⟨rfl, rfl⟩) fun vl s2 ⟨l, H2, I2, pl, el, e2⟩ => ?_)
  subst el e2
  refine thn (po_none.run pins s2 σ H2 (fun o H3 => o = none ∧ H3 = H2) I2 ⟨rfl, rfl⟩) fun vu s3 ⟨u, H3, I3, pu, eu, e3⟩ => ?_
  subst eu e3
  refine thn (hst.run pins s3 σ H3 (fun o H4 => o = some 2 ∧ H4 = H3) I3 ⟨2, rfl, rfl, rfl⟩) fun vs s4 ⟨o, H4, I4, ps, eo, e4⟩ => ?_
  subst eo e4
  cases pl
  cases pu
  cases ps with
  | int _ tk =>
  exact stp_fin (k := 0) (u := 0) (.inl rfl) (fun {op} {A} {E} {Q} {s} hT hw => tail_any (ops := [.ref a, op]) hT PyProof.Rows.slot_tuple_getitem.lookup hw (by with_unfolding_all rfl)) I4 hx q
theorem pe_stp1 {e : Expr} {te : TE} {j j0 : Nat} {p0 p1 p3 pos : Pos} (he : PE X e te) : PE X (.Subscript e (.Slice (some (.Constant (.int 1) j0 p0)) none (some (.Constant (.int 2) j p1)) p3) pos) (tStp X.K 1 te) := by
  refine ⟨fun pins s σ H Q I h => ?_⟩
  refine Subscript_ (thn (he.run pins s σ H _ I h) fun v s1 ⟨x, H1, I1, r1, q1⟩ => ?_)
  obtain ⟨a, xs, ex, hx, q⟩ := q1
  subst ex
  cases r1
  have hst : PO X (some (.Constant (.int 2) j p1)) (tPart (tC (.int 2))) := po_some pe_int
  have hlo : PO X (some (.Constant (.int 1) j0 p0)) (tPart (tC (.int 1))) := po_some pe_int
  refine wpAny_Slice (thn (hlo.run pins s1 σ H1 (fun o H2 => o = some 1 ∧ H2 = H1) I1 ⟨1, rfl, rfl, rfl⟩) fun vl s2 ⟨l, H2, I2, pl, el, e2⟩ => ?_)
  subst el e2
  refine thn (po_none.run pins s2 σ H2 (fun o H3 => o = none ∧ H3 = H2) I2 ⟨rfl, rfl⟩) fun vu s3 ⟨u, H3, I3, pu, eu, e3⟩ => ?_
  subst eu e3
  refine thn (hst.run pins s3 σ H3 (fun o H4 => o = some 2 ∧ H4 = H3) I3 ⟨2, rfl, rfl, rfl⟩) fun vs s4 ⟨o, H4, I4, ps, eo, e4⟩ => ?_
  subst eo e4
  cases pu
  cases pl with
  | int _ tl =>
  cases ps with
  | int _ tk =>
  exact stp_fin (k := 1) (u := tl) (.inr rfl) (fun {op} {A} {E} {Q} {s} hT hw => tail_any (ops := [.ref a, op]) hT PyProof.Rows.slot_tuple_getitem.lookup hw (by with_unfolding_all rfl)) I4 hx q
theorem stp_in {m : M AV} {k : Nat} {Q : VK} (h : rdE K Γ W (e1 (stpA k) m) σ H Q) : tStp K k (rdE K Γ W m) σ H Q := by
  obtain ⟨st, p, R, h⟩ := h
  refine ⟨st, p, R, ?_⟩
  unfold e1 at h
  cases ea : m st with
  | bad => rw [ea] at h; exact h
  | err c s1 => rw [ea] at h; exact h
  | ok x s1 =>
    rw [ea] at h
    simp only [Res.bind_ok] at h
    cases x with
    | tup xs =>
      intro v H1 R1
      obtain ⟨mm, ar, am, ao, ab, R2, r⟩ := R1.one
      obtain ⟨a, us, rfl, hs, q⟩ := r.tup_i
      exact ⟨a, us, rfl, hs, fun l hl => h _ _ (R2.tup hl (evs_rp (drop_rp k q))).rel⟩
    | _ => exact h.elim
theorem s_stp0 {e : Expr} {m : M AV} {j : Nat} {p1 p3 : Pos} (he : PE X e (rdE X.K Γ W m)) : PE X (.Subscript e (.Slice none none (some (.Constant (.int 2) j p1)) p3) pos) (rdE X.K Γ W (e1 (stpA 0) m)) :=
  pe_imp (pe_stp0 he) fun _ _ _ q => stp_in q
theorem s_stp1 {e : Expr} {m : M AV} {j j0 : Nat} {p0 p1 p3 : Pos} (he : PE X e (rdE X.K Γ W m)) : PE X (.Subscript e (.Slice (some (.Constant (.int 1) j0 p0)) none (some (.Constant (.int 2) j p1)) p3) pos) (rdE X.K Γ W (e1 (stpA 1) m)) :=
  pe_imp (pe_stp1 he) fun _ _ _ q => stp_in q
end
end Fk
/-! ## sorted(set(x)) of a list of ints -/
namespace Fk
open PySem PySem.Spec PyProof.Rows L2
section
variable {P : Program} {w : World} {A : Around} {E : Value → Shared → Prop} {s : Shared}
end
section
variable {X : Cx} {Γ : Gam} {W : WX} {a : Expr} {ta : TE} {p1 p2 q pos : Pos}
end
end Fk
/-! ## tuple(zip(t, u)) of tuples -/
namespace Fk
open PySem PySem.Spec PyProof.Rows L2 PySem.W
section
variable {prog : Program} {w : World} {A : Around} {E : Value → Shared → Prop} {s : Shared}
theorem zt_item0 {z TI TO T i1 i2 l1 l2 : Addr} {f : Bool} {oT : Obj} {k1 k2 : Nat} {xs ys : Array Value} {x y : Value} {Q : Value → Shared → Prop} (D : ZipApart z TI TO i1 i2 l1 l2)
    (hz : IsZipHeld s.heap z TI TO T f) (hT : s.heap.get? T = some oT) (hTI : PySem.IsPair s.heap TI (.ref i1) (.ref i2))
    (h1 : s.heap.IsTupleIter i1 l1 k1) (h2 : s.heap.IsTupleIter i2 l2 k2) (hl1 : s.heap.IsTuple l1 xs) (hl2 : s.heap.IsTuple l2 ys) (hx : xs[k1]? = some x) (hy : ys[k2]? = some y)
    (hQ : ∀ h', IsZipHeld h' z TI TO T true → h'.IsTupleIter i1 l1 (k1 + 1) → h'.IsTupleIter i2 l2 (k2 + 1) → PySem.IsPair h' s.heap.objs.size x y → h'.objs.size = s.heap.objs.size + 1 → (∀ c o, c ≠ z → c ≠ i1 → c ≠ i2 → s.heap.get? c = some o → h'.get? c = some o) → Q (.ref s.heap.objs.size) { s with heap := h' }) :
    wpAny (model prog w) A (Builtin.«zip.__next__» ⟨[.ref z], []⟩) (fun fin s' => ∃ v, fin = .done (.ret v) ∧ Q v s') E s := by
  (show wpAny _ _ (field (.ref z) 2 >>= _) _ _ _; refine wpAny_bind (wpAny_field hz rfl (x := .bool false) rfl ?_); show wpAny _ _ (field (.ref z) 3 >>= _) _ _ _; refine wpAny_bind (wpAny_field hz rfl (x := .ref TI) rfl ?_))
  (refine wpAny_bind (wpAny_seqItems hTI rfl ?_); show wpAny _ _ (Builtin.SmallTypes.ownedTupleIsFree (.ref z) >>= _) _ _ _; refine wpAny_bind (wpAny_tupleHeld_zip hz hT fun ha za sa => ?_); simp only [Bool.false_eq_true, if_false]; refine wpAny_bind ?_)
  (rw [← Array.forIn_toList]; simp only [List.forIn_cons, List.forIn_nil]; refine wpAny_bind (wpAny_bind (wpAny_holding ?_)); show wpAny _ _ (Builtin.SmallTypes.nextOf (.ref i1) >>= _) _ _ _)
  refine wpAny_bind (RZ.nextOf_tuple_item (s := { s with heap := ha }) (h1.extBut sa.extBut D.i1z) (hl1.extBut sa.extBut D.l1z) hx fun hb b1 sb => wpAny_pure ?_)
  (refine wpAny_pure ?_; refine wpAny_bind (wpAny_bind (wpAny_holding ?_)); show wpAny _ _ (Builtin.SmallTypes.nextOf (.ref i2) >>= _) _ _ _)
  refine wpAny_bind (RZ.nextOf_tuple_item (s := { s with heap := hb }) ((h2.extBut sa.extBut D.i2z).extBut sb.extBut D.i12.symm) ((hl2.extBut sa.extBut D.l2z).extBut sb.extBut D.l2i1) hy fun hc c2 sc => wpAny_pure ?_)
  (refine wpAny_pure (wpAny_pure ?_); show wpAny _ _ (newTuple [x, y] >>= _) _ _ _; refine wpAny_bind (wpAny_newTuple ?_))
  have hsz : hc.objs.size = s.heap.objs.size := by rw [sc.1, sb.1, sa.1]
  have zc : IsZipHeld hc z TI TO T true := sc.extBut _ _ D.i2z.symm (sb.extBut _ _ D.i1z.symm za)
  have kc : ∀ c o, c ≠ z → c ≠ i1 → c ≠ i2 → s.heap.get? c = some o → hc.get? c = some o := fun c o n1 n2 n3 e => sc.extBut _ _ n3 (sb.extBut _ _ n2 (sa.extBut _ _ n1 e))
  have c1 : hc.IsTupleIter i1 l1 (k1 + 1) := b1.extBut sc.extBut D.i12
  (refine wpAny_pure ⟨_, rfl, ?_⟩; show Q (.ref hc.objs.size) _)
  have hp : PySem.IsPair (hc.push { cls := .type "tuple", data := .seq #[x, y] }) hc.objs.size x y := Heap.get?_push_size _ rfl
  have h4 : (hc.push { cls := .type "tuple", data := .seq #[x, y] }).objs.size = hc.objs.size + 1 := Heap.size_push ..
  rw [hsz] at hp h4 ⊢
  exact hQ _ (Heap.get?_push_of_some _ zc) (c1.at fun o e => Heap.get?_push_of_some _ e) (c2.at fun o e => Heap.get?_push_of_some _ e) hp h4 fun c o n1 n2 n3 e => Heap.get?_push_of_some _ (kc c o n1 n2 n3 e)
theorem zt_item {z TI TO T i1 i2 l1 l2 : Addr} {f : Bool} {oT : Obj} {k1 k2 : Nat} {xs ys : Array Value} {x y : Value} {Q : Option Value → Shared → Prop} (D : ZipApart z TI TO i1 i2 l1 l2)
    (hz : IsZipHeld s.heap z TI TO T f) (hT : s.heap.get? T = some oT) (hTI : PySem.IsPair s.heap TI (.ref i1) (.ref i2))
    (h1 : s.heap.IsTupleIter i1 l1 k1) (h2 : s.heap.IsTupleIter i2 l2 k2) (hl1 : s.heap.IsTuple l1 xs) (hl2 : s.heap.IsTuple l2 ys) (hx : xs[k1]? = some x) (hy : ys[k2]? = some y)
    (hQ : ∀ h', IsZipHeld h' z TI TO T true → h'.IsTupleIter i1 l1 (k1 + 1) → h'.IsTupleIter i2 l2 (k2 + 1) → PySem.IsPair h' s.heap.objs.size x y → h'.objs.size = s.heap.objs.size + 1 → (∀ c o, c ≠ z → c ≠ i1 → c ≠ i2 → s.heap.get? c = some o → h'.get? c = some o) → Q (some (.ref s.heap.objs.size)) { s with heap := h' }) :
    wpAny (model prog w) A (pyNext (.ref z)) Q E s := by
  have ty : s.TypeIs (.ref z) "zip" := ⟨_, hz, rfl⟩
  unfold pyNext
  refine wpAny_bind (wpAny_attempt (wpAny_callSpecial?_slot (name := Str.ofString "__next__") ty F.slot_zip_next (wpAny_call_entry F.slot_zip_next ty F.entry_zip_next ?_ (F.args_zip_next_1 _))))
  exact zt_item0 D hz hT hTI h1 h2 hl1 hl2 hx hy fun h' a1 a3 a4 a5 a6 a7 => wpAny_pure (hQ h' a1 a3 a4 a5 a6 a7)
theorem zt_end0 {z TI TO T i1 i2 l1 l2 : Addr} {f : Bool} {oT : Obj} {k1 k2 : Nat} {xs ys : Array Value} {Q : Fin → Shared → Prop} (hh : A.handled = none) (D : ZipApart z TI TO i1 i2 l1 l2)
    (hz : IsZipHeld s.heap z TI TO T f) (hT : s.heap.get? T = some oT) (hTI : PySem.IsPair s.heap TI (.ref i1) (.ref i2))
    (h1 : s.heap.IsTupleIter i1 l1 k1) (h2 : s.heap.IsTupleIter i2 l2 k2) (hl1 : s.heap.IsTuple l1 xs) (hl2 : s.heap.IsTuple l2 ys) (hend : xs[k1]? = none ∨ ys[k2]? = none)
    (hE : ∀ h' e, (∀ c o, c ≠ z → c ≠ i1 → c ≠ i2 → s.heap.get? c = some o → h'.get? c = some o) → (∃ o, h'.get? e = some o ∧ o.cls = .type "StopIteration") → E (.ref e) { s with heap := h' }) : wpAny (model prog w) A (Builtin.«zip.__next__» ⟨[.ref z], []⟩) Q E s := by
  (show wpAny _ _ (field (.ref z) 2 >>= _) _ _ _; refine wpAny_bind (wpAny_field hz rfl (x := .bool false) rfl ?_); show wpAny _ _ (field (.ref z) 3 >>= _) _ _ _; refine wpAny_bind (wpAny_field hz rfl (x := .ref TI) rfl ?_))
  (refine wpAny_bind (wpAny_seqItems hTI rfl ?_); show wpAny _ _ (Builtin.SmallTypes.ownedTupleIsFree (.ref z) >>= _) _ _ _; refine wpAny_bind (wpAny_tupleHeld_zip hz hT fun ha za sa => ?_); simp only [Bool.false_eq_true, if_false]; refine wpAny_bind ?_)
  (rw [← Array.forIn_toList]; simp only [List.forIn_cons, List.forIn_nil]; refine wpAny_bind (wpAny_bind (wpAny_holding ?_)); show wpAny _ _ (Builtin.SmallTypes.nextOf (.ref i1) >>= _) _ _ _)
  cases hx : xs[k1]? with
  | none =>
    refine wpAny_bind (RZ.nextOf_tuple_end (s := { s with heap := ha }) hh (h1.extBut sa.extBut D.i1z) (hl1.extBut sa.extBut D.l1z) hx fun hb e sb he => ?_)
    exact hE hb e (fun c o n1 n2 _ q => sb _ _ n2 (sa.extBut _ _ n1 q)) he
  | some x =>
    have hy : ys[k2]? = none := hend.elim (fun q => by rw [hx] at q; cases q) id
    refine wpAny_bind (RZ.nextOf_tuple_item (s := { s with heap := ha }) (h1.extBut sa.extBut D.i1z) (hl1.extBut sa.extBut D.l1z) hx fun hb b1 sb => wpAny_pure ?_)
    (refine wpAny_pure ?_; refine wpAny_bind (wpAny_bind (wpAny_holding ?_)); show wpAny _ _ (Builtin.SmallTypes.nextOf (.ref i2) >>= _) _ _ _)
    refine wpAny_bind (RZ.nextOf_tuple_end (s := { s with heap := hb }) hh ((h2.extBut sa.extBut D.i2z).extBut sb.extBut D.i12.symm) ((hl2.extBut sa.extBut D.l2z).extBut sb.extBut D.l2i1) hy fun hc e sc he => ?_)
    exact hE hc e (fun c o n1 n2 n3 q => sc _ _ n3 (sb.extBut _ _ n2 (sa.extBut _ _ n1 q))) he
theorem zt_end {z TI TO T i1 i2 l1 l2 : Addr} {f : Bool} {oT : Obj} {k1 k2 : Nat} {xs ys : Array Value} {Q : Option Value → Shared → Prop} (hh : A.handled = none) (D : ZipApart z TI TO i1 i2 l1 l2)
    (hz : IsZipHeld s.heap z TI TO T f) (hT : s.heap.get? T = some oT) (hTI : PySem.IsPair s.heap TI (.ref i1) (.ref i2))
    (h1 : s.heap.IsTupleIter i1 l1 k1) (h2 : s.heap.IsTupleIter i2 l2 k2) (hl1 : s.heap.IsTuple l1 xs) (hl2 : s.heap.IsTuple l2 ys) (hend : xs[k1]? = none ∨ ys[k2]? = none)
    (hQ : ∀ h', (∀ c o, c ≠ z → c ≠ i1 → c ≠ i2 → s.heap.get? c = some o → h'.get? c = some o) → Q none { s with heap := h' }) : wpAny (model prog w) A (pyNext (.ref z)) Q E s := by
  have ty : s.TypeIs (.ref z) "zip" := ⟨_, hz, rfl⟩
  unfold pyNext
  refine wpAny_bind (wpAny_attempt (wpAny_callSpecial?_slot (name := Str.ofString "__next__") ty F.slot_zip_next (wpAny_call_entry F.slot_zip_next ty F.entry_zip_next (zt_end0 hh D hz hT hTI h1 h2 hl1 hl2 hend fun h' e hk he => ?_) (F.args_zip_next_1 _))))
  obtain ⟨o, ho, hc⟩ := he
  exact wpAny_bind (wpAny_isInstance (T := "StopIteration") (b := true) ⟨o, ho, hc⟩ isSubtype_stop (wpAny_pure (hQ _ hk)))
end
/-- pairs laid one by one -/
def tZp : List (V × V) → Hp → (List V → Hp → Prop) → Prop
  | [], H, Q => Q [] H
  | p :: ps, H, Q => ∀ T, H T = none → tZp ps (upd H T (.tup [p.1, p.2])) fun vs H' => Q (.ref T :: vs) H'
/-- a zip of the tuples a, b that has given i pairs -/
def ZS (H : Hp) (h : Heap) (z TI TO i1 i2 a b : Addr) (i : Nat) : Prop := PySem.IsPair h TI (.ref i1) (.ref i2) ∧ h.IsTupleIter i1 a i ∧ h.IsTupleIter i2 b i ∧ (∃ o, h.get? TO = some o) ∧
  ((IsZip h z TI TO .none ∧ ∃ x y, PySem.IsPair h TO x y) ∨ ∃ T f w, IsZipHeld h z TI TO T f ∧ H T = some (.tup w))
section
variable {X : Cx} {A : Around} {E : Value → Shared → Prop} {s : Shared} {pins : List (Addr × Obj)} {σ : L2.St} {H : Hp} {z TI TO i1 i2 a b : Addr} {i : Nat} {xs ys : List V}
theorem ZS.keep {H' : Hp} {h h' : Heap} (st : ZS H h z TI TO i1 i2 a b i) (k : ∀ c, c ∈ [z, TI, TO, i1, i2] → ∀ o, h.get? c = some o → h'.get? c = some o) (kh : ∀ T w, H T = some (.tup w) → H' T = some (.tup w)) : ZS H' h' z TI TO i1 i2 a b i := by
  obtain ⟨hTI, h1, h2, ⟨o, ho⟩, hz⟩ := st
  refine ⟨k TI (by simp) _ hTI, h1.at fun o q => k i1 (by simp) o q, h2.at fun o q => k i2 (by simp) o q, ⟨o, k TO (by simp) _ ho⟩, ?_⟩
  rcases hz with ⟨hz, x, y, hTO⟩ | ⟨T, f, u, hz, hT⟩
  · exact .inl ⟨k z (by simp) _ hz, x, y, k TO (by simp) _ hTO⟩
  · exact .inr ⟨T, f, u, k z (by simp) _ hz, kh T u hT⟩
theorem zs_next (D : ZipApart z TI TO i1 i2 a b) (I : Inv X pins σ H s) (fp : ∀ c ∈ [z, TI, TO, i1, i2], FpOk X pins H c) (st : ZS H s.heap z TI TO i1 i2 a b i) (hqx : SqT X.K H a xs) (hqy : SqT X.K H b ys) {x y : V} (hx : xs[i]? = some x) (hy : ys[i]? = some y)
    {Q : Option Value → Shared → Prop} (hQ : ∀ (T : Addr) (h' : Heap), H T = none → T ∉ [z, TI, TO, i1, i2] → s.heap.objs.size = T → Inv X pins σ (upd H T (.tup [x, y])) { s with heap := h' } → ZS (upd H T (.tup [x, y])) h' z TI TO i1 i2 a b (i + 1) → (∀ c o, c ∉ [z, TO, i1, i2] → s.heap.get? c = some o → h'.get? c = some o) → Q (some (.ref T)) { s with heap := h' }) :
    wpAny (model X.prog X.w) A (pyNext (.ref z)) Q E s := by
  obtain ⟨hTI, h1, h2, ⟨oTO, eTO⟩, hz⟩ := st
  have zl : z < s.heap.objs.size := by rcases hz with ⟨hz, _⟩ | ⟨_, _, _, hz, _⟩ <;> exact Heap.lt_size hz
  have nn : s.heap.objs.size ∉ [z, TI, TO, i1, i2] := fun q => by
      simp only [List.mem_cons, List.not_mem_nil, or_false] at q
      rcases q with q | q | q | q | q
      · exact Nat.ne_of_lt zl q.symm
      · exact Nat.ne_of_lt (Heap.lt_size hTI) q.symm
      · exact Nat.ne_of_lt (Heap.lt_size eTO) q.symm
      · obtain ⟨_, e, _⟩ := h1; exact Nat.ne_of_lt (Heap.lt_size e) q.symm
      · obtain ⟨_, e, _⟩ := h2; exact Nat.ne_of_lt (Heap.lt_size e) q.symm
  obtain ⟨its, rv, p, _⟩ := I.tuple hqx
  obtain ⟨its2, rv2, p2, _⟩ := I.tuple hqy
  obtain ⟨u, hu, ru⟩ := rv.get hx
  obtain ⟨u2, hu2, ru2⟩ := rv2.get hy
  have lz : ∀ c ∈ [z, TI, TO, i1, i2], (∃ o, s.heap.get? c = some o) → c ≠ s.heap.objs.size := fun c _ ⟨o, e⟩ => Nat.ne_of_lt (Heap.lt_size e)
  have hf : H s.heap.objs.size = none := I.hok.fresh (Nat.le_refl _)
  have fin : ∀ h' : Heap, PySem.IsPair h' s.heap.objs.size u u2 → (∀ c o, c ∉ [z, TO, i1, i2] → s.heap.get? c = some o → h'.get? c = some o) → Inv X pins σ (upd H s.heap.objs.size (.tup [x, y])) { s with heap := h' } := fun h' hT hk => by
    have new : ObjOk X.prog X.w (upd H s.heap.objs.size (.tup [x, y])) h' s.heap.objs.size (.tup [x, y]) := ⟨by show 2 ≤ sizeLine; decide, [u, u2], .cons ru (.cons ru2 .nil), ⟨_, hT, rfl, _, rfl⟩⟩
    exact I.turnedNew (t' := s.toks) (ch := [z, TI, TO, i1, i2]) (fun c o hb q => hk c o (fun q' => hb (by simp only [List.mem_cons, List.not_mem_nil, or_false] at q' ⊢; rcases q' with r | r | r | r <;> simp [r])) q) fp (Nat.le_refl _) new
  have nT : ∀ c, H c = none → c ≠ s.heap.objs.size → upd H s.heap.objs.size (.tup [x, y]) c = H c := fun c _ n => upd_ne n
  rcases hz with ⟨hz, x0, y0, hTO⟩ | ⟨T, f, w, hz, hT⟩
  · refine RZ.pyNext_zipT_item D hz hTI hTO h1 h2 p p2 (x := u) (y := u2) (by simpa using hu) (by simpa using hu2) fun h' z' TO' h1' h2' hT hsz hk => ?_
    have hk' : ∀ c o, c ∉ [z, TO, i1, i2] → s.heap.get? c = some o → h'.get? c = some o := fun c o hb q => hk c o (fun q' => hb (by simp [q'])) (fun q' => hb (by simp [q'])) (fun q' => hb (by simp [q'])) (fun q' => hb (by simp [q'])) q
    exact hQ _ h' hf nn rfl (fin h' hT hk') ⟨hk' _ _ (by simp [D.TIz, D.TITO, D.TIi1, D.TIi2]) hTI, h1', h2', ⟨_, TO'⟩, .inr ⟨_, _, _, z', upd_same⟩⟩ hk'
  · obtain ⟨_, _, _, oT, gT, _⟩ := I.hok T _ hT
    refine zt_item D hz gT hTI h1 h2 p p2 (x := u) (y := u2) (by simpa using hu) (by simpa using hu2) fun h' z' h1' h2' hp hsz hk => ?_
    have hk' : ∀ c o, c ∉ [z, TO, i1, i2] → s.heap.get? c = some o → h'.get? c = some o := fun c o hb q => hk c o (fun q' => hb (by simp [q'])) (fun q' => hb (by simp [q'])) (fun q' => hb (by simp [q'])) q
    have nTs : T ≠ s.heap.objs.size := fun q => by rw [q, hf] at hT; cases hT
    exact hQ _ h' hf nn rfl (fin h' hp hk') ⟨hk' _ _ (by simp [D.TIz, D.TITO, D.TIi1, D.TIi2]) hTI, h1', h2', ⟨_, hk _ _ D.TOz D.TOi1 D.TOi2 eTO⟩, .inr ⟨T, _, w, z', by rw [upd_ne nTs]; exact hT⟩⟩ hk'
theorem zs_stop (hh : A.handled = none) (D : ZipApart z TI TO i1 i2 a b) (I : Inv X pins σ H s) (fp : ∀ c ∈ [z, TI, TO, i1, i2], FpOk X pins H c) (st : ZS H s.heap z TI TO i1 i2 a b i) (hqx : SqT X.K H a xs) (hqy : SqT X.K H b ys) (hend : xs.length ≤ i ∨ ys.length ≤ i)
    {Q : Option Value → Shared → Prop} (hQ : ∀ h' : Heap, Inv X pins σ H { s with heap := h' } → (∀ c o, c ∉ [z, TO, i1, i2] → s.heap.get? c = some o → h'.get? c = some o) → Q none { s with heap := h' }) :
    wpAny (model X.prog X.w) A (pyNext (.ref z)) Q E s := by
  obtain ⟨hTI, h1, h2, ⟨oTO, eTO⟩, hz⟩ := st
  obtain ⟨its, rv, p, _⟩ := I.tuple hqx
  obtain ⟨its2, rv2, p2, _⟩ := I.tuple hqy
  have l1 := rv.length
  have l2 := rv2.length
  have he : its.toArray[i]? = none ∨ its2.toArray[i]? = none := hend.elim (fun q => .inl (by simp; omega)) fun q => .inr (by simp; omega)
  have fin : ∀ h' : Heap, (∀ c o, c ∉ [z, TO, i1, i2] → s.heap.get? c = some o → h'.get? c = some o) → Inv X pins σ H { s with heap := h' } := fun h' hk =>
    I.turnedL (t' := s.toks) (ch := [z, TI, TO, i1, i2]) (fun c o hb q => hk c o (fun q' => hb (by simp only [List.mem_cons, List.not_mem_nil, or_false] at q' ⊢; rcases q' with r | r | r | r <;> simp [r])) q) fp
  rcases hz with ⟨hz, x0, y0, hTO⟩ | ⟨T, f, w, hz, hT⟩
  · refine RZ.pyNext_zipT_end hh D hz hTI hTO h1 h2 p p2 he fun h' hk => ?_
    have hk' : ∀ c o, c ∉ [z, TO, i1, i2] → s.heap.get? c = some o → h'.get? c = some o := fun c o hb q => hk c o (fun q' => hb (by simp [q'])) (fun q' => hb (by simp [q'])) (fun q' => hb (by simp [q'])) (fun q' => hb (by simp [q'])) q
    exact hQ h' (fin h' hk') hk'
  · obtain ⟨_, _, _, oT, gT, _⟩ := I.hok T _ hT
    refine zt_end hh D hz gT hTI h1 h2 p p2 he fun h' hk => ?_
    have hk' : ∀ c o, c ∉ [z, TO, i1, i2] → s.heap.get? c = some o → h'.get? c = some o := fun c o hb q => hk c o (fun q' => hb (by simp [q'])) (fun q' => hb (by simp [q'])) (fun q' => hb (by simp [q'])) q
    exact hQ h' (fin h' hk') hk'
theorem zs_loop (D : ZipApart z TI TO i1 i2 a b) {S : Addr} {res : Value} {xs ys : List V} (hS : S ∉ [z, TI, TO, i1, i2]) (hl : (xs.zip ys).length ≤ sizeLine) : ∀ (n i : Nat) (A : Around) (s : Shared) (H : Hp) (acc : Array Value) (c : Nat) (us : List V) (Q' : List V → Hp → Prop) (R : Result → Shared → Prop),
    A.handled = none → (xs.zip ys).length = i + n → Inv X pins σ H s → (∀ c ∈ [z, TI, TO, i1, i2], FpOk X pins H c) → FpOk X pins H S → ZS H s.heap z TI TO i1 i2 a b i → SqT X.K H a xs → SqT X.K H b ys →
    s.heap.get? S = some { cls := .type "list", dict := none, data := .seq acc c, slots := #[] } → Vals us acc.toList → acc.size = i → tZp ((xs.zip ys).drop i) H Q' →
    (∀ (s' : Shared) (H' : Hp) (acc' : Array Value) (c' : Nat) (vs : List V), Inv X pins σ H' s' → s'.heap.get? S = some { cls := .type "list", dict := none, data := .seq acc' c', slots := #[] } → Vals (us ++ vs) acc'.toList → acc'.size = (xs.zip ys).length → Q' vs H' → R (.ok (.ret res)) s') →
    codeAny (model X.prog X.w) A (.builtin "list.extend.loop" ⟨[.ref S, .ref z, res], []⟩) R s
  | 0, i, A, s, H, acc, c, us, Q', R, hh, hn, I, fp, fS, st, hqx, hqy, gS, va, ha, hq, hR => by
    (refine codeAny_builtin F.entry_extend_loop ?_; rw [Around.under_plainId F.plain_extend_loop _]; show wpAny _ A.in1 (pyNext (.ref z) >>= _) _ _ s)
    have hend : xs.length ≤ i ∨ ys.length ≤ i := by
      rw [List.length_zip] at hn
      omega
    refine wpAny_bind (zs_stop (A := A.in1) hh D I fp st hqx hqy hend fun h' I' hk => wpAny_pure ?_)
    rw [List.drop_of_length_le (by omega)] at hq
    have gS' := hk S _ (fun q => hS (by simp only [List.mem_cons, List.not_mem_nil, or_false] at q ⊢; rcases q with r | r | r | r <;> simp [r])) gS
    exact hR _ H acc c [] I' gS' (by simpa using va) (by omega) hq
  | n + 1, i, A, s, H, acc, c, us, Q', R, hh, hn, I, fp, fS, st, hqx, hqy, gS, va, ha, hq, hR => by
    (refine codeAny_builtin F.entry_extend_loop ?_; rw [Around.under_plainId F.plain_extend_loop _]; show wpAny _ A.in1 (pyNext (.ref z) >>= _) _ _ s)
    have hn2 : (xs.zip ys).length = min xs.length ys.length := List.length_zip
    have ix : i < xs.length := by omega
    have iy : i < ys.length := by omega
    have hx := List.getElem?_eq_getElem ix
    have hy := List.getElem?_eq_getElem iy
    generalize xs[i] = x at hx
    generalize ys[i] = y at hy
    have hd : (xs.zip ys).drop i = (x, y) :: (xs.zip ys).drop (i + 1) := by
      have e := List.getElem?_zip_eq_some (l₁ := xs) (l₂ := ys) (z := (x, y)) (i := i) |>.mpr ⟨hx, hy⟩
      obtain ⟨hlt, he⟩ := List.getElem?_eq_some_iff.mp e
      rw [List.drop_eq_getElem_cons hlt, he]
    rw [hd] at hq
    refine wpAny_bind (zs_next (A := A.in1) D I fp st hqx hqy hx hy fun T h' hT nT eT I' st' hk => ?_)
    have lS : S < s.heap.objs.size := Heap.lt_size gS
    have nST : S ≠ T := fun q => Nat.lt_irrefl _ (by rw [q, ← eT] at lS; exact lS)
    have gS' := hk S _ (fun q => hS (by simp only [List.mem_cons, List.not_mem_nil, or_false] at q ⊢; rcases q with r | r | r | r <;> simp [r])) gS
    have fH : ∀ c, c ≠ T → FpOk X pins H c → FpOk X pins (upd H T (.tup [x, y])) c := fun c n f => ⟨by rw [upd_ne n]; exact f.1, f.2⟩
    have fS' := fH S nST fS
    have I'' : Inv X pins σ (upd H T (.tup [x, y])) { s with heap := h'.update S (Obj.mapSeq (·.push (.ref T))) } := Inv.turnedL (s := { s with heap := h' }) (t' := s.toks) (ch := [S]) I' (fun c o hb q => (Heap.get?_update_other _ _ (fun r : S = c => hb (by simp [r]))).trans q) (fun c hc => by rw [List.mem_singleton.mp hc]; exact fS')
    show wpAny _ A.in1 (updateSeq S (·.push (.ref T)) >>= _) _ _ _
    refine wpAny_bind (wpAny_updateSeq gS' rfl (wpAny_pure ⟨plainId_quiet F.plain_extend_loop _, ?_⟩) (by omega) (by show (acc.push _).size ≤ sizeLine + 1; rw [Array.size_push]; omega))
    refine zs_loop D hS hl n (i + 1) A _ (upd H T (.tup [x, y])) (acc.push (.ref T)) _ (us ++ [.ref T]) (fun vs H' => Q' (.ref T :: vs) H') R hh (by omega) I'' (fun c hc => fH c (fun q => nT (by rw [← q]; exact hc)) (fp c hc)) fS' (st'.keep (fun c hc o q => (Heap.get?_update_other _ _ (fun r : S = c => hS (by rw [r]; exact hc))).trans q) fun _ _ e => e)
      (sqT_keep (Kp.new hT) hqx) (sqT_keep (Kp.new hT) hqy) (Heap.get?_update_self _ gS' rfl) (by rw [Array.toList_push]; exact Vals.append va (.cons rfl .nil)) (by rw [Array.size_push]; omega) (hq T hT) fun s' H' acc' c' vs I3 g3 v3 l3 q3 => ?_
    exact hR s' H' acc' c' (.ref T :: vs) I3 g3 (by simpa using v3) l3 q3
theorem nolen_zip : typeLookup (.type "zip") "__len__" = pure none := by rw [typeLookup_type, builtinLookup_eq_fast]; kernel_rfl
theorem nohint_zip : typeLookup (.type "zip") "__length_hint__" = pure none := by rw [typeLookup_type, builtinLookup_eq_fast]; kernel_rfl
theorem zs_ty (I : Inv X pins σ H s) (st : ZS H s.heap z TI TO i1 i2 a b i) : s.TypeIs (.ref z) "zip" := by
  obtain ⟨_, _, _, _, ⟨hz, _⟩ | ⟨_, _, _, hz, _⟩⟩ := st
  · exact ⟨_, hz, rfl⟩
  · exact ⟨_, hz, rfl⟩
theorem zs_collect (hz0 : IsZip s.heap z TI TO .none) (hh : A.handled = none) (D : ZipApart z TI TO i1 i2 a b) {xs ys : List V} (hl : (xs.zip ys).length ≤ sizeLine) (I : Inv X pins σ H s) (fp : ∀ c ∈ [z, TI, TO, i1, i2], FpOk X pins H c) (st : ZS H s.heap z TI TO i1 i2 a b 0) (hqx : SqT X.K H a xs) (hqy : SqT X.K H b ys)
    {Q' : List V → Hp → Prop} (hq : tZp (xs.zip ys) H Q') {Q : List Value → Shared → Prop} (hQ : ∀ (s' : Shared) (H' : Hp) (acc : List Value) (vs : List V), Inv X pins σ H' s' → Vals vs acc → acc.length ≤ sizeLine → Q' vs H' → Q acc s') : wpAny (model X.prog X.w) A (collect (.ref z)) Q E s := by
  have st0 := st
  obtain ⟨hTI, h1, h2, ⟨oTO, eTO⟩, hz⟩ := st0
  have zl : z < s.heap.objs.size := by rcases hz with ⟨hz, _⟩ | ⟨_, _, _, hz, _⟩ <;> exact Heap.lt_size hz
  have hS : s.heap.objs.size ∉ [z, TI, TO, i1, i2] := fun q => by
      simp only [List.mem_cons, List.not_mem_nil, or_false] at q
      rcases q with q | q | q | q | q
      · exact Nat.ne_of_lt zl q.symm
      · exact Nat.ne_of_lt (Heap.lt_size hTI) q.symm
      · exact Nat.ne_of_lt (Heap.lt_size eTO) q.symm
      · obtain ⟨_, e, _⟩ := h1; exact Nat.ne_of_lt (Heap.lt_size e) q.symm
      · obtain ⟨_, e, _⟩ := h2; exact Nat.ne_of_lt (Heap.lt_size e) q.symm
  unfold collect
  (refine wpAny_bind (wpAny_runValue (codeAny_builtin F.entry_proto_collect ?_)); rw [Around.under_plainId F.plain_proto_collect _]; show wpAny _ A.in1 (newList [] >>= fun l' => again (.builtin "list.__iadd__" ⟨[l', .ref z], []⟩)) _ _ s)
  (refine wpAny_bind (wpAny_newObj_type ?_); refine wpAny_pure ⟨plainId_quiet F.plain_list_iadd _, codeAny_builtin F.entry_list_iadd ?_⟩; rw [Around.under_plainId F.plain_list_iadd _])
  generalize hSa : s.heap.objs.size = S at *
  have kp : ∀ c o, s.heap.get? c = some o → (s.heap.push { cls := .type "list", data := .seq ([] : List Value).toArray }).get? c = some o := fun c o e => Heap.get?_push_of_some _ e
  have I1 : Inv X pins σ H { s with heap := s.heap.push { cls := .type "list", data := .seq ([] : List Value).toArray } } := I.kept (t' := s.toks) kp
  have gS : (s.heap.push { cls := .type "list", data := .seq ([] : List Value).toArray }).get? S = some { cls := .type "list", dict := none, data := .seq #[] 0, slots := #[] } := by rw [← hSa]; exact Heap.get?_push_size _ rfl
  have st1 : ZS H (s.heap.push { cls := .type "list", data := .seq ([] : List Value).toArray }) z TI TO i1 i2 a b 0 := st.keep (fun c _ o e => kp c o e) fun _ _ e => e
  have fS : FpOk X pins H S := I.fpOk (by rw [hSa]; exact Nat.le_refl _) (I.hok.fresh (by rw [hSa]; exact Nat.le_refl _))
  have h1 : Builtin.List.listSameRef (.ref S) (.ref z) = false := by
    have : S ≠ z := fun q => hS (by simp [q])
    simp [Builtin.List.listSameRef, this]
  generalize s.heap.push { cls := .type "list", data := .seq ([] : List Value).toArray } = hp at *
  have ty := zs_ty I1 st1
  show wpAny _ A.in1 (Builtin.List.listExtendWith (.ref S) (.ref z) (.ref S)) _ _ _
  unfold Builtin.List.listExtendWith
  (refine wpAny_bind (wpAny_typeOf ty ?_); rw [if_neg (by rw [h1]; decide)]; refine wpAny_bind (wpAny_pyIter_zip (s := { s with heap := hp }) (kp _ _ hz0) ?_); refine wpAny_bind (wpAny_holding ?_); unfold Builtin.List.listLengthHint)
  (refine wpAny_bind (wpAny_specialOf ty nolen_zip ?_); show wpAny _ A.in1 (specialOf (Value.ref z) (Str.ofString "__length_hint__") >>= _) _ _ _; refine wpAny_bind (wpAny_specialOf ty nohint_zip ?_); refine wpAny_pure ?_)
  (rw [if_pos (by rfl)]; refine wpAny_bind (wpAny_rule ?_); unfold Builtin.List.listTouch)
  refine wpAny_bind ?_
  show wpAny _ A.in1 (updateSeq S (·.push .none) >>= _) _ _ _
  refine wpAny_bind (wpAny_updateSeq gS rfl ?_)
  have gS2 := Heap.get?_update_self (Obj.mapSeq (·.push Value.none)) gS rfl
  have kp2 : ∀ c o, c ∉ [S] → hp.get? c = some o → (hp.update S (Obj.mapSeq (·.push Value.none))).get? c = some o := fun c o hb q => (Heap.get?_update_other _ _ (fun r : S = c => hb (by simp [r]))).trans q
  generalize hp.update S (Obj.mapSeq (·.push Value.none)) = hp2 at *
  show wpAny _ A.in1 (updateSeq S (·.pop)) _ _ _
  refine wpAny_updateSeq gS2 rfl ?_
  have gS3 := Heap.get?_update_self (Obj.mapSeq (·.pop)) gS2 rfl
  have kp3 : ∀ c o, c ∉ [S] → hp.get? c = some o → (hp2.update S (Obj.mapSeq (·.pop))).get? c = some o := fun c o hb q => (Heap.get?_update_other _ _ (fun r : S = c => hb (by simp [r]))).trans (kp2 c o hb q)
  generalize hp2.update S (Obj.mapSeq (·.pop)) = hp3 at *
  have I3 : Inv X pins σ H { s with heap := hp3 } := Inv.turnedL (s := { s with heap := hp }) (t' := s.toks) (ch := [S]) I1 kp3 (fun c hc => by rw [List.mem_singleton.mp hc]; exact fS)
  have st3 : ZS H hp3 z TI TO i1 i2 a b 0 := st1.keep (fun c hc o e => kp3 c o (fun q => hS (by rw [← List.mem_singleton.mp q]; exact hc)) e) fun _ _ e => e
  refine wpAny_pure ⟨plainId_quiet F.plain_extend_loop _, zs_loop D hS hl _ 0 A _ H #[] _ [] Q' _ hh (Nat.zero_add _).symm I3 fp fS st3 hqx hqy gS3 .nil rfl hq fun s' H' acc' c' vs I4 g4 v4 l4 q4 => ?_⟩
  show wpAny _ A (load S >>= _) _ _ s'
  refine wpAny_bind (wpAny_load g4 (wpAny_pure ?_))
  exact hQ s' H' acc'.toList vs I4 (by simpa using v4) (by rw [Array.length_toList]; omega) q4
theorem meetsIn_tuple_zip {prog : Program} {w : World} {z : Addr} : MeetsIn prog w (Builtin.«tuple.__new__» ⟨[.type "tuple", .ref z], []⟩)
    (fun A R s => s.TypeIs (.ref z) "zip" ∧ wpAny (model prog w) A.in1 (collect (.ref z)) (fun acc s' => acc.length ≤ sizeLine ∧ R (.ok (.ret (.ref s'.heap.objs.size))) { s' with heap := s'.heap.push { cls := .type "tuple", data := .seq acc.toArray } }) (fun _ _ => False) s) :=
  .of_wp fun A R s h => by
    obtain ⟨hT, h⟩ := h
    have hsub := sub_tuple_self
    have hinit := init_tuple_lookup
    have hmh := madeHere_tuple
    have hC : ∀ {Q : List Value → Shared → Prop} {E : Value → Shared → Prop}, (∀ acc s', acc.length ≤ sizeLine ∧ R (.ok (.ret (.ref s'.heap.objs.size))) { s' with heap := s'.heap.push { cls := .type "tuple", data := .seq acc.toArray } } → Q acc s') → wpAny (model prog w) A.in1 (collect (.ref z)) Q E s := fun k => wpAny_mono h k fun _ _ q => q.elim
    obtain ⟨o, ho, hc⟩ := id hT
    wp_walk using AutoSeq1.wpAny_loadPart' ho, wpAny_typeOf hT, hC
    intro acc s' q
    obtain ⟨q1, q2⟩ := q
    show wpAny _ _ (Builtin.Tuple.tupleExact acc.toArray >>= fun v => ret v) _ _ _
    unfold Builtin.Tuple.tupleExact
    exact wpAny_bind (wpAny_newObj_type (wpAny_pure ⟨_, rfl, q2⟩) (by show acc.toArray.size ≤ sizeLine; simpa using q1))
section
variable {X : Cx} {Γ : Gam} {W : WX} {σ : L2.St} {H : Hp} {K : PySem.W.Frag} {p1 p2 pos pos2 : Pos} {e e2 : Expr}
/-- tuple(zip(t, u)) of tuples -/
def tTz (K : PySem.W.Frag) (ta : TA) : TE := fun σ H Q => ta σ H fun vs H1 => ∃ a b xs ys, vs = [.ref a, .ref b] ∧ SqT K H1 a xs ∧ SqT K H1 b ys ∧ tZp (xs.zip ys) H1 fun us H2 => ∀ l, H2 l = none → Q (.ref l) (upd H2 l (.tup us))
theorem pe_tz {ta : TA} (hc : X.calm = true) (hg : Gl X "tuple") (hm : X.mg "tuple" = none) (hg2 : Gl X "zip") (hm2 : X.mg "zip" = none) (ha : PA X [e, e2] ta)
    (hs : starEach [e, e2] X.env = (false, eval e X.env) :: starEach [e2] X.env := by rfl) (hpl : (backTo pos2 (starEach [e2] X.env)).any (·.1) = false := by rfl)
    (hs2 : starEach [.Call (.Name "zip" p2) [e, e2] [] pos2] X.env = (false, eval (.Call (.Name "zip" p2) [e, e2] [] pos2) X.env) :: starEach [] X.env := by rfl) (hpl2 : (backTo pos (starEach [] X.env)).any (·.1) = false := by rfl) :
    PE X (.Call (.Name "tuple" p1) [.Call (.Name "zip" p2) [e, e2] [] pos2] [] pos) (tTz X.K ta) := by
  refine ⟨fun pins s σ H Q I h => ?_⟩
  refine Call_ (ld_blt I hg hm PyProof.Rows.boot_tuple (PyProof.Rows.callWith_type1 ?_ hs2 hpl2))
  rw [hs2]
  show wpAny _ _ (spliced ((false, eval (.Call (.Name "zip" p2) [e, e2] [] pos2) X.env) :: backTo pos (starEach [] X.env))) _ _ s
  refine Calls.spliced_cons (Call_ (ld_blt I hg2 hm2 PyProof.Rows.boot_zip (PyProof.Rows.callWith_type1 (thn (ha.run pos2 pins s σ H _ I h) fun us s1 ⟨vs, H1, I1, r1, q1⟩ => ?_) hs hpl)))
  obtain ⟨a, b, xs, ys, rfl, hqx, hqy, hz⟩ := q1
  cases r1 with
  | cons r rr => cases rr with
    | cons r' rr =>
      cases rr
      cases r
      cases r'
      obtain ⟨its, rv, pa, la⟩ := I1.tuple hqx
      obtain ⟨its2, rv2, pb, lb⟩ := I1.tuple hqy
      obtain ⟨o1, ho1, _⟩ := id pa
      obtain ⟨o2, ho2, _⟩ := id pb
      refine RZ.call_zipT (show s1.heap.IsTuple a its.toArray from pa) (show s1.heap.IsTuple b its2.toArray from pb) fun h' z0 hTI hTO h1 h2 hsz hk => ?_
      have I2 : Inv X pins σ H1 { s1 with heap := h' } := I1.kept (t' := s1.toks) hk
      have D := PySem.W.ktu_apart s1.heap.objs.size a b (Heap.lt_size ho1) (Heap.lt_size ho2)
      have fp : ∀ c ∈ [s1.heap.objs.size + 4, s1.heap.objs.size + 2, s1.heap.objs.size + 3, s1.heap.objs.size, s1.heap.objs.size + 1], FpOk X pins H1 c := fun c hcm => by
        have hle : s1.heap.objs.size ≤ c := by
          simp only [List.mem_cons, List.not_mem_nil, or_false] at hcm
          rcases hcm with q | q | q | q | q <;> rw [q] <;> first | exact Nat.le_add_right _ _ | exact Nat.le_refl _
        exact I1.fpOk hle (I1.hok.fresh hle)
      have st : ZS H1 h' (s1.heap.objs.size + 4) (s1.heap.objs.size + 2) (s1.heap.objs.size + 3) s1.heap.objs.size (s1.heap.objs.size + 1) a b 0 := ⟨hTI, h1, h2, ⟨_, hTO⟩, .inl ⟨z0, _, _, hTO⟩⟩
      have hl : (xs.zip ys).length ≤ sizeLine := by rw [List.length_zip]; omega
      show wpAny _ _ (spliced (backTo pos (starEach [] X.env))) _ _ _
      refine PyProof.Rows.spliced_none ?_
      refine callType_newIn F.called_tuple (by decide) (F.typeCall_tuple_1 _) (F.newCall_tuple_1 _) (fun obj => F.args_object_init_2 obj _) F.entry_tuple_new meetsIn_tuple_zip ⟨zs_ty I2 st, ?_⟩
      refine zs_collect (A := X.A.in1.in1) (s := { s1 with heap := h' }) z0 (show X.A.in1.in1.handled = none from I2.ok.hd hc) D hl I2 fp st hqx hqy hz fun s' H' acc ws I3 v3 l3 q3 => ⟨l3, ⟨_, Heap.get?_push_size _ rfl, rfl⟩, ?_⟩
      have lw : ws.length ≤ sizeLine := by rw [v3.length]; exact l3
      have I4 : Inv X pins σ (upd H' s'.heap.objs.size (.tup ws)) { s' with heap := s'.heap.push { cls := .type "tuple", data := .seq acc.toArray } } :=
        I3.laid (t' := s'.toks) (fun b o e => Heap.get?_push_of_some _ e) (Nat.le_refl _) (show ObjOk X.prog X.w _ _ _ (.tup ws) from ⟨lw, acc, v3, IsTup.new _ _⟩)
      exact ⟨.ref s'.heap.objs.size, _, I4, rfl, q3 _ (I3.hok.fresh (Nat.le_refl _))⟩
/-- zip of plain tuples -/
def zipP : List AV → List AV → List AV
  | x :: xs, y :: ys => .tup [x, y] :: zipP xs ys
  | _, _ => []
def fTz : List AV → Option AV
  | [.tup xs, .tup ys] => some (.tup (zipP xs ys))
  | _ => none
def eTz (ma : M (List AV)) : M AV := fun st => (ma st).bind fun ds s1 => ofO (fTz ds) s1
theorem tz_rl {st : Ss} {p : Pd} {m ar am ao ab : List Addr} : ∀ (us us' : List V) (xs ys : List AV) (av : List V) (ax : List AV) (H : Hp) (Q : List V → Hp → Prop), Rl K Γ σ H st p m ar am ao ab → Rp K H (wOf Γ ar am ao) m us xs [] → Rp K H (wOf Γ ar am ao) m us' ys [] → Rp K H (wOf Γ ar am ao) m av ax [] →
    (∀ vs H2, Rl K Γ σ H2 st p m ar am ao ab → Rp K H2 (wOf Γ ar am ao) m (av ++ vs) (ax ++ zipP xs ys) [] → Q vs H2) → tZp (us.zip us') H Q
  | u :: us, w :: us', xs, ys, av, ax, H, Q, R, r1, r2, ra, h => by
    cases xs with
    | nil => cases r1.nil_inv.1
    | cons x xs =>
      cases ys with
      | nil => cases r2.nil_inv.1
      | cons y ys =>
        obtain ⟨a1, a2⟩ := r1.head0
        obtain ⟨b1, b2⟩ := r2.head0
        intro T hT
        have kp : ∀ {vs : List V} {zs : List AV}, Rp K H (wOf Γ ar am ao) m vs zs [] → Rp K (upd H T (.tup [u, w])) (wOf Γ ar am ao) m vs zs [] := fun r => r.keep (Kp.new hT) (fun _ z => nomatch z) (fun _ _ n => n) (fun _ _ e => e) (fun _ z => nomatch z)
        have new : Rp K (upd H T (.tup [u, w])) (wOf Γ ar am ao) m [.ref T] [.tup [x, y]] [] := .tup (SqT.of upd_same) ((kp a1).cons0 (kp b1)) .nil
        refine tz_rl us us' xs ys (av ++ [.ref T]) (ax ++ [.tup [x, y]]) _ _ (R.up hT (.tup [u, w])) (kp a2) (kp b2) ((kp ra).app new) fun vs H2 R2 q => ?_
        exact h (.ref T :: vs) H2 R2 (by simpa [zipP] using q)
  | [], us', xs, ys, av, ax, H, Q, R, r1, r2, ra, h => by
    obtain ⟨rfl, _⟩ := r1.nil_inv'
    exact h [] H R (by simpa [zipP] using ra)
  | u :: us, [], xs, ys, av, ax, H, Q, R, r1, r2, ra, h => by
    obtain ⟨rfl, _⟩ := r2.nil_inv'
    have e : zipP xs [] = [] := by cases xs <;> rfl
    exact h [] H R (by simpa [e] using ra)
theorem s_tz {ma : M (List AV)} (hc : X.calm = true) (hg : Gl X "tuple") (hm : X.mg "tuple" = none) (hg2 : Gl X "zip") (hm2 : X.mg "zip" = none) (ha : PA X [e, e2] (rdA X.K Γ W ma))
    (hs : starEach [e, e2] X.env = (false, eval e X.env) :: starEach [e2] X.env := by rfl) (hpl : (backTo pos2 (starEach [e2] X.env)).any (·.1) = false := by rfl)
    (hs2 : starEach [.Call (.Name "zip" p2) [e, e2] [] pos2] X.env = (false, eval (.Call (.Name "zip" p2) [e, e2] [] pos2) X.env) :: starEach [] X.env := by rfl) (hpl2 : (backTo pos (starEach [] X.env)).any (·.1) = false := by rfl) :
    PE X (.Call (.Name "tuple" p1) [.Call (.Name "zip" p2) [e, e2] [] pos2] [] pos) (rdE X.K Γ W (eTz ma)) := by
  refine pe_imp (pe_tz hc hg hm hg2 hm2 ha hs hpl hs2 hpl2) fun σ H Q h => ?_
  obtain ⟨st, p, R0, h⟩ := h
  refine ⟨st, p, R0, ?_⟩
  unfold eTz at h
  cases ea : ma st with
  | bad => rw [ea] at h; exact h
  | err c s1 => rw [ea] at h; exact h
  | ok xs s1 =>
    rw [ea] at h
    simp only [Res.bind_ok] at h
    intro vs H1 hl R1
    obtain ⟨m, ar, am, ao, ab, R2, r⟩ := Rel.args (p := p.nob) hl R1
    cases e : fTz xs with
    | none => rw [e] at h; exact h.elim
    | some d =>
      rw [e] at h
      unfold fTz at e
      split at e
      · rename_i xs ys
        cases e
        obtain ⟨v, w', a1, a2, rfl, r1, r2⟩ := r.twoL
        obtain ⟨a, us, rfl, h1, q1⟩ := r1.tup_i
        obtain ⟨b, us', rfl, h2, q2⟩ := r2.tup_i
        refine ⟨a, b, us, us', rfl, h1, h2, tz_rl us us' xs ys [] [] H1 _ R2 q1 q2 .nil fun ws H2 R3 q => ?_⟩
        intro l hl2
        exact h _ _ (R3.tup hl2 (by simpa using q)).rel
      · cases e
end
end
end Fk
/-! ## a, *b = l of a list -/
namespace Fk
open PySem PySem.Spec PyProof.Rows L2 PySem.W
section
variable {prog : Program} {w : World} {A : Around} {E : Value → Shared → Prop} {s : Shared}
theorem unpackItems_starL {t : Addr} {x : Value} {rest : List Value} {Q : List Value → Shared → Prop} (hh : A.handled = none) (ht : s.heap.IsList t (x :: rest).toArray) (hn : rest.length + 1 ≤ sizeLine)
    (hQ : ∀ (h' : Heap) (tk : Nat), (∀ b o, s.heap.get? b = some o → h'.get? b = some o) → Q [x, .ref h'.objs.size] { s with heap := h'.push { cls := .type "list", data := .seq rest.toArray }, toks := tk }) : wpAny (model prog w) A (unpackItems (.ref t) 2 (some 1)) Q E s := by
  have hlt : t ≠ s.heap.objs.size := by obtain ⟨o, ho, _⟩ := ht; exact Nat.ne_of_lt (Heap.lt_size ho)
  (unfold unpackItems; refine wpAny_bind ?_; unfold notIterableAtAll; refine wpAny_bind (wpAny_specialOf ht.typeIs slot_list_iter.lookup ?_); refine wpAny_pure ?_; simp only [Bool.false_eq_true, if_false])
  refine wpAny_bind (wpAny_holding (wpAny_pyIter_list ht ?_))
  refine wpAny_bind (wpAny_holding (kun_draw hlt 1 0 _ _ ⟨_, Heap.get?_push_size _ rfl, rfl, rfl⟩ (ht.push _) (by simp) fun ha ia sa => ?_))
  have hall : List.take 1 (List.drop 0 (x :: rest).toArray.toList) = [x] := by simp
  rw [hall, if_neg (by simp)]
  have la : ha.IsList t (x :: rest).toArray := (ht.push _).extBut sa.extBut hlt
  rw [Nat.zero_add] at ia
  obtain ⟨oi, hoi, _⟩ := id ia
  obtain ⟨ol, hol, _⟩ := id la
  refine wpAny_bind (wpAny_holding (kun_collect (s := { s with heap := ha }) (T := "list_iterator") (.inr (.inr (.inl rfl))) (Walks.list (A := A.in1) hh s.heap.objs.size t hlt (x :: rest).toArray) (fun j u st => st.1.typeIs) (k := 1) (by simp) ⟨ia, la⟩ (Heap.lt_size hoi) (Heap.lt_size hol) (fun hb tk kb => ?_) (by simpa using hn)))
  have ea : (x :: rest).toArray.toList.drop 1 = rest := by simp
  rw [ea, if_neg (by omega)]
  have e1 : List.take (rest.length - (2 - 1 - 1)) rest = rest := by simp
  have e2 : List.drop (rest.length - (2 - 1 - 1)) rest = [] := by simp
  rw [e1, e2]
  refine wpAny_bind (wpAny_newObj_type (wpAny_pure ?_) (by show rest.toArray.size ≤ sizeLine; rw [List.size_toArray]; omega))
  exact hQ hb tk fun b o e => kb b o (Nat.ne_of_lt (Heap.lt_size e)) (sa.extBut b o (Nat.ne_of_lt (Heap.lt_size e)) (Heap.get?_push_of_some _ e))
theorem assign_starL {env : Env} {elts : List Expr} {x1} {pos : Pos} {t : Addr} {x : Value} {rest : List Value} {Q : Unit → Shared → Prop} (hh : A.handled = none) (ht : s.heap.IsList t (x :: rest).toArray) (hz : rest.length + 1 ≤ sizeLine)
    (hn : (assignEach elts env).length = 2) (hstar : (assignEach elts env).findIdx? (·.1) = some 1)
    (h : ∀ (h' : Heap) (tk : Nat), (∀ b o, s.heap.get? b = some o → h'.get? b = some o) → wpAny (model prog w) A (assignInOrder ((assignEach elts env).map (·.2)) [x, .ref h'.objs.size]) Q E { s with heap := h'.push { cls := .type "list", data := .seq rest.toArray }, toks := tk }) :
    wpAny (model prog w) A (assign (.Tuple elts x1 pos) env (.ref t)) Q E s := by
  rw [assign_Tuple]
  refine wpAny_bind (wpAny_standAt ?_)
  unfold unpack
  rw [hn, hstar]
  exact wpAny_bind (wpAny_holding (unpackItems_starL hh ht hz h))
end
section
variable {X : Cx} {Γ : Gam} {W : WX} {pos : Pos}
def gStarL (K : PySem.W.Frag) (t : TGs) : TG := fun v σ H Q => ∃ a x xs, v = .ref a ∧ SqL K H a (x :: xs) ∧ ∀ p, H p = none → t [x, .ref p] σ (upd H p (.lst xs)) Q
theorem pg_starL {es : List Expr} {k : Nat} {t : TGs} (hc : X.calm = true) (h : PGs X es t)
    (hn : (assignEach es X.env).length = 2 := by rfl) (hst : (assignEach es X.env).findIdx? (·.1) = some 1 := by rfl) : PG X (.Tuple es k pos) (gStarL X.K t) := by
  refine ⟨fun pins s σ H v u Q I r hw => ?_⟩
  obtain ⟨a, x, xs, e1, hq, hw⟩ := hw
  subst e1
  cases r
  obtain ⟨its, rv, ht, hz⟩ := I.list hq
  cases rv with
  | cons rx rxs =>
    rename_i y ys
    have hl : xs.length = ys.length := rxs.length
    refine assign_starL (I.ok.hd hc) ht.isList (by simp at hz; omega) hn hst fun h' tk hk => ?_
    have I0 : Inv X pins σ H { s with heap := h', toks := tk } := I.kept hk
    have hf : H h'.objs.size = none := I0.hok.fresh (Nat.le_refl _)
    have I1 : Inv X pins σ (upd H h'.objs.size (.lst xs)) { s with heap := h'.push { cls := .type "list", data := .seq ys.toArray }, toks := tk } :=
      I0.laid (t' := tk) (fun b o e => Heap.get?_push_of_some _ e) (Nat.le_refl _) ⟨by simp at hz; omega, ys, 0, rxs, Heap.get?_push_size _ rfl⟩
    exact h.run pins _ σ _ [x, .ref h'.objs.size] _ Q I1 (.cons rx (.cons rfl .nil)) (hw _ hf)
/-- the first, and a list of the rest, of a tuple or a list -/
def gSu (i j : Nat) : Tg := fun d st => match d with
  | .tup (x :: xs) => some ⟨setSl (setSl st.r i (.im x)) j (.im (.lst false xs)), st.s⟩
  | .lst _ (x :: xs) => some ⟨setSl (setSl st.r i (.im x)) j (.im (.lst false xs)), st.s⟩
  | _ => none
theorem gsu_core {K : PySem.W.Frag} {σ : L2.St} {H : Hp} {i j : Nat} {st : Ss} {p : Pd} {m ar am ao ab : List Addr} {u z : V} {x : AV} {us : List V} {zs : List AV} {Q : L2.St → Hp → Prop} (R0 : Rl K Γ σ H st p m ar am ao ab) (q1 : Rp K H (wOf Γ ar am ao) m [u] [x] []) (q2 : Rp K H (wOf Γ ar am ao) m us zs []) {l : Addr} (hl : H l = none)
    (h : ∀ σ' H', wipe σ' [i, j] = wipe σ [i, j] → Rel K Γ σ' H' ⟨setSl (setSl st.r i (.im x)) j (.im (.lst false zs)), st.s⟩ p → Q σ' H') : Q ((σ.set i (some u)).set j (some (.ref l))) (upd H l (.lst us)) := by
  have R1 := R0.lst hl q2
  have q3 := q1.keep (Kp.new (o := .lst us) hl) (fun _ z => nomatch z) (fun _ _ n => n) (fun _ _ e => e) (fun _ z => nomatch z)
  have R2 : Rel K Γ σ (upd H l (.lst us)) st ((p.sh (.ref l) (.lst false zs)).sh u x) := ⟨m, ar, am, ao, ab, R1.setI (q3.cons0 R1.ri)⟩
  refine h _ _ ?_ ((R2.put i).put j)
  have w1 : wipe (σ.set i (some u)) [i, j] = wipe σ [i, j] := wipe_sub (wipe_set (σ := σ) (i := i) (o := some u)) (by simp)
  have w2 : wipe ((σ.set i (some u)).set j (some (.ref l))) [i, j] = wipe (σ.set i (some u)) [i, j] := wipe_sub (wipe_set (σ := σ.set i (some u)) (i := j) (o := some (.ref l))) (by simp)
  exact w2.trans w1
theorem s_gsu {i j : Nat} {x y : Str} {px py pp : Pos} {k : Nat} (hc : X.calm = true) (hN : X.N.Nodup) (hi : X.N[i]? = some x) (hj : X.N[j]? = some y) (hx : Loc X.env.scope x) (hy : Loc X.env.scope y)
    (hf : X.fn x = true ∨ X.env.scope.names.lookup x = some .local := by first | exact .inl rfl | exact .inr rfl | assumption) (hf2 : X.fn y = true ∨ X.env.scope.names.lookup y = some .local := by first | exact .inl rfl | exact .inr rfl | assumption)
    (he : (assignEach [.Name x px, .Starred (.Name y py) pp] X.env).map (·.2) = (assignEach [.Name x px, .Name y py] X.env).map (·.2) := by rfl)
    (g1 : (assignEach [.Name x px, .Name y py] X.env).map (·.2) = assign (.Name x px) X.env :: (assignEach [.Name y py] X.env).map (·.2) := by rfl)
    (g2 : (assignEach [.Name y py] X.env).map (·.2) = assign (.Name y py) X.env :: (assignEach [] X.env).map (·.2) := by rfl)
    (hn : (assignEach [.Name x px, .Starred (.Name y py) pp] X.env).length = 2 := by rfl) (hst : (assignEach [.Name x px, .Starred (.Name y py) pp] X.env).findIdx? (·.1) = some 1 := by rfl) :
    PG X (.Tuple [.Name x px, .Starred (.Name y py) pp] k pos) (rdG X.K Γ [i, j] (gSu i j)) := by
  have base := pgs_star (pgs_cons (pg_name hN hi hx hf) (pgs_cons (pg_name hN hj hy hf2) pgs_nil g2) g1) he
  refine pg_imp (pg_or (pg_star hc base hn hst) (pg_starL hc base hn hst)) fun v σ H Q h => ?_
  obtain ⟨st, p, d, st', R, e, h⟩ := h
  unfold gSu at e
  split at e
  · rename_i z zs
    cases e
    obtain ⟨m, ar, am, ao, ab, R0, r⟩ := R.one
    obtain ⟨a, us, rfl, hs, q⟩ := r.tup_i
    cases us with
    | nil => have := q.len; simp at this
    | cons u us =>
      obtain ⟨q1, q2⟩ := q.head0
      exact .inl ⟨a, u, us, rfl, hs, fun l hl => ⟨u, [.ref l], rfl, .ref l, [], rfl, rfl, gsu_core (z := u) R0 q1 q2 hl h⟩⟩
  · rename_i o z zs
    cases e
    obtain ⟨m, ar, am, ao, ab, R0, r⟩ := R.one
    obtain ⟨a, us, rfl, hs, q⟩ := r.lst_i
    cases us with
    | nil => have := q.len; simp at this
    | cons u us =>
      obtain ⟨q1, q2⟩ := q.head0
      exact .inr ⟨a, u, us, rfl, SqL.of hs, fun l hl => ⟨u, [.ref l], rfl, .ref l, [], rfl, rfl, gsu_core (z := u) R0 q1 q2 hl h⟩⟩
  · cases e
end
end Fk
namespace Fk
open PySem PySem.Spec PyProof.Rows L2
/-! ### mirrors -/
def excU : List Str := ["FlashError", "NoWidth", "NoNumber", "NoWord", "NoFields", "NoWeather", "NoBlock", "NoPage", "NoPlan", "NoFlash", "NoOrder", "NoOrders", "NoPlace", "NoPaper", "NoText", "NoLine", "Off", "Written", "Bad", "Spoilt", "NoRoom", "Worn", "Over"]
def m_is_whole : Fn := fnM 0 ((sRet (eAnd (eIsi "int" (eVar 0)) (e1 oNot (eIsi "bool" (eVar 0))))))
def m_is_within : Fn := fnM 0 ((sRet (eAnd (eCall 1 m_is_whole [] (aCons (eVar 0) aNil)) (eChn oLe oLe (eVar 1) (eVar 0) (eVar 2)))))
def m_rises : Fn := fnM 2 ((sRet (eB fAll (aCons (eLc false (lcM (iArg zipA (aCons (eVar 0) (aCons (eSl (eVar 0) (some (eC (.int 1))) none) aNil))) (gT 2 (gCons' (gN 1) (gCons' (gN 2) gNil'))) tTrue (e2P oLt (pVar 1) (pVar 2)) [1, 2])) aNil))))
def m_is_fault : Fn := fnM 0 ((sSeq (sIf (tOrM (tOf (e2P oEq (pVar 0) (pC (.tup [.str "cut"])))) (tOf (e2P oEq (pVar 0) (pC (.tup [.str "bad"]))))) (sRet (eC (.bl true))) sNx)
    (sSeq (sIf (tOrM (tNotM (tOf (eIsi "tuple" (eVar 0)))) (tOrM (tOf (e2 oNe (eBP fLen (pCons (pVar 0) pNil)) (eC (.int 2)))) (tOrM (tNotM (tOf (eIsi "str" (eP (pIx (pVar 0) (pC (.int 0))))))) (tOf (e2P oNe (pIx (pVar 0) (pC (.int 0))) (pC (.str "bit"))))))) (sRet (eC (.bl false))) sNx)
    (sRet (eCall 3 m_is_within [] (aCons (eP (pIx (pVar 0) (pC (.int 1)))) (aCons (eC (.int 0)) (aCons (e2 oSub (eC (.int 47)) (eC (.int 1))) aNil))))))))
def m_is_weather : Fn := fnM 3 ((sSeq (sIf (tOrM (tNotM (tOf (eIsi "tuple" (eVar 0)))) (tOf (e2 oGt (eBP fLen (pCons (pVar 0) pNil)) (eC (.int 40))))) (sRet (eC (.bl false))) sNx)
    (sSeq (sIf (tNotM (tOf (eB fAll (aCons (eLc false (lcM (iOf (eVar 0)) (gN 1) tTrue (eAnd (eIsi "tuple" (eVar 1)) (e2 oEq (eBP fLen (pCons (pVar 1) pNil)) (eC (.int 2)))) [1])) aNil)))) (sRet (eC (.bl false))) sNx)
    (sSeq (sIf (tNotM (tOf (eB fAll (aCons (eLc false (lcM (iOf (eVar 0)) (gT 2 (gCons' (gN 2) (gCons' (gN 3) gNil'))) tTrue (eAnd (eCall 3 m_is_within [] (aCons (eVar 2) (aCons (eC (.int 0)) (aCons (eC (.int 9999)) aNil)))) (eCall 1 m_is_fault [] (aCons (eVar 3) aNil))) [2, 3])) aNil)))) (sRet (eC (.bl false))) sNx)
    (sRet (eCall 1 m_rises [] (aCons (eLc false (lcM (iOf (eVar 0)) (gT 2 (gCons' (gN 2) (gCons' (gN 3) gNil'))) tTrue (eVar 2) [2, 3])) aNil)))))))
def m_need_weather : Fn := fnM 0 ((sIf (tNotM (tOf (eCall 1 m_is_weather [] (aCons (eVar 0) aNil)))) (sRaise "NoWeather") sNx))
def m_is_place : Fn := fnM 0 ((sRet (eCall 3 m_is_within [] (aCons (eVar 0) (aCons (eC (.int 0)) (aCons (eC (.int 15)) aNil))))))
def m_is_row : Fn := fnM 0 ((sSeq (sIf (tOrM (tNotM (tOf (eIsi "tuple" (eVar 0)))) (tOf (e2 oNe (eBP fLen (pCons (pVar 0) pNil)) (eC (.int 2))))) (sRet (eC (.bl false))) sNx)
    (sRet (eAnd (eCall 1 m_is_place [] (aCons (eP (pIx (pVar 0) (pC (.int 0)))) aNil)) (eCall 3 m_is_within [] (aCons (eP (pIx (pVar 0) (pC (.int 1)))) (aCons (eC (.int 0)) (aCons (eC (.int 63)) aNil))))))))
def m_are_rows : Fn := fnM 3 ((sSeq (sIf (tOrM (tNotM (tOf (eIsi "tuple" (eVar 0)))) (tOrM (tNotM (tOf (eChn oLe oLe (eC (.int 1)) (eBP fLen (pCons (pVar 0) pNil)) (eC (.int 4))))) (tNotM (tOf (eB fAll (aCons (eLc false (lcM (iOf (eVar 0)) (gN 1) tTrue (eCall 1 m_is_row [] (aCons (eVar 1) aNil)) [1])) aNil)))))) (sRet (eC (.bl false))) sNx)
    (sRet (e2 oEq (eLenS (eSc (iOf (eVar 0)) (gT 2 (gCons' (gN 2) (gCons' (gN 3) gNil'))) tTrue (eVar 2) [2, 3])) (eBP fLen (pCons (pVar 0) pNil))))))
def m_has_shape : Fn := fnM 2 ((sSeq (sIf (tOrM (tNotM (tOf (eIsi "tuple" (eVar 0)))) (tOrM (tOf (e2 oEq (eVar 0) (eTup aNil))) (tNotM (tOf (eIsi "str" (eP (pIx (pVar 0) (pC (.int 0))))))))) (sRet (eC (.bl false))) sNx)
    (sSeq (sAsgG (gSt 1 2) (eVar 0))
    (sSeq (sIf (tOf (e2P oEq (pVar 1) (pC (.str "mend")))) (sRet (e2 oEq (eVar 2) (eLst aNil))) sNx)
    (sSeq (sIf (tOf (e2P oEq (pVar 1) (pC (.str "write")))) (sRet (eCall 1 m_is_row [] (aCons (eSl (eVar 0) (some (eC (.int 1))) none) aNil))) sNx)
    (sSeq (sIf (tOf (e2 oNe (eBP fLen (pCons (pVar 2) pNil)) (eC (.int 1)))) (sRet (eC (.bl false))) sNx)
    (sSeq (sIf (tOf (e2P oEq (pVar 1) (pC (.str "group")))) (sRet (eCall 1 m_are_rows [] (aCons (eP (pIx (pVar 2) (pC (.int 0)))) aNil))) sNx)
    (sRet (eAnd (e2 oIn (eVar 1) (eTup (aCons (eC (.str "read")) (aCons (eC (.str "trim")) aNil)))) (eCall 1 m_is_place [] (aCons (eP (pIx (pVar 2) (pC (.int 0)))) aNil)))))))))))
def m_written : Fn := fnM 4 ((sSeq (sAsgG (gSt 1 2) (eVar 0))
    (sSeq (sIf (tOf (e2P oEq (pVar 1) (pC (.str "group")))) (sAsg 2 (eLc false (lc2M (iOf (eP (pIx (pVar 2) (pC (.int 0))))) (gN 3) (iOf (eVar 3)) (gN 4) (eVar 4) [3, 4] [4]))) sNx)
    (sRet (eM1 jnA (eC (.str " ")) (e2 oAdd (eLst (aCons (eVar 1) aNil)) (eLc false (lcM (iOf (eVar 2)) (gN 4) tTrue (eB fStr (aCons (eVar 4) aNil)) [4]))))))))
def m_order_text : Fn := fnM 0 ((sSeq (sIf (tNotM (tOf (eCall 1 m_has_shape [] (aCons (eVar 0) aNil)))) (sRaise "NoOrder") sNx)
    (sRet (eCall 1 m_written [] (aCons (eVar 0) aNil)))))
def m_weather_text : Fn := fnM 5 ((sSeq (sExp (eCall 1 m_need_weather [] (aCons (eVar 0) aNil)))
    (sSeq (sAsgOw 1 (eLstO aNil))
    (sSeq (sFor (iOf (eVar 0)) (gT 2 (gCons' (gN 2) (gCons' (gSt 3 4) gNil'))) (sExp (eApp 1 (e2 oAdd (eJs [(e1 fmA (eVar 2)), (e1 fmA (eC (.str ":"))), (e1 fmA (eVar 3))] Str.empty) (eM1 jnA (eC (.str "")) (eLc false (lcM (iOf (eVar 4)) (gN 5) tTrue (eB fStr (aCons (eVar 5) aNil)) [5])))))))
    (sRet (eOrS (eM1 jnA (eC (.str " ")) (eVar 1)) (eC (.str "-"))))))))
def m_number_in : Fn := fnM 1 ((sSeq (sIf (tOrM (tNotM (tOf (eChn oLe oLe (eC (.int 1)) (eBP fLen (pCons (pVar 0) pNil)) (eC (.int 9))))) (tNotM (tOf (eB fAll (aCons (eLc false (lcM (iOfS (eVar 0)) (gN 1) tTrue (e2P oInS (pVar 1) (pC (.str "0123456789"))) [1])) aNil))))) (sRet (eC .non)) sNx)
    (sRet (eIf (tOrM (tOf (e2P oNe (pIx (pVar 0) (pC (.int 0))) (pC (.str "0")))) (tOf (e2P oEq (pVar 0) (pC (.str "0"))))) (eB fIntS (aCons (eVar 0) aNil)) (eC .non)))))
def m_numbers_in : Fn := fnM 2 ((sSeq (sAsg 1 (eLc false (lcM (iOf (eVar 0)) (gN 2) tTrue (eCall 1 m_number_in [] (aCons (eVar 2) aNil)) [2])))
    (sRet (eIf (tOf (e2P oIn (pC .non) (pVar 1))) (eC .non) (eBP fTup (pCons (pVar 1) pNil))))))
def m_order_in : Fn := fnM 4 ((sSeq (sAsgG (gSu 1 2) (eM1 spA (eVar 0) (eC (.str " "))))
    (sSeq (sAsg 3 (eCall 1 m_numbers_in [] (aCons (eVar 2) aNil)))
    (sSeq (sIf (tOf (e2P oIs (pVar 3) (pC .non))) (sRet (eC .non)) sNx)
    (sSeq (sAsg 4 (e2 oAdd (eTup (aCons (eVar 1) aNil)) (eVar 3)))
    (sSeq (sIf (tOf (e2P oEq (pVar 1) (pC (.str "group")))) (sAsg 4 (eIf (tOf (e2 oEq (e2 oMod (eBP fLen (pCons (pVar 3) pNil)) (eC (.int 2))) (eC (.int 0)))) (eTup (aCons (eVar 1) (aCons (eTz (aCons (e1 (stpA 0) (eVar 3)) (aCons (e1 (stpA 1) (eVar 3)) aNil))) aNil))) (eTup aNil))) sNx)
    (sRet (eIf (tOf (eCall 1 m_has_shape [] (aCons (eVar 4) aNil))) (eVar 4) (eC .non)))))))))
def m_fault_in : Fn := fnM 5 ((sSeq (sAsgG (gT 3 (gCons' (gN 1) (gCons' (gN 2) (gCons' (gN 3) gNil')))) (eM1 ptA (eVar 0) (eC (.str ":"))))
    (sSeq (sAsg 4 (eCall 1 m_number_in [] (aCons (eVar 1) aNil)))
    (sSeq (sIf (tOrM (tOf (e2P oIs (pVar 4) (pC .non))) (tOf (e2P oEq (pVar 2) (pC (.str ""))))) (sRet (eC .non)) sNx)
    (sSeq (sIf (tOf (e2 oIn (eVar 3) (eTup (aCons (eC (.str "cut")) (aCons (eC (.str "bad")) aNil))))) (sRet (eTup (aCons (eVar 4) (aCons (eTup (aCons (eVar 3) aNil)) aNil)))) sNx)
    (sSeq (sAsg 5 (eIf (tOf (eM1 swA (eVar 3) (eC (.str "bit")))) (eCall 1 m_number_in [] (aCons (eSl (eVar 3) (some (eBP fLen (pCons (pC (.str "bit")) pNil))) none) aNil)) (eC .non)))
    (sRet (eIf (tOf (e2P oIs (pVar 5) (pC .non))) (eC .non) (eTup (aCons (eVar 4) (aCons (eTup (aCons (eC (.str "bit")) (aCons (eVar 5) aNil))) aNil)))))))))))
def m_read_order : Fn := fnM 1 ((sSeq (sAsg 1 (eIf (tOf (eIsi "str" (eVar 0))) (eCall 1 m_order_in [] (aCons (eVar 0) aNil)) (eC .non)))
    (sSeq (sIf (tOf (e2P oIs (pVar 1) (pC .non))) (sRaise "NoText") sNx)
    (sRet (eVar 1)))))
def m_read_weather : Fn := fnM 2 ((sSeq (sIf (tNotM (tOf (eIsi "str" (eVar 0)))) (sRaise "NoText") sNx)
    (sSeq (sAsg 1 (eIf (tOf (e2P oNe (pVar 0) (pC (.str "-")))) (eB fTup (aCons (eLc false (lcM (iOf (eM1 spA (eVar 0) (eC (.str " ")))) (gN 2) tTrue (eCall 1 m_fault_in [] (aCons (eVar 2) aNil)) [2])) aNil)) (eTup aNil)))
    (sSeq (sIf (tOrM (tOf (e2P oIn (pC .non) (pVar 1))) (tNotM (tOf (eCall 1 m_is_weather [] (aCons (eVar 1) aNil))))) (sRaise "NoText") sNx)
    (sRet (eVar 1))))))
def m__law_cell_at : Fn := fnM 0 ((sSeq (sIf (tOf (e2 oLt (eVar 1) (eBP fLen (pCons (pVar 0) pNil)))) (sRet (eP (pIx (pVar 0) (pVar 1)))) sNx)
    (sRet (eC (.int 0)))))
def m__law_state : Fn := fnM 1 ((sSeq (sAsg 2 (eCall 2 m__law_cell_at [] (aCons (eVar 0) (aCons (eVar 1) aNil))))
    (sRet (eProm (eLstO (aCons (eB fMax2 (aCons (eC (.int 0)) (aCons (e2 oSub (eVar 2) (e2 oPow (eC (.int 10)) (eC (.int 18)))) aNil))) (aCons (e2 oAdd (e2 oMod (eVar 2) (eC (.int 2147483629))) (eC (.int 1))) (aCons (eC (.int 0)) aNil))))))))
def m__law_choice : Fn := fnM 2 ((sSeq (sIf (tOf (e2P oGt (pIx (pVar 0) (pC (.int 0))) (pC (.int 0)))) (sSeq (sAsg 2 (e2 oMod (eP (pIx (pVar 0) (pC (.int 0)))) (eVar 1)))
    (sSeq (sSetP false none (pVar 0) (pC (.int 0)) (e2 oFdv (eP (pIx (pVar 0) (pC (.int 0)))) (eVar 1)))
    (sRet (eVar 2)))) sNx)
    (sSeq (sSetP false none (pVar 0) (pC (.int 2)) (e2 oAdd (eP (pIx (pVar 0) (pC (.int 2)))) (eC (.int 1))))
    (sSeq (sSetP false none (pVar 0) (pC (.int 1)) (e2 oMod (e2 oAdd (e2 oAdd (e2 oMul (eP (pIx (pVar 0) (pC (.int 1)))) (eC (.int 48271))) (eC (.int 29))) (eP (pIx (pVar 0) (pC (.int 2))))) (eC (.int 2147483647))))
    (sSeq (sAsg 3 (e2 oMod (e2 oAdd (e2 oAdd (e2 oMul (eP (pIx (pVar 0) (pC (.int 1)))) (eP (pIx (pVar 0) (pC (.int 1))))) (e2 oMul (eC (.int 39373)) (eP (pIx (pVar 0) (pC (.int 1)))))) (eC (.int 7))) (eC (.int 2147483629))))
    (sSeq (sAsg 3 (e2 oMod (e2 oAdd (e2 oMul (eVar 3) (eVar 3)) (e2 oMul (eC (.int 50021)) (eVar 3))) (eC (.int 2147483587))))
    (sRet (e2 oMod (e2 oFdv (eVar 3) (eC (.int 8))) (eVar 1)))))))))
def m__law_order : Fn := fnM 5 ((sSeq (sPar 2 3 (xI (eCall 2 m__law_choice [] (aCons (eVar 0) (aCons (eC (.int 9)) aNil)))) (xI (eCall 2 m__law_choice [] (aCons (eVar 0) (aCons (eP (pIx (pVar 1) (pC (.int 2)))) aNil)))))
    (sSeq (sIf (tOf (e2P oLt (pVar 2) (pC (.int 4)))) (sRet (eTup (aCons (eC (.str "write")) (aCons (eVar 3) (aCons (eCall 2 m__law_choice [] (aCons (eVar 0) (aCons (eC (.int 64)) aNil))) aNil))))) sNx)
    (sSeq (sIf (tOf (e2P oEq (pVar 2) (pC (.int 4)))) (sRet (eTup (aCons (eC (.str "trim")) (aCons (eVar 3) aNil)))) sNx)
    (sSeq (sIf (tOf (e2P oLt (pVar 2) (pC (.int 7)))) (sSeq (sPar 4 5 (xO (e1 fRgL (eP (pIx (pVar 1) (pC (.int 2)))))) (xO (eLstO aNil)))
    (sSeq (sFor (iArg rng1 (aCons (e2 oAdd (eC (.int 1)) (eCall 2 m__law_choice [] (aCons (eVar 0) (aCons (eBP fMin2 (pCons (pC (.int 4)) (pCons (pIx (pVar 1) (pC (.int 2))) pNil))) aNil)))) aNil)) (gN 6) (sExp (eApp 5 (eTup (aCons (ePop 4 (eCall 2 m__law_choice [] (aCons (eVar 0) (aCons (eBP fLen (pCons (pVar 4) pNil)) aNil)))) (aCons (eCall 2 m__law_choice [] (aCons (eVar 0) (aCons (eC (.int 64)) aNil))) aNil))))))
    (sRet (eTup (aCons (eC (.str "group")) (aCons (eBP fTup (pCons (pVar 5) pNil)) aNil)))))) sNx)
    (sRet (eTup (aCons (eC (.str "read")) (aCons (eVar 3) aNil)))))))))
def m__law_marks (c_ : Str) : Fn := fnM 1 ((sSeq (sAsg 1 (eLst (aCons (eIsX 0 (decide (c_ ∈ (["NoWidth"] : List Str)))) (aCons (eIsX 0 (decide (c_ ∈ (["NoNumber"] : List Str)))) (aCons (eIsX 0 (decide (c_ ∈ (["NoWord"] : List Str)))) (aCons (eIsX 0 (decide (c_ ∈ (["NoFields"] : List Str)))) aNil))))))
    (sSeq (sAsg 1 (e2 oAdd (eVar 1) (eLst (aCons (eIsX 0 (decide (c_ ∈ (["NoWeather"] : List Str)))) (aCons (eIsX 0 (decide (c_ ∈ (["NoBlock"] : List Str)))) (aCons (eIsX 0 (decide (c_ ∈ (["NoPage"] : List Str)))) (aCons (eIsX 0 (decide (c_ ∈ (["NoPlan"] : List Str)))) aNil)))))))
    (sSeq (sAsg 1 (e2 oAdd (eVar 1) (eLst (aCons (eIsX 0 (decide (c_ ∈ (["NoFlash"] : List Str)))) (aCons (eIsX 0 (decide (c_ ∈ (["NoOrder"] : List Str)))) (aCons (eIsX 0 (decide (c_ ∈ (["NoOrders"] : List Str)))) aNil))))))
    (sSeq (sAsg 1 (e2 oAdd (eVar 1) (eLst (aCons (eIsX 0 (decide (c_ ∈ (["NoPlace"] : List Str)))) aNil))))
    (sSeq (sAsg 1 (e2 oAdd (eVar 1) (eLst (aCons (eIsX 0 (decide (c_ ∈ (["NoPaper"] : List Str)))) (aCons (eIsX 0 (decide (c_ ∈ (["NoText"] : List Str)))) (aCons (eIsX 0 (decide (c_ ∈ (["NoLine"] : List Str)))) (aCons (eIsX 0 (decide (c_ ∈ (["Off"] : List Str)))) aNil)))))))
    (sSeq (sAsg 1 (e2 oAdd (eVar 1) (eLst (aCons (eIsX 0 (decide (c_ ∈ (["Written"] : List Str)))) (aCons (eIsX 0 (decide (c_ ∈ (["Bad"] : List Str)))) (aCons (eIsX 0 (decide (c_ ∈ (["Spoilt"] : List Str)))) (aCons (eIsX 0 (decide (c_ ∈ (["NoRoom"] : List Str)))) aNil)))))))
    (sRet (e2 oAdd (eVar 1) (eLst (aCons (eIsX 0 (decide (c_ ∈ (["Worn"] : List Str)))) (aCons (eIsX 0 (decide (c_ ∈ (["Over"] : List Str)))) aNil))))))))))))
def m__law_said (g_ : Thk) : Fn := fnM 4 ((sSeq (sTryAs excU ["FlashError", "NoWidth", "NoNumber", "NoWord", "NoFields", "NoWeather", "NoBlock", "NoPage", "NoPlan", "NoFlash", "NoOrder", "NoOrders", "NoPlace", "NoPaper", "NoText", "NoLine", "Off", "Written", "Bad", "Spoilt", "NoRoom", "Worn", "Over"] 2 [false, false, false, false, false] (sAsg 1 (eThk g_)) (fun c_ => (sSeq (sAsg 3 (eLst (aCons (eC (.str "width")) (aCons (eC (.str "number")) (aCons (eC (.str "word")) (aCons (eC (.str "fields")) (aCons (eC (.str "weather")) (aCons (eC (.str "block")) (aCons (eC (.str "page")) (aCons (eC (.str "plan")) (aCons (eC (.str "chip")) (aCons (eC (.str "order")) (aCons (eC (.str "orders")) aNil)))))))))))))
    (sSeq (sAsg 3 (e2 oAdd (eVar 3) (eLst (aCons (eC (.str "place")) (aCons (eC (.str "paper")) (aCons (eC (.str "text")) (aCons (eC (.str "line")) (aCons (eC (.str "off")) (aCons (eC (.str "written")) (aCons (eC (.str "bad")) (aCons (eC (.str "spoilt")) (aCons (eC (.str "room")) (aCons (eC (.str "worn")) aNil)))))))))))))
    (sSeq (sAsg 3 (e2 oAdd (eVar 3) (eLst (aCons (eC (.str "over")) aNil))))
    (sSeq (sAsg 4 (eCall 1 (m__law_marks c_) [] (aCons (eVar 2) aNil)))
    (sSeq (sIf (tOrM (tOf (e2 oNe (eBP fCnt (pCons (pVar 4) (pCons (pC (.bl true)) pNil))) (eC (.int 1)))) (tNotM (tOf (eIsX 2 (decide (c_ ∈ (["FlashError", "NoWidth", "NoNumber", "NoWord", "NoFields", "NoWeather", "NoBlock", "NoPage", "NoPlan", "NoFlash", "NoOrder", "NoOrders", "NoPlace", "NoPaper", "NoText", "NoLine", "Off", "Written", "Bad", "Spoilt", "NoRoom", "Worn", "Over"] : List Str))))))) (sRet (eC (.str "! other"))) sNx)
    (sRet (e2 oAdd (eC (.str "! ")) (eIx (eVar 3) (eBP fIdx (pCons (pVar 4) (pCons (pC (.bl true)) pNil)))))))))))))
    (sRet (eBP fRepr (pCons (pVar 1) pNil)))))
def m__law_any_weather : Fn := fnM 4 ((sSeq (sAsgOw 2 eDnew)
    (sSeq (sFor (iArg rng1 (aCons (eIx (eLst (aCons (eC (.int 0)) (aCons (eC (.int 1)) (aCons (eC (.int 5)) (aCons (eC (.int 40)) aNil))))) (eCall 2 m__law_choice [] (aCons (eVar 0) (aCons (eC (.int 4)) aNil)))) aNil)) (gN 3) (sSeq (sAsg 4 (eIx (eLst (aCons (eTup (aCons (eC (.str "cut")) aNil)) (aCons (eTup (aCons (eC (.str "bad")) aNil)) (aCons (eTup (aCons (eC (.str "bit")) (aCons (eCall 2 m__law_choice [] (aCons (eVar 0) (aCons (eC (.int 47)) aNil))) aNil))) (aCons (eTup (aCons (eC (.str "bit")) (aCons (eC (.int 46)) aNil))) aNil))))) (eCall 2 m__law_choice [] (aCons (eVar 0) (aCons (eC (.int 4)) aNil)))))
    (sSeq (sAsg 5 (eIx (eLst (aCons (eC (.int 9999)) (aCons (eC (.int 0)) (aCons (eCall 2 m__law_choice [] (aCons (eVar 0) (aCons (eVar 1) aNil))) aNil)))) (eB fMin2 (aCons (eC (.int 2)) (aCons (eCall 2 m__law_choice [] (aCons (eVar 0) (aCons (eC (.int 12)) aNil))) aNil)))))
    (sSetB 2 (eVar 5) (eVar 4)))))
    (sRet (eB fTup (aCons (eLc false (lcM (iOf (eFrz (eBP (fL true fSrt2) (pCons (pVar 2) pNil)))) (gN 5) tTrue (eTup (aCons (eVar 5) (aCons (eP (pIx (pVar 2) (pVar 5))) aNil))) [5])) aNil))))))
def m__law_any_order : Fn := fnM 1 ((sSeq (sAsg 1 (eTup (aCons (eC (.int 8)) (aCons (eC (.int 8)) (aCons (eC (.int 16)) (aCons (eC (.bl true)) (aCons (eC (.bl true)) aNil)))))))
    (sRet (eIx (eLst (aCons (eCall 2 m__law_order [] (aCons (eVar 0) (aCons (eVar 1) aNil))) (aCons (eTup (aCons (eC (.str "mend")) aNil)) (aCons (eCall 2 m__law_order [] (aCons (eVar 0) (aCons (eVar 1) aNil))) aNil)))) (e2 oFdv (eCall 2 m__law_choice [] (aCons (eVar 0) (aCons (eC (.int 5)) aNil))) (eC (.int 2)))))))
def m__law_again : Fn := fnM 2 ((sSeq (sAsgOw 1 (eLstO (aCons (eSaid m__law_said (e2 oEq (eCall 1 m_order_text [] (aCons (eCall 1 m_read_order [] (aCons (eVar 0) aNil)) aNil)) (eVar 0))) aNil)))
    (sSeq (sExp (eApp 1 (eSaid m__law_said (e2 oEq (eCall 1 m_weather_text [] (aCons (eCall 1 m_read_weather [] (aCons (eVar 0) aNil)) aNil)) (eVar 0)))))
    (sSeq (sExp (eApp 1 (eSaid m__law_said (eCall 1 m_is_weather [] (aCons (eCall 1 m_read_weather [] (aCons (eVar 0) aNil)) aNil)))))
    (sRet (e2 oEq (eLc false (lcM (iOf (eVar 1)) (gN 2) (tOf (e2 oNin (eVar 2) (eTup (aCons (eC (.str "True")) (aCons (eC (.str "! text")) aNil))))) (eVar 2) [2])) (eLst aNil)))))))
def m__law_right : Fn := fnM 9 ((sSeq (sPar 1 2 (xI (eLc false (lcM (iArg rng1 (aCons (eC (.int 4)) aNil)) (gN 8) tTrue (eCall 1 m__law_any_order [] (aCons (eVar 0) aNil)) [8]))) (xI (eLc false (lcM (iArg rng1 (aCons (eC (.int 3)) aNil)) (gN 8) tTrue (eCall 2 m__law_any_weather [] (aCons (eVar 0) (aCons (eC (.int 60)) aNil))) [8]))))
    (sSeq (sFor (iOf (eVar 1)) (gN 3) (sIf (tOf (e2 oNe (eLc false (lcM (iOf (eVar 1)) (gN 9) (tOf (e2 oNe (e2 oEq (eCall 1 m_order_text [] (aCons (eVar 3) aNil)) (eCall 1 m_order_text [] (aCons (eVar 9) aNil))) (e2P oEq (pVar 3) (pVar 9)))) (eVar 9) [9])) (eLst aNil))) (sRet (eC (.bl false))) sNx))
    (sSeq (sFor (iOf (eVar 2)) (gN 3) (sIf (tOf (e2 oNe (eLc false (lcM (iOf (eVar 2)) (gN 9) (tOf (e2 oNe (e2 oEq (eCall 1 m_weather_text [] (aCons (eVar 3) aNil)) (eCall 1 m_weather_text [] (aCons (eVar 9) aNil))) (e2P oEq (pVar 3) (pVar 9)))) (eVar 9) [9])) (eLst aNil))) (sRet (eC (.bl false))) sNx))
    (sSeq (sFor (iOf (e2 oAdd (eLc false (lcM (iOf (eVar 1)) (gN 3) tTrue (eCall 1 m_order_text [] (aCons (eVar 3) aNil)) [3])) (eLc false (lcM (iOf (eVar 2)) (gN 3) tTrue (eCall 1 m_weather_text [] (aCons (eVar 3) aNil)) [3])))) (gN 4) (sSeq (sAsg 5 (eM1 spA (eVar 4) (eC (.str " "))))
    (sSeq (sAsg 6 (eCall 2 m__law_choice [] (aCons (eVar 0) (aCons (eBP fLen (pCons (pVar 5) pNil)) aNil))))
    (sFor (iOf (eLst (aCons (eVar 5) (aCons (e2 oAdd (eSl (eVar 5) none (some (eVar 6))) (eSl (eVar 5) (some (e2 oAdd (eVar 6) (eC (.int 1)))) none)) (aCons (e2 oAdd (eSl (eVar 5) none (some (e2 oAdd (eVar 6) (eC (.int 1))))) (eSl (eVar 5) (some (eVar 6)) none)) (aCons (e1 revA (eVar 5)) (aCons (eSl (eVar 5) none (some (e2 oAdd (eVar 6) (eC (.int 1))))) aNil))))))) (gN 7) (sIf (tNotM (tOf (eCall 1 m__law_again [] (aCons (eM1 jnA (eC (.str " ")) (eVar 7)) aNil)))) (sRet (eC (.bl false))) sNx)))))
    (sRet (eC (.bl true))))))))
def m_law : Fn := fnM 3 ((sSeq (sFor (iArg rng1 (aCons (eB fMax2 (aCons (eC (.int 1)) (aCons (eB fMin2 (aCons (eBP fLen (pCons (pVar 0) pNil)) (aCons (eC (.int 3)) aNil))) aNil))) aNil)) (gN 1) (sSeq (sAsg 2 (eCall 2 m__law_state [] (aCons (eVar 0) (aCons (eVar 1) aNil))))
    (sFor (iArg rng1 (aCons (eC (.int 3)) aNil)) (gN 3) (sIf (tNotM (tOf (eCall 1 m__law_right [] (aCons (eVar 2) aNil)))) (sRet (eC (.bl false))) sNx))))
    (sRet (eC (.bl true)))))
end Fk
namespace Fk
open PySem PySem.Spec PyProof.Rows L2
open Hd
/-! ### the text -/
abbrev N_is_whole : List Str := ["thing"]
theorem sc_is_whole : FnScope N_is_whole ["thing"] (defScope z_is_whole) := ⟨rfl, rfl, rfl, by decide +kernel, rfl, by decide +kernel, by decide +kernel⟩
abbrev N_is_within : List Str := ["thing", "least", "most"]
theorem sc_is_within : FnScope N_is_within ["thing", "least", "most"] (defScope z_is_within) := ⟨rfl, rfl, rfl, by decide +kernel, rfl, by decide +kernel, by decide +kernel⟩
abbrev N_rises : List Str := ["row", "one", "later"]
theorem sc_rises : FnScope N_rises ["row"] (defScope z_rises) := ⟨rfl, rfl, rfl, by decide +kernel, rfl, by decide +kernel, by decide +kernel⟩
abbrev N_is_fault : List Str := ["thing"]
theorem sc_is_fault : FnScope N_is_fault ["thing"] (defScope z_is_fault) := ⟨rfl, rfl, rfl, by decide +kernel, rfl, by decide +kernel, by decide +kernel⟩
abbrev N_is_weather : List Str := ["thing", "row", "step", "fault"]
theorem sc_is_weather : FnScope N_is_weather ["thing"] (defScope z_is_weather) := ⟨rfl, rfl, rfl, by decide +kernel, rfl, by decide +kernel, by decide +kernel⟩
abbrev N_need_weather : List Str := ["thing"]
theorem sc_need_weather : FnScope N_need_weather ["thing"] (defScope z_need_weather) := ⟨rfl, rfl, rfl, by decide +kernel, rfl, by decide +kernel, by decide +kernel⟩
abbrev N_is_place : List Str := ["thing"]
theorem sc_is_place : FnScope N_is_place ["thing"] (defScope z_is_place) := ⟨rfl, rfl, rfl, by decide +kernel, rfl, by decide +kernel, by decide +kernel⟩
abbrev N_is_row : List Str := ["thing"]
theorem sc_is_row : FnScope N_is_row ["thing"] (defScope z_is_row) := ⟨rfl, rfl, rfl, by decide +kernel, rfl, by decide +kernel, by decide +kernel⟩
abbrev N_are_rows : List Str := ["thing", "one", "place", "data"]
theorem sc_are_rows : FnScope N_are_rows ["thing"] (defScope z_are_rows) := ⟨rfl, rfl, rfl, by decide +kernel, rfl, by decide +kernel, by decide +kernel⟩
abbrev N_has_shape : List Str := ["thing", "word", "things"]
theorem sc_has_shape : FnScope N_has_shape ["thing"] (defScope z_has_shape) := ⟨rfl, rfl, rfl, by decide +kernel, rfl, by decide +kernel, by decide +kernel⟩
abbrev N_written : List Str := ["order", "word", "things", "row", "number"]
theorem sc_written : FnScope N_written ["order"] (defScope z_written) := ⟨rfl, rfl, rfl, by decide +kernel, rfl, by decide +kernel, by decide +kernel⟩
abbrev N_order_text : List Str := ["order"]
theorem sc_order_text : FnScope N_order_text ["order"] (defScope z_order_text) := ⟨rfl, rfl, rfl, by decide +kernel, rfl, by decide +kernel, by decide +kernel⟩
abbrev N_weather_text : List Str := ["weather", "found", "step", "word", "numbers", "number"]
theorem sc_weather_text : FnScope N_weather_text ["weather"] (defScope z_weather_text) := ⟨rfl, rfl, rfl, by decide +kernel, rfl, by decide +kernel, by decide +kernel⟩
abbrev N_number_in : List Str := ["word", "sign"]
theorem sc_number_in : FnScope N_number_in ["word"] (defScope z_number_in) := ⟨rfl, rfl, rfl, by decide +kernel, rfl, by decide +kernel, by decide +kernel⟩
abbrev N_numbers_in : List Str := ["words", "found", "word"]
theorem sc_numbers_in : FnScope N_numbers_in ["words"] (defScope z_numbers_in) := ⟨rfl, rfl, rfl, by decide +kernel, rfl, by decide +kernel, by decide +kernel⟩
abbrev N_order_in : List Str := ["text", "word", "words", "numbers", "found"]
theorem sc_order_in : FnScope N_order_in ["text"] (defScope z_order_in) := ⟨rfl, rfl, rfl, by decide +kernel, rfl, by decide +kernel, by decide +kernel⟩
abbrev N_fault_in : List Str := ["word", "step", "sign", "fault", "number", "bit"]
theorem sc_fault_in : FnScope N_fault_in ["word"] (defScope z_fault_in) := ⟨rfl, rfl, rfl, by decide +kernel, rfl, by decide +kernel, by decide +kernel⟩
abbrev N_read_order : List Str := ["text", "found"]
theorem sc_read_order : FnScope N_read_order ["text"] (defScope z_read_order) := ⟨rfl, rfl, rfl, by decide +kernel, rfl, by decide +kernel, by decide +kernel⟩
abbrev N_read_weather : List Str := ["text", "found", "word"]
theorem sc_read_weather : FnScope N_read_weather ["text"] (defScope z_read_weather) := ⟨rfl, rfl, rfl, by decide +kernel, rfl, by decide +kernel, by decide +kernel⟩
abbrev N__law_cell_at : List Str := ["_law_script", "_law_k"]
theorem sc__law_cell_at : FnScope N__law_cell_at ["_law_script", "_law_k"] (defScope z__law_cell_at) := ⟨rfl, rfl, rfl, by decide +kernel, rfl, by decide +kernel, by decide +kernel⟩
abbrev N__law_state : List Str := ["_law_script", "_law_k", "_law_cell"]
theorem sc__law_state : FnScope N__law_state ["_law_script", "_law_k"] (defScope z__law_state) := ⟨rfl, rfl, rfl, by decide +kernel, rfl, by decide +kernel, by decide +kernel⟩
abbrev N__law_choice : List Str := ["_law_state_here", "_law_many", "_law_found", "_law_mixed"]
theorem sc__law_choice : FnScope N__law_choice ["_law_state_here", "_law_many"] (defScope z__law_choice) := ⟨rfl, rfl, rfl, by decide +kernel, rfl, by decide +kernel, by decide +kernel⟩
abbrev N__law_order : List Str := ["_law_state_here", "_law_plan", "_law_way", "_law_place", "_law_places", "_law_rows", "_law_lap"]
theorem sc__law_order : FnScope N__law_order ["_law_state_here", "_law_plan"] (defScope z__law_order) := ⟨rfl, rfl, rfl, by decide +kernel, rfl, by decide +kernel, by decide +kernel⟩
abbrev N__law_marks : List Str := ["_law_e", "_law_marks_here"]
theorem sc__law_marks : FnScope N__law_marks ["_law_e"] (defScope z__law_marks) := ⟨rfl, rfl, rfl, by decide +kernel, rfl, by decide +kernel, by decide +kernel⟩
abbrev N__law_said : List Str := ["_law_call", "_law_found", "_law_e", "_law_words", "_law_marks_here"]
theorem sc__law_said : FnScope N__law_said ["_law_call"] (defScope z__law_said) := ⟨rfl, rfl, rfl, by decide +kernel, rfl, by decide +kernel, by decide +kernel⟩
abbrev N__law_any_weather : List Str := ["_law_state_here", "_law_far_step", "_law_rows", "_law_lap", "_law_fault", "_law_step"]
theorem sc__law_any_weather : FnScope N__law_any_weather ["_law_state_here", "_law_far_step"] (defScope z__law_any_weather) := ⟨rfl, rfl, rfl, by decide +kernel, rfl, by decide +kernel, by decide +kernel⟩
abbrev N__law_any_order : List Str := ["_law_state_here", "_law_wide"]
theorem sc__law_any_order : FnScope N__law_any_order ["_law_state_here"] (defScope z__law_any_order) := ⟨rfl, rfl, rfl, by decide +kernel, rfl, by decide +kernel, by decide +kernel⟩
abbrev N__law_again : List Str := ["_law_text", "_law_words", "_law_word"]
theorem sc__law_again : FnScope N__law_again ["_law_text"] (defScope z__law_again) := ⟨rfl, rfl, rfl, by decide +kernel, rfl, by decide +kernel, by decide +kernel⟩
abbrev N__law_right : List Str := ["_law_state_here", "_law_orders", "_law_storms", "_law_one", "_law_text", "_law_words", "_law_at", "_law_row", "_law_lap", "_law_other"]
theorem sc__law_right : FnScope N__law_right ["_law_state_here"] (defScope z__law_right) := ⟨rfl, rfl, rfl, by decide +kernel, rfl, by decide +kernel, by decide +kernel⟩
abbrev N_law : List Str := ["_law_script", "_law_k", "_law_state_here", "_law_nth"]
theorem sc_law : FnScope N_law ["_law_script"] (defScope z_law) := ⟨rfl, rfl, rfl, by decide +kernel, rfl, by decide +kernel, by decide +kernel⟩
abbrev TT (K : PySem.W.Frag) : List (Addr × Str) := tabsOf K mk
/-! ### what the top has written -/
structure Bs (K : PySem.W.Frag) (mg : Str → Option Value) : Prop where
  yes : True
  n_ValueError : mg "ValueError" = none
  n_all : mg "all" = none
  n_bool : mg "bool" = none
  n_int : mg "int" = none
  n_isinstance : mg "isinstance" = none
  n_len : mg "len" = none
  n_list : mg "list" = none
  n_max : mg "max" = none
  n_min : mg "min" = none
  n_range : mg "range" = none
  n_repr : mg "repr" = none
  n_sorted : mg "sorted" = none
  n_str : mg "str" = none
  n_tuple : mg "tuple" = none
  n_zip : mg "zip" = none
  r_BAD : mg "BAD" = some (.ref (He.ga K "BAD"))
  p_BAD : ∀ H W m, Rp K H W m [.ref (He.ga K "BAD")] [.tup [.str "bad"]] []
  c_BETWEEN : ∃ t, mg "BETWEEN" = some (.str ":" t)
  c_BIT : ∃ t, mg "BIT" = some (.str "bit" t)
  r_CUT : mg "CUT" = some (.ref (He.ga K "CUT"))
  p_CUT : ∀ H W m, Rp K H W m [.ref (He.ga K "CUT")] [.tup [.str "cut"]] []
  c_FIGURES : ∃ t, mg "FIGURES" = some (.str "0123456789" t)
  c_MOST_DATA : ∃ t, mg "MOST_DATA" = some (.int 63 t)
  c_MOST_FAULTS : ∃ t, mg "MOST_FAULTS" = some (.int 40 t)
  c_MOST_FIGURES : ∃ t, mg "MOST_FIGURES" = some (.int 9 t)
  c_MOST_PLACE : ∃ t, mg "MOST_PLACE" = some (.int 15 t)
  c_MOST_ROWS : ∃ t, mg "MOST_ROWS" = some (.int 4 t)
  c_MOST_STEP : ∃ t, mg "MOST_STEP" = some (.int 9999 t)
  c_NONE : ∃ t, mg "NONE" = some (.str "-" t)
  c_WORD_BITS : ∃ t, mg "WORD_BITS" = some (.int 47 t)
  x_Bad : ExcF K mg "Bad"
  x_FlashError : ExcF K mg "FlashError"
  x_NoBlock : ExcF K mg "NoBlock"
  x_NoFields : ExcF K mg "NoFields"
  x_NoFlash : ExcF K mg "NoFlash"
  x_NoLine : ExcF K mg "NoLine"
  x_NoNumber : ExcF K mg "NoNumber"
  x_NoOrder : ExcF K mg "NoOrder"
  x_NoOrders : ExcF K mg "NoOrders"
  x_NoPage : ExcF K mg "NoPage"
  x_NoPaper : ExcF K mg "NoPaper"
  x_NoPlace : ExcF K mg "NoPlace"
  x_NoPlan : ExcF K mg "NoPlan"
  x_NoRoom : ExcF K mg "NoRoom"
  x_NoText : ExcF K mg "NoText"
  x_NoWeather : ExcF K mg "NoWeather"
  x_NoWidth : ExcF K mg "NoWidth"
  x_NoWord : ExcF K mg "NoWord"
  x_Off : ExcF K mg "Off"
  x_Over : ExcF K mg "Over"
  x_Spoilt : ExcF K mg "Spoilt"
  x_Worn : ExcF K mg "Worn"
  x_Written : ExcF K mg "Written"
  e_FlashError : ExcA (fun cls => PySem.W.exmOne K cls (.ref (He.ga K "FlashError"))) K excU ["FlashError", "NoWidth", "NoNumber", "NoWord", "NoFields", "NoWeather", "NoBlock", "NoPage", "NoPlan", "NoFlash", "NoOrder", "NoOrders", "NoPlace", "NoPaper", "NoText", "NoLine", "Off", "Written", "Bad", "Spoilt", "NoRoom", "Worn", "Over"]
  ea : ExcAll K excU
  ix_Bad : IsE K (.ref (He.ga K "Bad")) excU ["Bad"]
  ix_NoBlock : IsE K (.ref (He.ga K "NoBlock")) excU ["NoBlock"]
  ix_NoFields : IsE K (.ref (He.ga K "NoFields")) excU ["NoFields"]
  ix_NoFlash : IsE K (.ref (He.ga K "NoFlash")) excU ["NoFlash"]
  ix_NoLine : IsE K (.ref (He.ga K "NoLine")) excU ["NoLine"]
  ix_NoNumber : IsE K (.ref (He.ga K "NoNumber")) excU ["NoNumber"]
  ix_NoOrder : IsE K (.ref (He.ga K "NoOrder")) excU ["NoOrder"]
  ix_NoOrders : IsE K (.ref (He.ga K "NoOrders")) excU ["NoOrders"]
  ix_NoPage : IsE K (.ref (He.ga K "NoPage")) excU ["NoPage"]
  ix_NoPaper : IsE K (.ref (He.ga K "NoPaper")) excU ["NoPaper"]
  ix_NoPlace : IsE K (.ref (He.ga K "NoPlace")) excU ["NoPlace"]
  ix_NoPlan : IsE K (.ref (He.ga K "NoPlan")) excU ["NoPlan"]
  ix_NoRoom : IsE K (.ref (He.ga K "NoRoom")) excU ["NoRoom"]
  ix_NoText : IsE K (.ref (He.ga K "NoText")) excU ["NoText"]
  ix_NoWeather : IsE K (.ref (He.ga K "NoWeather")) excU ["NoWeather"]
  ix_NoWidth : IsE K (.ref (He.ga K "NoWidth")) excU ["NoWidth"]
  ix_NoWord : IsE K (.ref (He.ga K "NoWord")) excU ["NoWord"]
  ix_Off : IsE K (.ref (He.ga K "Off")) excU ["Off"]
  ix_Over : IsE K (.ref (He.ga K "Over")) excU ["Over"]
  ix_Spoilt : IsE K (.ref (He.ga K "Spoilt")) excU ["Spoilt"]
  ix_ValueError : IsE K (.type "ValueError") excU ["FlashError", "NoWidth", "NoNumber", "NoWord", "NoFields", "NoWeather", "NoBlock", "NoPage", "NoPlan", "NoFlash", "NoOrder", "NoOrders", "NoPlace", "NoPaper", "NoText", "NoLine", "Off", "Written", "Bad", "Spoilt", "NoRoom", "Worn", "Over"]
  ix_Worn : IsE K (.ref (He.ga K "Worn")) excU ["Worn"]
  ix_Written : IsE K (.ref (He.ga K "Written")) excU ["Written"]
  u__law_again : ∀ y ∈ tabsOf K mk, y.1 = (mkr K "_law_again").2 → y.2 = ("_law_again" : Str) ++ ".<locals>." ++ "<lambda>"
  cb__law_again : codB K (He.ga K "_law_again") = true
/-! ### each def is worth its mirror -/
section
variable {P : Program} {w : World} {K : PySem.W.Frag} {mg : Str → Option Value} {base : Heap} {f : Addr} {fd : FuncData}
theorem ok_is_whole (F : FunD K "is_whole" "is_whole" (defArgs z_is_whole) (defBody z_is_whole) (defScope z_is_whole) [] [] f fd) (B : Bs K mg) : FnN P w K mg base 1 f fd ["thing"] (spM K (TT K) 1 m_is_whole) := by
  have sc := sc_is_whole
  refine okM (T := TT K) F sc rfl (fun cdv A outer s H E Γ hT hG hr => ?_)
  obtain ⟨U0, H0, A0, m0, T0⟩ := Γ
  obtain rfl : T0 = TT K := hT
  have tk := takes_N (P := P) (w := w) (K := K) (mg := mg) (base := base) (N := N_is_whole) (qual := "is_whole") (scope := defScope z_is_whole) (f := f) (cd := cdv) (A := A) (outer := outer) (s := s) (H := H) (E := E)
  have pO := own_N (P := P) (w := w) (K := K) (mg := mg) (base := base) (N := N_is_whole) (qual := "is_whole") (scope := defScope z_is_whole) (f := f) (cd := cdv) (A := A) (outer := outer) (s := s) (H := H) (E := E)
  have hU := hr.units
  have hU65 := units65 hr
  have hU1 : (A.deeper (envOfC "is_whole" (defScope z_is_whole) s.heap.objs.size f cdv)).units + 1 < cLine := by have := hr.un; omega
  exact (s_one (s_ret (s_vand (s_isi (n := "int") (by decide) rfl B.n_isinstance rfl B.n_int (by decide +kernel) (sv 0)) (s_vone (s_vnot (s_isi (n := "bool") (by decide) rfl B.n_isinstance rfl B.n_bool (by decide +kernel) (sv 0)))))))
theorem ok_is_within (F : FunD K "is_within" "is_within" (defArgs z_is_within) (defBody z_is_within) (defScope z_is_within) [] [] f fd) (B : Bs K mg) (C_is_whole : CalN P w K mg base (TT K) 1 "is_whole" ["thing"] [] m_is_whole) : FnN P w K mg base 2 f fd ["thing", "least", "most"] (spM K (TT K) 3 m_is_within) := by
  have sc := sc_is_within
  refine okM (T := TT K) F sc rfl (fun cdv A outer s H E Γ hT hG hr => ?_)
  obtain ⟨U0, H0, A0, m0, T0⟩ := Γ
  obtain rfl : T0 = TT K := hT
  have tk := takes_N (P := P) (w := w) (K := K) (mg := mg) (base := base) (N := N_is_within) (qual := "is_within") (scope := defScope z_is_within) (f := f) (cd := cdv) (A := A) (outer := outer) (s := s) (H := H) (E := E)
  have pO := own_N (P := P) (w := w) (K := K) (mg := mg) (base := base) (N := N_is_within) (qual := "is_within") (scope := defScope z_is_within) (f := f) (cd := cdv) (A := A) (outer := outer) (s := s) (H := H) (E := E)
  have hU := hr.units
  have hU65 := units65 hr
  have hU1 : (A.deeper (envOfC "is_within" (defScope z_is_within) s.heap.objs.size f cdv)).units + 1 < cLine := by have := hr.un; omega
  exact (s_one (s_ret (s_vand (sCl C_is_whole hG hr (by decide) rfl tk (s_cons (sv 0) s_nil)) (s_vone (s_chn o_le o_le p_le p_le (sv 1) (sv 0) (sv 2) (fun h1 h2 h3 h4 h5 => pe_chain h1 h2 h3 h4 h5))))))
theorem ok_rises (F : FunD K "rises" "rises" (defArgs z_rises) (defBody z_rises) (defScope z_rises) [] [] f fd) (B : Bs K mg) : FnN P w K mg base 1 f fd ["row"] (spM K (TT K) 1 m_rises) := by
  have sc := sc_rises
  refine okM (T := TT K) F sc rfl (fun cdv A outer s H E Γ hT hG hr => ?_)
  obtain ⟨U0, H0, A0, m0, T0⟩ := Γ
  obtain rfl : T0 = TT K := hT
  have tk := takes_N (P := P) (w := w) (K := K) (mg := mg) (base := base) (N := N_rises) (qual := "rises") (scope := defScope z_rises) (f := f) (cd := cdv) (A := A) (outer := outer) (s := s) (H := H) (E := E)
  have pO := own_N (P := P) (w := w) (K := K) (mg := mg) (base := base) (N := N_rises) (qual := "rises") (scope := defScope z_rises) (f := f) (cd := cdv) (A := A) (outer := outer) (s := s) (H := H) (E := E)
  have hU := hr.units
  have hU65 := units65 hr
  have hU1 : (A.deeper (envOfC "rises" (defScope z_rises) s.heap.objs.size f cdv)).units + 1 < cLine := by have := hr.un; omega
  exact (s_one (s_ret (s_cb (cr_all rfl) o_all rfl B.n_all (by decide +kernel) (s_cons (s_lc (own := [("one", 1), ("later", 2)]) rfl sc.nd (s_zip rfl B.n_zip (s_cons (sv 0) (s_cons (s_sl (sv 0) (s_po1 s_int) s_po0) s_nil))) (blkOk_by (own := [("one", 1), ("later", 2)]) (N := N_rises) (sc := defScope z_rises) (by decide +kernel)) (fun _ _ _ _ _ => (s_gt rfl (s_gcons (s_gn (i := 1) sc.nd rfl (Or.inl rfl)) (s_gcons (s_gn (i := 2) sc.nd rfl (Or.inl rfl)) s_gnil)))) (fun _ _ _ _ _ => s_ts0) (fun _ _ _ _ _ => (s_cmpP o_lt p_lt (qv 1) (qv 2) (nomark _)))) s_nil))))
theorem ok_is_fault (F : FunD K "is_fault" "is_fault" (defArgs z_is_fault) (defBody z_is_fault) (defScope z_is_fault) [] [] f fd) (B : Bs K mg) (C_is_within : CalN P w K mg base (TT K) 2 "is_within" ["thing", "least", "most"] [] m_is_within) : FnN P w K mg base 3 f fd ["thing"] (spM K (TT K) 1 m_is_fault) := by
  have sc := sc_is_fault
  obtain ⟨_, h_WORD_BITS⟩ := B.c_WORD_BITS
  refine okM (T := TT K) F sc rfl (fun cdv A outer s H E Γ hT hG hr => ?_)
  obtain ⟨U0, H0, A0, m0, T0⟩ := Γ
  obtain rfl : T0 = TT K := hT
  have tk := takes_N (P := P) (w := w) (K := K) (mg := mg) (base := base) (N := N_is_fault) (qual := "is_fault") (scope := defScope z_is_fault) (f := f) (cd := cdv) (A := A) (outer := outer) (s := s) (H := H) (E := E)
  have pO := own_N (P := P) (w := w) (K := K) (mg := mg) (base := base) (N := N_is_fault) (qual := "is_fault") (scope := defScope z_is_fault) (f := f) (cd := cdv) (A := A) (outer := outer) (s := s) (H := H) (E := E)
  have hU := hr.units
  have hU65 := units65 hr
  have hU1 : (A.deeper (envOfC "is_fault" (defScope z_is_fault) s.heap.objs.size f cdv)).units + 1 < cLine := by have := hr.un; omega
  exact (s_seq (s_if (PW.pt (s_or (s_tcmpP (o_eq hU) p_eq (qv 0) (q_gl (v := .ref (He.ga K "CUT")) rfl B.r_CUT rfl B.p_CUT) (nomark _)) (s_or1 (s_tcmpP (o_eq hU) p_eq (qv 0) (q_gl (v := .ref (He.ga K "BAD")) rfl B.r_BAD rfl B.p_BAD) (nomark _))))) (s_one (s_ret s_bl)) s_end)
      (s_seq (s_if (PW.pt (s_or (s_not (s_tval (s_isi (n := "tuple") (by decide) rfl B.n_isinstance rfl B.n_tuple (by decide +kernel) (sv 0)))) (s_or (s_tcmp (o_ne hU) p_ne (s_cbP c_len o_len rfl B.n_len (by decide +kernel) (q_cons (qv 0) q_nil)) s_int (nomark _)) (s_or (s_not (s_tval (s_isi (n := "str") (by decide) rfl B.n_isinstance rfl B.n_str (by decide +kernel) (s_ofP (q_ix hU1 (qv 0) q_int))))) (s_or1 (s_tcmpP (o_ne hU) p_ne (q_ix hU1 (qv 0) q_int) q_str (nomark _))))))) (s_one (s_ret s_bl)) s_end)
      (s_one (s_ret (sCl C_is_within hG hr (by decide) rfl tk (s_cons (s_ofP (q_ix hU1 (qv 0) q_int)) (s_cons s_int (s_cons (s_op o_subB p_sub (s_gl (v := .int 47) rfl h_WORD_BITS ⟨_, rfl⟩ (fun _ _ _ => .int .nil)) s_int) s_nil))))))))
theorem ok_is_weather (F : FunD K "is_weather" "is_weather" (defArgs z_is_weather) (defBody z_is_weather) (defScope z_is_weather) [] [] f fd) (B : Bs K mg) (C_is_fault : CalN P w K mg base (TT K) 3 "is_fault" ["thing"] [] m_is_fault) (C_is_within : CalN P w K mg base (TT K) 2 "is_within" ["thing", "least", "most"] [] m_is_within) (C_rises : CalN P w K mg base (TT K) 1 "rises" ["row"] [] m_rises) : FnN P w K mg base 4 f fd ["thing"] (spM K (TT K) 1 m_is_weather) := by
  have sc := sc_is_weather
  obtain ⟨_, h_MOST_FAULTS⟩ := B.c_MOST_FAULTS
  obtain ⟨_, h_MOST_STEP⟩ := B.c_MOST_STEP
  refine okM (T := TT K) F sc rfl (fun cdv A outer s H E Γ hT hG hr => ?_)
  obtain ⟨U0, H0, A0, m0, T0⟩ := Γ
  obtain rfl : T0 = TT K := hT
  have tk := takes_N (P := P) (w := w) (K := K) (mg := mg) (base := base) (N := N_is_weather) (qual := "is_weather") (scope := defScope z_is_weather) (f := f) (cd := cdv) (A := A) (outer := outer) (s := s) (H := H) (E := E)
  have pO := own_N (P := P) (w := w) (K := K) (mg := mg) (base := base) (N := N_is_weather) (qual := "is_weather") (scope := defScope z_is_weather) (f := f) (cd := cdv) (A := A) (outer := outer) (s := s) (H := H) (E := E)
  have hU := hr.units
  have hU65 := units65 hr
  have hU1 : (A.deeper (envOfC "is_weather" (defScope z_is_weather) s.heap.objs.size f cdv)).units + 1 < cLine := by have := hr.un; omega
  exact (s_seq (s_if (PW.pt (s_or (s_not (s_tval (s_isi (n := "tuple") (by decide) rfl B.n_isinstance rfl B.n_tuple (by decide +kernel) (sv 0)))) (s_or1 (s_tcmp o_gt p_gt (s_cbP c_len o_len rfl B.n_len (by decide +kernel) (q_cons (qv 0) q_nil)) (s_gl (v := .int 40) rfl h_MOST_FAULTS ⟨_, rfl⟩ (fun _ _ _ => .int .nil)) (nomark _))))) (s_one (s_ret s_bl)) s_end)
      (s_seq (s_if (s_not (s_tval (s_cb (cr_all rfl) o_all rfl B.n_all (by decide +kernel) (s_cons (s_lc (own := [("row", 1)]) rfl sc.nd (s_it (sv 0)) (blkOk_by (own := [("row", 1)]) (N := N_is_weather) (sc := defScope z_is_weather) (by decide +kernel)) (fun _ _ _ _ _ => (s_gn (i := 1) sc.nd rfl (Or.inl rfl))) (fun _ _ _ _ _ => s_ts0) (fun _ _ _ _ _ => (s_vand (s_isi (n := "tuple") (by decide) rfl B.n_isinstance rfl B.n_tuple (by decide +kernel) (sv 1)) (s_vone (s_cmp (o_eq hU) p_eq (s_cbP c_len o_len rfl B.n_len (by decide +kernel) (q_cons (qv 1) q_nil)) s_int (nomark _)))))) s_nil)))) (s_one (s_ret s_bl)) s_end)
      (s_seq (s_if (s_not (s_tval (s_cb (cr_all rfl) o_all rfl B.n_all (by decide +kernel) (s_cons (s_lc (own := [("step", 2), ("fault", 3)]) rfl sc.nd (s_it (sv 0)) (blkOk_by (own := [("step", 2), ("fault", 3)]) (N := N_is_weather) (sc := defScope z_is_weather) (by decide +kernel)) (fun _ _ _ _ _ => (s_gt rfl (s_gcons (s_gn (i := 2) sc.nd rfl (Or.inl rfl)) (s_gcons (s_gn (i := 3) sc.nd rfl (Or.inl rfl)) s_gnil)))) (fun _ _ _ _ _ => s_ts0) (fun _ _ _ _ _ => (s_vand (sCl C_is_within hG hr (by decide) rfl takes_noX (s_cons (sv 2) (s_cons s_int (s_cons (s_gl (v := .int 9999) rfl h_MOST_STEP ⟨_, rfl⟩ (fun _ _ _ => .int .nil)) s_nil)))) (s_vone (sCl C_is_fault hG hr (by decide) rfl takes_noX (s_cons (sv 3) s_nil)))))) s_nil)))) (s_one (s_ret s_bl)) s_end)
      (s_one (s_ret (sCl C_rises hG hr (by decide) rfl tk (s_cons (s_lc (own := [("step", 2), ("fault", 3)]) rfl sc.nd (s_it (sv 0)) (blkOk_by (own := [("step", 2), ("fault", 3)]) (N := N_is_weather) (sc := defScope z_is_weather) (by decide +kernel)) (fun _ _ _ _ _ => (s_gt rfl (s_gcons (s_gn (i := 2) sc.nd rfl (Or.inl rfl)) (s_gcons (s_gn (i := 3) sc.nd rfl (Or.inl rfl)) s_gnil)))) (fun _ _ _ _ _ => s_ts0) (fun _ _ _ _ _ => (sv 2))) s_nil)))))))
theorem ok_need_weather (F : FunD K "need_weather" "need_weather" (defArgs z_need_weather) (defBody z_need_weather) (defScope z_need_weather) [] [] f fd) (B : Bs K mg) (C_is_weather : CalN P w K mg base (TT K) 4 "is_weather" ["thing"] [] m_is_weather) : FnN P w K mg base 5 f fd ["thing"] (spM K (TT K) 1 m_need_weather) := by
  have sc := sc_need_weather
  refine okM (T := TT K) F sc rfl (fun cdv A outer s H E Γ hT hG hr => ?_)
  obtain ⟨U0, H0, A0, m0, T0⟩ := Γ
  obtain rfl : T0 = TT K := hT
  have tk := takes_N (P := P) (w := w) (K := K) (mg := mg) (base := base) (N := N_need_weather) (qual := "need_weather") (scope := defScope z_need_weather) (f := f) (cd := cdv) (A := A) (outer := outer) (s := s) (H := H) (E := E)
  have pO := own_N (P := P) (w := w) (K := K) (mg := mg) (base := base) (N := N_need_weather) (qual := "need_weather") (scope := defScope z_need_weather) (f := f) (cd := cdv) (A := A) (outer := outer) (s := s) (H := H) (E := E)
  have hU := hr.units
  have hU65 := units65 hr
  have hU1 : (A.deeper (envOfC "need_weather" (defScope z_need_weather) s.heap.objs.size f cdv)).units + 1 < cLine := by have := hr.un; omega
  exact (s_one (s_if (s_not (s_tval (sCl C_is_weather hG hr (by decide) rfl tk (s_cons (sv 0) s_nil)))) (s_one (s_raise B.x_NoWeather rfl tk rfl)) s_end))
theorem ok_is_place (F : FunD K "is_place" "is_place" (defArgs z_is_place) (defBody z_is_place) (defScope z_is_place) [] [] f fd) (B : Bs K mg) (C_is_within : CalN P w K mg base (TT K) 2 "is_within" ["thing", "least", "most"] [] m_is_within) : FnN P w K mg base 3 f fd ["thing"] (spM K (TT K) 1 m_is_place) := by
  have sc := sc_is_place
  obtain ⟨_, h_MOST_PLACE⟩ := B.c_MOST_PLACE
  refine okM (T := TT K) F sc rfl (fun cdv A outer s H E Γ hT hG hr => ?_)
  obtain ⟨U0, H0, A0, m0, T0⟩ := Γ
  obtain rfl : T0 = TT K := hT
  have tk := takes_N (P := P) (w := w) (K := K) (mg := mg) (base := base) (N := N_is_place) (qual := "is_place") (scope := defScope z_is_place) (f := f) (cd := cdv) (A := A) (outer := outer) (s := s) (H := H) (E := E)
  have pO := own_N (P := P) (w := w) (K := K) (mg := mg) (base := base) (N := N_is_place) (qual := "is_place") (scope := defScope z_is_place) (f := f) (cd := cdv) (A := A) (outer := outer) (s := s) (H := H) (E := E)
  have hU := hr.units
  have hU65 := units65 hr
  have hU1 : (A.deeper (envOfC "is_place" (defScope z_is_place) s.heap.objs.size f cdv)).units + 1 < cLine := by have := hr.un; omega
  exact (s_one (s_ret (sCl C_is_within hG hr (by decide) rfl tk (s_cons (sv 0) (s_cons s_int (s_cons (s_gl (v := .int 15) rfl h_MOST_PLACE ⟨_, rfl⟩ (fun _ _ _ => .int .nil)) s_nil))))))
theorem ok_is_row (F : FunD K "is_row" "is_row" (defArgs z_is_row) (defBody z_is_row) (defScope z_is_row) [] [] f fd) (B : Bs K mg) (C_is_place : CalN P w K mg base (TT K) 3 "is_place" ["thing"] [] m_is_place) (C_is_within : CalN P w K mg base (TT K) 2 "is_within" ["thing", "least", "most"] [] m_is_within) : FnN P w K mg base 4 f fd ["thing"] (spM K (TT K) 1 m_is_row) := by
  have sc := sc_is_row
  obtain ⟨_, h_MOST_DATA⟩ := B.c_MOST_DATA
  refine okM (T := TT K) F sc rfl (fun cdv A outer s H E Γ hT hG hr => ?_)
  obtain ⟨U0, H0, A0, m0, T0⟩ := Γ
  obtain rfl : T0 = TT K := hT
  have tk := takes_N (P := P) (w := w) (K := K) (mg := mg) (base := base) (N := N_is_row) (qual := "is_row") (scope := defScope z_is_row) (f := f) (cd := cdv) (A := A) (outer := outer) (s := s) (H := H) (E := E)
  have pO := own_N (P := P) (w := w) (K := K) (mg := mg) (base := base) (N := N_is_row) (qual := "is_row") (scope := defScope z_is_row) (f := f) (cd := cdv) (A := A) (outer := outer) (s := s) (H := H) (E := E)
  have hU := hr.units
  have hU65 := units65 hr
  have hU1 : (A.deeper (envOfC "is_row" (defScope z_is_row) s.heap.objs.size f cdv)).units + 1 < cLine := by have := hr.un; omega
  exact (s_seq (s_if (PW.pt (s_or (s_not (s_tval (s_isi (n := "tuple") (by decide) rfl B.n_isinstance rfl B.n_tuple (by decide +kernel) (sv 0)))) (s_or1 (s_tcmp (o_ne hU) p_ne (s_cbP c_len o_len rfl B.n_len (by decide +kernel) (q_cons (qv 0) q_nil)) s_int (nomark _))))) (s_one (s_ret s_bl)) s_end)
      (s_one (s_ret (s_vand (sCl C_is_place hG hr (by decide) rfl tk (s_cons (s_ofP (q_ix hU1 (qv 0) q_int)) s_nil)) (s_vone (sCl C_is_within hG hr (by decide) rfl tk (s_cons (s_ofP (q_ix hU1 (qv 0) q_int)) (s_cons s_int (s_cons (s_gl (v := .int 63) rfl h_MOST_DATA ⟨_, rfl⟩ (fun _ _ _ => .int .nil)) s_nil)))))))))
theorem ok_are_rows (F : FunD K "are_rows" "are_rows" (defArgs z_are_rows) (defBody z_are_rows) (defScope z_are_rows) [] [] f fd) (B : Bs K mg) (C_is_row : CalN P w K mg base (TT K) 4 "is_row" ["thing"] [] m_is_row) : FnN P w K mg base 5 f fd ["thing"] (spM K (TT K) 1 m_are_rows) := by
  have sc := sc_are_rows
  obtain ⟨_, h_MOST_ROWS⟩ := B.c_MOST_ROWS
  refine okM (T := TT K) F sc rfl (fun cdv A outer s H E Γ hT hG hr => ?_)
  obtain ⟨U0, H0, A0, m0, T0⟩ := Γ
  obtain rfl : T0 = TT K := hT
  have tk := takes_N (P := P) (w := w) (K := K) (mg := mg) (base := base) (N := N_are_rows) (qual := "are_rows") (scope := defScope z_are_rows) (f := f) (cd := cdv) (A := A) (outer := outer) (s := s) (H := H) (E := E)
  have pO := own_N (P := P) (w := w) (K := K) (mg := mg) (base := base) (N := N_are_rows) (qual := "are_rows") (scope := defScope z_are_rows) (f := f) (cd := cdv) (A := A) (outer := outer) (s := s) (H := H) (E := E)
  have hU := hr.units
  have hU65 := units65 hr
  have hU1 : (A.deeper (envOfC "are_rows" (defScope z_are_rows) s.heap.objs.size f cdv)).units + 1 < cLine := by have := hr.un; omega
  exact (s_seq (s_if (PW.pt (s_or (s_not (s_tval (s_isi (n := "tuple") (by decide) rfl B.n_isinstance rfl B.n_tuple (by decide +kernel) (sv 0)))) (s_or (s_not (s_tchn o_le o_le p_le p_le s_int (s_cbP c_len o_len rfl B.n_len (by decide +kernel) (q_cons (qv 0) q_nil)) (s_gl (v := .int 4) rfl h_MOST_ROWS ⟨_, rfl⟩ (fun _ _ _ => .int .nil)) (fun h1 h2 h3 h4 h5 => pt_chain h1 h2 h3 h4 h5))) (s_or1 (s_not (s_tval (s_cb (cr_all rfl) o_all rfl B.n_all (by decide +kernel) (s_cons (s_lc (own := [("one", 1)]) rfl sc.nd (s_it (sv 0)) (blkOk_by (own := [("one", 1)]) (N := N_are_rows) (sc := defScope z_are_rows) (by decide +kernel)) (fun _ _ _ _ _ => (s_gn (i := 1) sc.nd rfl (Or.inl rfl))) (fun _ _ _ _ _ => s_ts0) (fun _ _ _ _ _ => (sCl C_is_row hG hr (by decide) rfl takes_noX (s_cons (sv 1) s_nil)))) s_nil)))))))) (s_one (s_ret s_bl)) s_end)
      (s_one (s_ret (s_cmp (o_eq hU) p_eq (s_lenS rfl B.n_len (s_scO (own := [("place", 2), ("data", 3)]) rfl sc.nd (s_it (sv 0)) (blkOk_by (own := [("place", 2), ("data", 3)]) (N := N_are_rows) (sc := defScope z_are_rows) (by decide +kernel)) (fun _ _ _ _ _ => (s_gt rfl (s_gcons (s_gn (i := 2) sc.nd rfl (Or.inl rfl)) (s_gcons (s_gn (i := 3) sc.nd rfl (Or.inl rfl)) s_gnil)))) (fun _ _ _ _ _ => s_ts0) (fun _ _ _ _ _ => (sv 2)))) (s_cbP c_len o_len rfl B.n_len (by decide +kernel) (q_cons (qv 0) q_nil)) (nomark _)))))
theorem ok_has_shape (F : FunD K "has_shape" "has_shape" (defArgs z_has_shape) (defBody z_has_shape) (defScope z_has_shape) [] [] f fd) (B : Bs K mg) (C_are_rows : CalN P w K mg base (TT K) 5 "are_rows" ["thing"] [] m_are_rows) (C_is_place : CalN P w K mg base (TT K) 3 "is_place" ["thing"] [] m_is_place) (C_is_row : CalN P w K mg base (TT K) 4 "is_row" ["thing"] [] m_is_row) : FnN P w K mg base 6 f fd ["thing"] (spM K (TT K) 1 m_has_shape) := by
  have sc := sc_has_shape
  refine okM (T := TT K) F sc rfl (fun cdv A outer s H E Γ hT hG hr => ?_)
  obtain ⟨U0, H0, A0, m0, T0⟩ := Γ
  obtain rfl : T0 = TT K := hT
  have tk := takes_N (P := P) (w := w) (K := K) (mg := mg) (base := base) (N := N_has_shape) (qual := "has_shape") (scope := defScope z_has_shape) (f := f) (cd := cdv) (A := A) (outer := outer) (s := s) (H := H) (E := E)
  have pO := own_N (P := P) (w := w) (K := K) (mg := mg) (base := base) (N := N_has_shape) (qual := "has_shape") (scope := defScope z_has_shape) (f := f) (cd := cdv) (A := A) (outer := outer) (s := s) (H := H) (E := E)
  have hU := hr.units
  have hU65 := units65 hr
  have hU1 : (A.deeper (envOfC "has_shape" (defScope z_has_shape) s.heap.objs.size f cdv)).units + 1 < cLine := by have := hr.un; omega
  exact (s_seq (s_if (PW.pt (s_or (s_not (s_tval (s_isi (n := "tuple") (by decide) rfl B.n_isinstance rfl B.n_tuple (by decide +kernel) (sv 0)))) (s_or (s_tcmp (o_eq hU) p_eq (sv 0) (s_tup s_nil) (nomark _)) (s_or1 (s_not (s_tval (s_isi (n := "str") (by decide) rfl B.n_isinstance rfl B.n_str (by decide +kernel) (s_ofP (q_ix hU1 (qv 0) q_int))))))))) (s_one (s_ret s_bl)) s_end)
      (s_seq (s_asgG (sv 0) (s_gstar (i := 1) (j := 2) rfl sc.nd rfl rfl (Or.inl rfl) (Or.inl rfl)))
      (s_seq (s_if (s_tcmpP (o_eq hU) p_eq (qv 1) q_str (nomark _)) (s_one (s_ret (s_cmp (o_eq hU) p_eq (sv 2) (s_lst s_nil) (nomark _)))) s_end)
      (s_seq (s_if (s_tcmpP (o_eq hU) p_eq (qv 1) q_str (nomark _)) (s_one (s_ret (sCl C_is_row hG hr (by decide) rfl tk (s_cons (s_sl (sv 0) (s_po1 s_int) s_po0) s_nil)))) s_end)
      (s_seq (s_if (s_tcmp (o_ne hU) p_ne (s_cbP c_len o_len rfl B.n_len (by decide +kernel) (q_cons (qv 2) q_nil)) s_int (nomark _)) (s_one (s_ret s_bl)) s_end)
      (s_seq (s_if (s_tcmpP (o_eq hU) p_eq (qv 1) q_str (nomark _)) (s_one (s_ret (sCl C_are_rows hG hr (by decide) rfl tk (s_cons (s_ofP (q_ix hU1 (qv 2) q_int)) s_nil)))) s_end)
      (s_one (s_ret (s_vand (s_cmp (oo_in hU65) p_in (sv 1) (s_tup (s_cons s_str (s_cons s_str s_nil))) (by rfl)) (s_vone (sCl C_is_place hG hr (by decide) rfl tk (s_cons (s_ofP (q_ix hU1 (qv 2) q_int)) s_nil))))))))))))
theorem ok_written (F : FunD K "written" "written" (defArgs z_written) (defBody z_written) (defScope z_written) [] [] f fd) (B : Bs K mg) : FnN P w K mg base 1 f fd ["order"] (spM K (TT K) 1 m_written) := by
  have sc := sc_written
  refine okM (T := TT K) F sc rfl (fun cdv A outer s H E Γ hT hG hr => ?_)
  obtain ⟨U0, H0, A0, m0, T0⟩ := Γ
  obtain rfl : T0 = TT K := hT
  have tk := takes_N (P := P) (w := w) (K := K) (mg := mg) (base := base) (N := N_written) (qual := "written") (scope := defScope z_written) (f := f) (cd := cdv) (A := A) (outer := outer) (s := s) (H := H) (E := E)
  have pO := own_N (P := P) (w := w) (K := K) (mg := mg) (base := base) (N := N_written) (qual := "written") (scope := defScope z_written) (f := f) (cd := cdv) (A := A) (outer := outer) (s := s) (H := H) (E := E)
  have hU := hr.units
  have hU65 := units65 hr
  have hU1 : (A.deeper (envOfC "written" (defScope z_written) s.heap.objs.size f cdv)).units + 1 < cLine := by have := hr.un; omega
  exact (s_seq (s_asgG (sv 0) (s_gstar (i := 1) (j := 2) rfl sc.nd rfl rfl (Or.inl rfl) (Or.inl rfl)))
      (s_seq (s_if (s_tcmpP (o_eq hU) p_eq (qv 1) q_str (nomark _)) (s_one (s_asgLc2 (i := 2) (own := [("row", 3), ("number", 4)]) (vs1 := [4]) rfl sc.nd rfl rfl (sw_true rfl rfl rfl (by decide +kernel)) (s_it (s_ofP (q_ix hU1 (qv 2) q_int))) (blkOk_by (own := [("row", 3), ("number", 4)]) (N := N_written) (sc := defScope z_written) (by decide +kernel)) (fun _ _ _ _ _ => (s_gn (i := 3) sc.nd rfl (Or.inl rfl))) (fun _ _ _ _ _ => (s_it (sv 3))) (fun _ _ _ _ _ => (s_gn (i := 4) sc.nd rfl (Or.inl rfl))) (fun _ _ _ _ _ => (sv 4)))) s_end)
      (s_one (s_ret (s_join s_str (s_op o_addB p_add (s_lst (s_cons (sv 1) s_nil)) (s_lc (own := [("number", 4)]) rfl sc.nd (s_it (sv 2)) (blkOk_by (own := [("number", 4)]) (N := N_written) (sc := defScope z_written) (by decide +kernel)) (fun _ _ _ _ _ => (s_gn (i := 4) sc.nd rfl (Or.inl rfl))) (fun _ _ _ _ _ => s_ts0) (fun _ _ _ _ _ => (s_ct cr_str o_str rfl B.n_str (by decide +kernel) (s_cons (sv 4) s_nil))))))))))
theorem ok_order_text (F : FunD K "order_text" "order_text" (defArgs z_order_text) (defBody z_order_text) (defScope z_order_text) [] [] f fd) (B : Bs K mg) (C_has_shape : CalN P w K mg base (TT K) 6 "has_shape" ["thing"] [] m_has_shape) (C_written : CalN P w K mg base (TT K) 1 "written" ["order"] [] m_written) : FnN P w K mg base 7 f fd ["order"] (spM K (TT K) 1 m_order_text) := by
  have sc := sc_order_text
  refine okM (T := TT K) F sc rfl (fun cdv A outer s H E Γ hT hG hr => ?_)
  obtain ⟨U0, H0, A0, m0, T0⟩ := Γ
  obtain rfl : T0 = TT K := hT
  have tk := takes_N (P := P) (w := w) (K := K) (mg := mg) (base := base) (N := N_order_text) (qual := "order_text") (scope := defScope z_order_text) (f := f) (cd := cdv) (A := A) (outer := outer) (s := s) (H := H) (E := E)
  have pO := own_N (P := P) (w := w) (K := K) (mg := mg) (base := base) (N := N_order_text) (qual := "order_text") (scope := defScope z_order_text) (f := f) (cd := cdv) (A := A) (outer := outer) (s := s) (H := H) (E := E)
  have hU := hr.units
  have hU65 := units65 hr
  have hU1 : (A.deeper (envOfC "order_text" (defScope z_order_text) s.heap.objs.size f cdv)).units + 1 < cLine := by have := hr.un; omega
  exact (s_seq (s_if (s_not (s_tval (sCl C_has_shape hG hr (by decide) rfl tk (s_cons (sv 0) s_nil)))) (s_one (s_raise B.x_NoOrder rfl tk rfl)) s_end)
      (s_one (s_ret (sCl C_written hG hr (by decide) rfl tk (s_cons (sv 0) s_nil)))))
theorem ok_weather_text (F : FunD K "weather_text" "weather_text" (defArgs z_weather_text) (defBody z_weather_text) (defScope z_weather_text) [] [] f fd) (B : Bs K mg) (C_need_weather : CalN P w K mg base (TT K) 5 "need_weather" ["thing"] [] m_need_weather) : FnN P w K mg base 6 f fd ["weather"] (spM K (TT K) 1 m_weather_text) := by
  have sc := sc_weather_text
  obtain ⟨_, h_BETWEEN⟩ := B.c_BETWEEN
  obtain ⟨_, h_NONE⟩ := B.c_NONE
  refine okM (T := TT K) F sc rfl (fun cdv A outer s H E Γ hT hG hr => ?_)
  obtain ⟨U0, H0, A0, m0, T0⟩ := Γ
  obtain rfl : T0 = TT K := hT
  have tk := takes_N (P := P) (w := w) (K := K) (mg := mg) (base := base) (N := N_weather_text) (qual := "weather_text") (scope := defScope z_weather_text) (f := f) (cd := cdv) (A := A) (outer := outer) (s := s) (H := H) (E := E)
  have pO := own_N (P := P) (w := w) (K := K) (mg := mg) (base := base) (N := N_weather_text) (qual := "weather_text") (scope := defScope z_weather_text) (f := f) (cd := cdv) (A := A) (outer := outer) (s := s) (H := H) (E := E)
  have hU := hr.units
  have hU65 := units65 hr
  have hU1 : (A.deeper (envOfC "weather_text" (defScope z_weather_text) s.heap.objs.size f cdv)).units + 1 < cLine := by have := hr.un; omega
  exact (s_seq (s_exp (sCl C_need_weather hG hr (by decide) rfl tk (s_cons (sv 0) s_nil)))
      (s_seq (s_asgO (i := 1) sc.nd rfl (Or.inl rfl) (s_lstO s_nil))
      (s_seq (s_for pO rfl (s_it (sv 0)) (s_gt rfl (s_gcons (s_gn (i := 2) sc.nd rfl (Or.inl rfl)) (s_gcons (s_gstar (i := 3) (j := 4) rfl sc.nd rfl rfl (Or.inl rfl) (Or.inl rfl)) s_gnil))) (s_one (s_exp (s_app (i := 1) rfl (by first | exact Or.inl rfl | exact Or.inr (Or.inl rfl) | exact Or.inr (Or.inr rfl)) (s_op o_addB p_add (s_fstr (.cons (s_fmt (sv 2)) (.cons (s_fmt (s_gl (v := .str ":") rfl h_BETWEEN ⟨_, rfl⟩ (fun _ _ _ => .str .nil))) (.cons (s_fmt (sv 3)) .nil)))) (s_join s_str (s_lc (own := [("number", 5)]) rfl sc.nd (s_it (sv 4)) (blkOk_by (own := [("number", 5)]) (N := N_weather_text) (sc := defScope z_weather_text) (by decide +kernel)) (fun _ _ _ _ _ => (s_gn (i := 5) sc.nd rfl (Or.inl rfl))) (fun _ _ _ _ _ => s_ts0) (fun _ _ _ _ _ => (s_ct cr_str o_str rfl B.n_str (by decide +kernel) (s_cons (sv 5) s_nil)))))) (fun hM ho ha => pe_bm PySem.F.plainAttrs_list PySem.F.slot_list_append PySem.F.type_list_append hM ho ha)))))
      (s_one (s_ret (s_vorS (s_join s_str (sv 1)) (s_vone (s_gl (v := .str "-") rfl h_NONE ⟨_, rfl⟩ (fun _ _ _ => .str .nil)))))))))
theorem ok_number_in (F : FunD K "number_in" "number_in" (defArgs z_number_in) (defBody z_number_in) (defScope z_number_in) [] [] f fd) (B : Bs K mg) : FnN P w K mg base 1 f fd ["word"] (spM K (TT K) 1 m_number_in) := by
  have sc := sc_number_in
  obtain ⟨_, h_FIGURES⟩ := B.c_FIGURES
  obtain ⟨_, h_MOST_FIGURES⟩ := B.c_MOST_FIGURES
  refine okM (T := TT K) F sc rfl (fun cdv A outer s H E Γ hT hG hr => ?_)
  obtain ⟨U0, H0, A0, m0, T0⟩ := Γ
  obtain rfl : T0 = TT K := hT
  have tk := takes_N (P := P) (w := w) (K := K) (mg := mg) (base := base) (N := N_number_in) (qual := "number_in") (scope := defScope z_number_in) (f := f) (cd := cdv) (A := A) (outer := outer) (s := s) (H := H) (E := E)
  have pO := own_N (P := P) (w := w) (K := K) (mg := mg) (base := base) (N := N_number_in) (qual := "number_in") (scope := defScope z_number_in) (f := f) (cd := cdv) (A := A) (outer := outer) (s := s) (H := H) (E := E)
  have hU := hr.units
  have hU65 := units65 hr
  have hU1 : (A.deeper (envOfC "number_in" (defScope z_number_in) s.heap.objs.size f cdv)).units + 1 < cLine := by have := hr.un; omega
  exact (s_seq (s_if (PW.pt (s_or (s_not (s_tchn o_le o_le p_le p_le s_int (s_cbP c_len o_len rfl B.n_len (by decide +kernel) (q_cons (qv 0) q_nil)) (s_gl (v := .int 9) rfl h_MOST_FIGURES ⟨_, rfl⟩ (fun _ _ _ => .int .nil)) (fun h1 h2 h3 h4 h5 => pt_chain h1 h2 h3 h4 h5))) (s_or1 (s_not (s_tval (s_cb (cr_all rfl) o_all rfl B.n_all (by decide +kernel) (s_cons (s_lc (own := [("sign", 1)]) rfl sc.nd (s_itS (sv 0)) (blkOk_by (own := [("sign", 1)]) (N := N_number_in) (sc := defScope z_number_in) (by decide +kernel)) (fun _ _ _ _ _ => (s_gn (i := 1) sc.nd rfl (Or.inl rfl))) (fun _ _ _ _ _ => s_ts0) (fun _ _ _ _ _ => (s_cmpP (oo_inS hU65) p_inS (qv 1) (q_gl (v := .str "0123456789") rfl h_FIGURES ⟨_, rfl⟩ (fun _ _ _ => .str .nil)) (by rfl)))) s_nil))))))) (s_one (s_ret s_non)) s_end)
      (s_one (s_ret (s_ife (PW.pt (s_or (s_tcmpP (o_ne hU) p_ne (q_ix hU1 (qv 0) q_int) q_str (nomark _)) (s_or1 (s_tcmpP (o_eq hU) p_eq (qv 0) q_str (nomark _))))) (s_ct cr_intS o_intS rfl B.n_int (by decide +kernel) (s_cons (sv 0) s_nil)) s_non))))
theorem ok_numbers_in (F : FunD K "numbers_in" "numbers_in" (defArgs z_numbers_in) (defBody z_numbers_in) (defScope z_numbers_in) [] [] f fd) (B : Bs K mg) (C_number_in : CalN P w K mg base (TT K) 1 "number_in" ["word"] [] m_number_in) : FnN P w K mg base 2 f fd ["words"] (spM K (TT K) 1 m_numbers_in) := by
  have sc := sc_numbers_in
  refine okM (T := TT K) F sc rfl (fun cdv A outer s H E Γ hT hG hr => ?_)
  obtain ⟨U0, H0, A0, m0, T0⟩ := Γ
  obtain rfl : T0 = TT K := hT
  have tk := takes_N (P := P) (w := w) (K := K) (mg := mg) (base := base) (N := N_numbers_in) (qual := "numbers_in") (scope := defScope z_numbers_in) (f := f) (cd := cdv) (A := A) (outer := outer) (s := s) (H := H) (E := E)
  have pO := own_N (P := P) (w := w) (K := K) (mg := mg) (base := base) (N := N_numbers_in) (qual := "numbers_in") (scope := defScope z_numbers_in) (f := f) (cd := cdv) (A := A) (outer := outer) (s := s) (H := H) (E := E)
  have hU := hr.units
  have hU65 := units65 hr
  have hU1 : (A.deeper (envOfC "numbers_in" (defScope z_numbers_in) s.heap.objs.size f cdv)).units + 1 < cLine := by have := hr.un; omega
  exact (s_seq (s_asgLc (i := 1) (own := [("word", 2)]) rfl sc.nd rfl rfl (sw_true rfl rfl rfl (by decide +kernel)) (s_it (sv 0)) (blkOk_by (own := [("word", 2)]) (N := N_numbers_in) (sc := defScope z_numbers_in) (by decide +kernel)) (fun _ _ _ _ _ => (s_gn (i := 2) sc.nd rfl (Or.inl rfl))) (fun _ _ _ _ _ => s_ts0) (fun _ _ _ _ _ => (sCl C_number_in hG hr (by decide) rfl takes_noX (s_cons (sv 2) s_nil))))
      (s_one (s_ret (s_ife (s_tcmpP (oo_in hU65) p_in q_non (qv 1) (by rfl)) s_non (s_ctP call_tuple_of o_tuple rfl B.n_tuple (by decide +kernel) (q_cons (qv 1) q_nil))))))
theorem ok_order_in (F : FunD K "order_in" "order_in" (defArgs z_order_in) (defBody z_order_in) (defScope z_order_in) [] [] f fd) (B : Bs K mg) (C_has_shape : CalN P w K mg base (TT K) 6 "has_shape" ["thing"] [] m_has_shape) (C_numbers_in : CalN P w K mg base (TT K) 2 "numbers_in" ["words"] [] m_numbers_in) : FnN P w K mg base 7 f fd ["text"] (spM K (TT K) 1 m_order_in) := by
  have sc := sc_order_in
  refine okM (T := TT K) F sc rfl (fun cdv A outer s H E Γ hT hG hr => ?_)
  obtain ⟨U0, H0, A0, m0, T0⟩ := Γ
  obtain rfl : T0 = TT K := hT
  have tk := takes_N (P := P) (w := w) (K := K) (mg := mg) (base := base) (N := N_order_in) (qual := "order_in") (scope := defScope z_order_in) (f := f) (cd := cdv) (A := A) (outer := outer) (s := s) (H := H) (E := E)
  have pO := own_N (P := P) (w := w) (K := K) (mg := mg) (base := base) (N := N_order_in) (qual := "order_in") (scope := defScope z_order_in) (f := f) (cd := cdv) (A := A) (outer := outer) (s := s) (H := H) (E := E)
  have hU := hr.units
  have hU65 := units65 hr
  have hU1 : (A.deeper (envOfC "order_in" (defScope z_order_in) s.heap.objs.size f cdv)).units + 1 < cLine := by have := hr.un; omega
  exact (s_seq (s_asgG (s_split (sv 0) s_str) (s_gsu (i := 1) (j := 2) rfl sc.nd rfl rfl (Or.inl rfl) (Or.inl rfl)))
      (s_seq (s_asg (i := 3) sc.nd rfl (Or.inl rfl) (sCl C_numbers_in hG hr (by decide) rfl tk (s_cons (sv 2) s_nil)))
      (s_seq (s_if (s_tcmpP o_is p_is (qv 3) q_non (nomark _)) (s_one (s_ret s_non)) s_end)
      (s_seq (s_asg (i := 4) sc.nd rfl (Or.inl rfl) (s_op o_addB p_add (s_tup (s_cons (sv 1) s_nil)) (sv 3)))
      (s_seq (s_if (s_tcmpP (o_eq hU) p_eq (qv 1) q_str (nomark _)) (s_one (s_asg (i := 4) sc.nd rfl (Or.inl rfl) (s_ife (s_tcmp (o_eq hU) p_eq (s_op o_mod p_mod (s_cbP c_len o_len rfl B.n_len (by decide +kernel) (q_cons (qv 3) q_nil)) s_int) s_int (nomark _)) (s_tup (s_cons (sv 1) (s_cons (s_tz rfl rfl B.n_tuple rfl B.n_zip (s_cons (s_stp0 (sv 3)) (s_cons (s_stp1 (sv 3)) s_nil))) s_nil))) (s_tup s_nil)))) s_end)
      (s_one (s_ret (s_ife (s_tval (sCl C_has_shape hG hr (by decide) rfl tk (s_cons (sv 4) s_nil))) (sv 4) s_non))))))))
theorem ok_fault_in (F : FunD K "fault_in" "fault_in" (defArgs z_fault_in) (defBody z_fault_in) (defScope z_fault_in) [] [] f fd) (B : Bs K mg) (C_number_in : CalN P w K mg base (TT K) 1 "number_in" ["word"] [] m_number_in) : FnN P w K mg base 2 f fd ["word"] (spM K (TT K) 1 m_fault_in) := by
  have sc := sc_fault_in
  obtain ⟨_, h_BETWEEN⟩ := B.c_BETWEEN
  obtain ⟨_, h_BIT⟩ := B.c_BIT
  refine okM (T := TT K) F sc rfl (fun cdv A outer s H E Γ hT hG hr => ?_)
  obtain ⟨U0, H0, A0, m0, T0⟩ := Γ
  obtain rfl : T0 = TT K := hT
  have tk := takes_N (P := P) (w := w) (K := K) (mg := mg) (base := base) (N := N_fault_in) (qual := "fault_in") (scope := defScope z_fault_in) (f := f) (cd := cdv) (A := A) (outer := outer) (s := s) (H := H) (E := E)
  have pO := own_N (P := P) (w := w) (K := K) (mg := mg) (base := base) (N := N_fault_in) (qual := "fault_in") (scope := defScope z_fault_in) (f := f) (cd := cdv) (A := A) (outer := outer) (s := s) (H := H) (E := E)
  have hU := hr.units
  have hU65 := units65 hr
  have hU1 : (A.deeper (envOfC "fault_in" (defScope z_fault_in) s.heap.objs.size f cdv)).units + 1 < cLine := by have := hr.un; omega
  exact (s_seq (s_asgG (s_partition (sv 0) (s_gl (v := .str ":") rfl h_BETWEEN ⟨_, rfl⟩ (fun _ _ _ => .str .nil))) (s_gt rfl (s_gcons (s_gn (i := 1) sc.nd rfl (Or.inl rfl)) (s_gcons (s_gn (i := 2) sc.nd rfl (Or.inl rfl)) (s_gcons (s_gn (i := 3) sc.nd rfl (Or.inl rfl)) s_gnil)))))
      (s_seq (s_asg (i := 4) sc.nd rfl (Or.inl rfl) (sCl C_number_in hG hr (by decide) rfl tk (s_cons (sv 1) s_nil)))
      (s_seq (s_if (PW.pt (s_or (s_tcmpP o_is p_is (qv 4) q_non (nomark _)) (s_or1 (s_tcmpP (o_eq hU) p_eq (qv 2) q_str (nomark _))))) (s_one (s_ret s_non)) s_end)
      (s_seq (s_if (s_tcmp (oo_in hU65) p_in (sv 3) (s_tup (s_cons s_str (s_cons s_str s_nil))) (by rfl)) (s_one (s_ret (s_tup (s_cons (sv 4) (s_cons (s_tup (s_cons (sv 3) s_nil)) s_nil))))) s_end)
      (s_seq (s_asg (i := 5) sc.nd rfl (Or.inl rfl) (s_ife (s_tval (s_startsw (sv 3) (s_gl (v := .str "bit") rfl h_BIT ⟨_, rfl⟩ (fun _ _ _ => .str .nil)))) (sCl C_number_in hG hr (by decide) rfl tk (s_cons (s_sl (sv 3) (s_po1 (s_cbP c_len o_len rfl B.n_len (by decide +kernel) (q_cons (q_gl (v := .str "bit") rfl h_BIT ⟨_, rfl⟩ (fun _ _ _ => .str .nil)) q_nil))) s_po0) s_nil)) s_non))
      (s_one (s_ret (s_ife (s_tcmpP o_is p_is (qv 5) q_non (nomark _)) s_non (s_tup (s_cons (sv 4) (s_cons (s_tup (s_cons (s_gl (v := .str "bit") rfl h_BIT ⟨_, rfl⟩ (fun _ _ _ => .str .nil)) (s_cons (sv 5) s_nil))) s_nil)))))))))))
theorem ok_read_order (F : FunD K "read_order" "read_order" (defArgs z_read_order) (defBody z_read_order) (defScope z_read_order) [] [] f fd) (B : Bs K mg) (C_order_in : CalN P w K mg base (TT K) 7 "order_in" ["text"] [] m_order_in) : FnN P w K mg base 8 f fd ["text"] (spM K (TT K) 1 m_read_order) := by
  have sc := sc_read_order
  refine okM (T := TT K) F sc rfl (fun cdv A outer s H E Γ hT hG hr => ?_)
  obtain ⟨U0, H0, A0, m0, T0⟩ := Γ
  obtain rfl : T0 = TT K := hT
  have tk := takes_N (P := P) (w := w) (K := K) (mg := mg) (base := base) (N := N_read_order) (qual := "read_order") (scope := defScope z_read_order) (f := f) (cd := cdv) (A := A) (outer := outer) (s := s) (H := H) (E := E)
  have pO := own_N (P := P) (w := w) (K := K) (mg := mg) (base := base) (N := N_read_order) (qual := "read_order") (scope := defScope z_read_order) (f := f) (cd := cdv) (A := A) (outer := outer) (s := s) (H := H) (E := E)
  have hU := hr.units
  have hU65 := units65 hr
  have hU1 : (A.deeper (envOfC "read_order" (defScope z_read_order) s.heap.objs.size f cdv)).units + 1 < cLine := by have := hr.un; omega
  exact (s_seq (s_asg (i := 1) sc.nd rfl (Or.inl rfl) (s_ife (s_tval (s_isi (n := "str") (by decide) rfl B.n_isinstance rfl B.n_str (by decide +kernel) (sv 0))) (sCl C_order_in hG hr (by decide) rfl tk (s_cons (sv 0) s_nil)) s_non))
      (s_seq (s_if (s_tcmpP o_is p_is (qv 1) q_non (nomark _)) (s_one (s_raise B.x_NoText rfl tk rfl)) s_end)
      (s_one (s_ret (sv 1)))))
theorem ok_read_weather (F : FunD K "read_weather" "read_weather" (defArgs z_read_weather) (defBody z_read_weather) (defScope z_read_weather) [] [] f fd) (B : Bs K mg) (C_fault_in : CalN P w K mg base (TT K) 2 "fault_in" ["word"] [] m_fault_in) (C_is_weather : CalN P w K mg base (TT K) 4 "is_weather" ["thing"] [] m_is_weather) : FnN P w K mg base 5 f fd ["text"] (spM K (TT K) 1 m_read_weather) := by
  have sc := sc_read_weather
  obtain ⟨_, h_NONE⟩ := B.c_NONE
  refine okM (T := TT K) F sc rfl (fun cdv A outer s H E Γ hT hG hr => ?_)
  obtain ⟨U0, H0, A0, m0, T0⟩ := Γ
  obtain rfl : T0 = TT K := hT
  have tk := takes_N (P := P) (w := w) (K := K) (mg := mg) (base := base) (N := N_read_weather) (qual := "read_weather") (scope := defScope z_read_weather) (f := f) (cd := cdv) (A := A) (outer := outer) (s := s) (H := H) (E := E)
  have pO := own_N (P := P) (w := w) (K := K) (mg := mg) (base := base) (N := N_read_weather) (qual := "read_weather") (scope := defScope z_read_weather) (f := f) (cd := cdv) (A := A) (outer := outer) (s := s) (H := H) (E := E)
  have hU := hr.units
  have hU65 := units65 hr
  have hU1 : (A.deeper (envOfC "read_weather" (defScope z_read_weather) s.heap.objs.size f cdv)).units + 1 < cLine := by have := hr.un; omega
  exact (s_seq (s_if (s_not (s_tval (s_isi (n := "str") (by decide) rfl B.n_isinstance rfl B.n_str (by decide +kernel) (sv 0)))) (s_one (s_raise B.x_NoText rfl tk rfl)) s_end)
      (s_seq (s_asg (i := 1) sc.nd rfl (Or.inl rfl) (s_ife (s_tcmpP (o_ne hU) p_ne (qv 0) (q_gl (v := .str "-") rfl h_NONE ⟨_, rfl⟩ (fun _ _ _ => .str .nil)) (nomark _)) (s_ct call_tuple_of o_tuple rfl B.n_tuple (by decide +kernel) (s_cons (s_lc (own := [("word", 2)]) rfl sc.nd (s_it (s_split (sv 0) s_str)) (blkOk_by (own := [("word", 2)]) (N := N_read_weather) (sc := defScope z_read_weather) (by decide +kernel)) (fun _ _ _ _ _ => (s_gn (i := 2) sc.nd rfl (Or.inl rfl))) (fun _ _ _ _ _ => s_ts0) (fun _ _ _ _ _ => (sCl C_fault_in hG hr (by decide) rfl takes_noX (s_cons (sv 2) s_nil)))) s_nil)) (s_tup s_nil)))
      (s_seq (s_if (PW.pt (s_or (s_tcmpP (oo_in hU65) p_in q_non (qv 1) (by rfl)) (s_or1 (s_not (s_tval (sCl C_is_weather hG hr (by decide) rfl tk (s_cons (sv 1) s_nil))))))) (s_one (s_raise B.x_NoText rfl tk rfl)) s_end)
      (s_one (s_ret (sv 1))))))
theorem ok__law_cell_at (F : FunD K "_law_cell_at" "_law_cell_at" (defArgs z__law_cell_at) (defBody z__law_cell_at) (defScope z__law_cell_at) [] [] f fd) (B : Bs K mg) : FnN P w K mg base 1 f fd ["_law_script", "_law_k"] (spM K (TT K) 2 m__law_cell_at) := by
  have sc := sc__law_cell_at
  refine okM (T := TT K) F sc rfl (fun cdv A outer s H E Γ hT hG hr => ?_)
  obtain ⟨U0, H0, A0, m0, T0⟩ := Γ
  obtain rfl : T0 = TT K := hT
  have tk := takes_N (P := P) (w := w) (K := K) (mg := mg) (base := base) (N := N__law_cell_at) (qual := "_law_cell_at") (scope := defScope z__law_cell_at) (f := f) (cd := cdv) (A := A) (outer := outer) (s := s) (H := H) (E := E)
  have pO := own_N (P := P) (w := w) (K := K) (mg := mg) (base := base) (N := N__law_cell_at) (qual := "_law_cell_at") (scope := defScope z__law_cell_at) (f := f) (cd := cdv) (A := A) (outer := outer) (s := s) (H := H) (E := E)
  have hU := hr.units
  have hU65 := units65 hr
  have hU1 : (A.deeper (envOfC "_law_cell_at" (defScope z__law_cell_at) s.heap.objs.size f cdv)).units + 1 < cLine := by have := hr.un; omega
  exact (s_seq (s_if (s_tcmp o_lt p_lt (sv 1) (s_cbP c_len o_len rfl B.n_len (by decide +kernel) (q_cons (qv 0) q_nil)) (nomark _)) (s_one (s_ret (s_ofP (q_ix hU1 (qv 0) (qv 1))))) s_end)
      (s_one (s_ret s_int)))
theorem ok__law_state (F : FunD K "_law_state" "_law_state" (defArgs z__law_state) (defBody z__law_state) (defScope z__law_state) [] [] f fd) (B : Bs K mg) (C__law_cell_at : CalN P w K mg base (TT K) 1 "_law_cell_at" ["_law_script", "_law_k"] [] m__law_cell_at) : FnN P w K mg base 2 f fd ["_law_script", "_law_k"] (spM K (TT K) 2 m__law_state) := by
  have sc := sc__law_state
  refine okM (T := TT K) F sc rfl (fun cdv A outer s H E Γ hT hG hr => ?_)
  obtain ⟨U0, H0, A0, m0, T0⟩ := Γ
  obtain rfl : T0 = TT K := hT
  have tk := takes_N (P := P) (w := w) (K := K) (mg := mg) (base := base) (N := N__law_state) (qual := "_law_state") (scope := defScope z__law_state) (f := f) (cd := cdv) (A := A) (outer := outer) (s := s) (H := H) (E := E)
  have pO := own_N (P := P) (w := w) (K := K) (mg := mg) (base := base) (N := N__law_state) (qual := "_law_state") (scope := defScope z__law_state) (f := f) (cd := cdv) (A := A) (outer := outer) (s := s) (H := H) (E := E)
  have hU := hr.units
  have hU65 := units65 hr
  have hU1 : (A.deeper (envOfC "_law_state" (defScope z__law_state) s.heap.objs.size f cdv)).units + 1 < cLine := by have := hr.un; omega
  exact (s_seq (s_asg (i := 2) sc.nd rfl (Or.inl rfl) (sCl C__law_cell_at hG hr (by decide) rfl tk (s_cons (sv 0) (s_cons (sv 1) s_nil))))
      (s_one (s_ret (s_prom (s_lstO (s_cons (s_cb (call_max2 rfl) o_max2 rfl B.n_max (by decide +kernel) (s_cons s_int (s_cons (s_op o_subB p_sub (sv 2) (s_op o_pow p_pow s_int s_int)) s_nil))) (s_cons (s_op o_addB p_add (s_op o_mod p_mod (sv 2) s_int) s_int) (s_cons s_int s_nil))))))))
theorem ok__law_choice (F : FunD K "_law_choice" "_law_choice" (defArgs z__law_choice) (defBody z__law_choice) (defScope z__law_choice) [] [] f fd) (B : Bs K mg) : FnN P w K mg base 1 f fd ["_law_state_here", "_law_many"] (spM K (TT K) 2 m__law_choice) := by
  have sc := sc__law_choice
  refine okM (T := TT K) F sc rfl (fun cdv A outer s H E Γ hT hG hr => ?_)
  obtain ⟨U0, H0, A0, m0, T0⟩ := Γ
  obtain rfl : T0 = TT K := hT
  have tk := takes_N (P := P) (w := w) (K := K) (mg := mg) (base := base) (N := N__law_choice) (qual := "_law_choice") (scope := defScope z__law_choice) (f := f) (cd := cdv) (A := A) (outer := outer) (s := s) (H := H) (E := E)
  have pO := own_N (P := P) (w := w) (K := K) (mg := mg) (base := base) (N := N__law_choice) (qual := "_law_choice") (scope := defScope z__law_choice) (f := f) (cd := cdv) (A := A) (outer := outer) (s := s) (H := H) (E := E)
  have hU := hr.units
  have hU65 := units65 hr
  have hU1 : (A.deeper (envOfC "_law_choice" (defScope z__law_choice) s.heap.objs.size f cdv)).units + 1 < cLine := by have := hr.un; omega
  exact (s_seq (s_if (s_tcmpP o_gt p_gt (q_ix hU1 (qv 0) q_int) q_int (nomark _)) (s_seq (s_asg (i := 2) sc.nd rfl (Or.inl rfl) (s_op o_mod p_mod (s_ofP (q_ix hU1 (qv 0) q_int)) (sv 1)))
      (s_seq (sStI hU1 (s_b0 (qv 0)) q_int (s_op o_fdv p_fdv (s_ofP (q_ix hU1 (qv 0) q_int)) (sv 1)))
      (s_one (s_ret (sv 2))))) s_end)
      (s_seq (sStI hU1 (s_b0 (qv 0)) q_int (s_op o_addB p_add (s_ofP (q_ix hU1 (qv 0) q_int)) s_int))
      (s_seq (sStI hU1 (s_b0 (qv 0)) q_int (s_op o_mod p_mod (s_op o_addB p_add (s_op o_addB p_add (s_op o_mul2 p_mul (s_ofP (q_ix hU1 (qv 0) q_int)) s_int) s_int) (s_ofP (q_ix hU1 (qv 0) q_int))) s_int))
      (s_seq (s_asg (i := 3) sc.nd rfl (Or.inl rfl) (s_op o_mod p_mod (s_op o_addB p_add (s_op o_addB p_add (s_op o_mul2 p_mul (s_ofP (q_ix hU1 (qv 0) q_int)) (s_ofP (q_ix hU1 (qv 0) q_int))) (s_op o_mul2 p_mul s_int (s_ofP (q_ix hU1 (qv 0) q_int)))) s_int) s_int))
      (s_seq (s_asg (i := 3) sc.nd rfl (Or.inl rfl) (s_op o_mod p_mod (s_op o_addB p_add (s_op o_mul2 p_mul (sv 3) (sv 3)) (s_op o_mul2 p_mul s_int (sv 3))) s_int))
      (s_one (s_ret (s_op o_mod p_mod (s_op o_fdv p_fdv (sv 3) s_int) (sv 1)))))))))
theorem ok__law_order (F : FunD K "_law_order" "_law_order" (defArgs z__law_order) (defBody z__law_order) (defScope z__law_order) [] [] f fd) (B : Bs K mg) (C__law_choice : CalN P w K mg base (TT K) 1 "_law_choice" ["_law_state_here", "_law_many"] [] m__law_choice) : FnN P w K mg base 2 f fd ["_law_state_here", "_law_plan"] (spM K (TT K) 2 m__law_order) := by
  have sc := sc__law_order
  refine okM (T := TT K) F sc rfl (fun cdv A outer s H E Γ hT hG hr => ?_)
  obtain ⟨U0, H0, A0, m0, T0⟩ := Γ
  obtain rfl : T0 = TT K := hT
  have tk := takes_N (P := P) (w := w) (K := K) (mg := mg) (base := base) (N := N__law_order) (qual := "_law_order") (scope := defScope z__law_order) (f := f) (cd := cdv) (A := A) (outer := outer) (s := s) (H := H) (E := E)
  have pO := own_N (P := P) (w := w) (K := K) (mg := mg) (base := base) (N := N__law_order) (qual := "_law_order") (scope := defScope z__law_order) (f := f) (cd := cdv) (A := A) (outer := outer) (s := s) (H := H) (E := E)
  have hU := hr.units
  have hU65 := units65 hr
  have hU1 : (A.deeper (envOfC "_law_order" (defScope z__law_order) s.heap.objs.size f cdv)).units + 1 < cLine := by have := hr.un; omega
  exact (s_seq (s_par (i := 2) (j := 3) rfl sc.nd rfl rfl (by decide) rfl rfl (s_xI (sCl C__law_choice hG hr (by decide) rfl tk (s_cons (sv 0) (s_cons s_int s_nil)))) (s_xI (sCl C__law_choice hG hr (by decide) rfl tk (s_cons (sv 0) (s_cons (s_ofP (q_ix hU1 (qv 1) q_int)) s_nil)))) rfl)
      (s_seq (s_if (s_tcmpP o_lt p_lt (qv 2) q_int (nomark _)) (s_one (s_ret (s_tup (s_cons s_str (s_cons (sv 3) (s_cons (sCl C__law_choice hG hr (by decide) rfl tk (s_cons (sv 0) (s_cons s_int s_nil))) s_nil)))))) s_end)
      (s_seq (s_if (s_tcmpP (o_eq hU) p_eq (qv 2) q_int (nomark _)) (s_one (s_ret (s_tup (s_cons s_str (s_cons (sv 3) s_nil))))) s_end)
      (s_seq (s_if (s_tcmpP o_lt p_lt (qv 2) q_int (nomark _)) (s_seq (s_par (i := 4) (j := 5) rfl sc.nd rfl rfl (by decide) rfl rfl (s_xO (s_lrgO rfl rfl B.n_list rfl B.n_range (s_ofP (q_ix hU1 (qv 1) q_int)))) (s_xO (s_lstO s_nil)) rfl)
      (s_seq (s_for pO rfl (s_rng1 rfl B.n_range (s_cons (s_op o_addB p_add s_int (sCl C__law_choice hG hr (by decide) rfl tk (s_cons (sv 0) (s_cons (s_cbP (call_min2 rfl) o_min2 rfl B.n_min (by decide +kernel) (q_cons q_int (q_cons (q_ix hU1 (qv 1) q_int) q_nil))) s_nil)))) s_nil)) (s_gn (i := 6) sc.nd rfl (Or.inl rfl)) (s_one (s_exp (s_app (i := 5) rfl (by first | exact Or.inl rfl | exact Or.inr (Or.inl rfl) | exact Or.inr (Or.inr rfl)) (s_tup (s_cons (s_pop (i := 4) rfl (by first | exact Or.inl rfl | exact Or.inr (Or.inl rfl) | exact Or.inr (Or.inr rfl)) (sCl C__law_choice hG hr (by decide) rfl tk (s_cons (sv 0) (s_cons (s_cbP c_len o_len rfl B.n_len (by decide +kernel) (q_cons (qv 4) q_nil)) s_nil))) (fun hM ho ha => pe_bm PySem.F.plainAttrs_list PySem.F.slot_list_pop PySem.F.type_list_pop hM ho ha)) (s_cons (sCl C__law_choice hG hr (by decide) rfl tk (s_cons (sv 0) (s_cons s_int s_nil))) s_nil))) (fun hM ho ha => pe_bm PySem.F.plainAttrs_list PySem.F.slot_list_append PySem.F.type_list_append hM ho ha)))))
      (s_one (s_ret (s_tup (s_cons s_str (s_cons (s_ctP call_tuple_of o_tuple rfl B.n_tuple (by decide +kernel) (q_cons (qv 5) q_nil)) s_nil))))))) s_end)
      (s_one (s_ret (s_tup (s_cons s_str (s_cons (sv 3) s_nil)))))))))
theorem ok__law_marks (F : FunD K "_law_marks" "_law_marks" (defArgs z__law_marks) (defBody z__law_marks) (defScope z__law_marks) [] [] f fd) (B : Bs K mg) : FnX P w K mg base (TT K) excU 1 f fd ["_law_e"] m__law_marks := by
  have sc := sc__law_marks
  refine okX (T := TT K) F sc rfl (fun cdv A outer s H E Γ z_ c_ hT ep_ m0_ hot_ hr => ?_)
  obtain ⟨U0, H0, A0, m0, T0⟩ := Γ
  obtain rfl : T0 = TT K := hT
  have tk : L2N.Takes (cxHt P w K mg base N__law_marks "_law_marks" (defScope z__law_marks) f cdv A outer s H E z_) (fun cls d _ H => E cls d H) := L2N.takes_of rfl rfl rfl rfl
  have hU := (unitsH hr).1
  have hU65 := (unitsH hr).2.1
  have hU1 := (unitsH hr).2.2
  exact (s_seq (s_asg (i := 1) sc.nd rfl (Or.inl rfl) (s_lst (s_cons (s_isX (i := 0) B.ea List.mem_cons_self ep_ m0_ B.ix_NoWidth (pe_glob (v := .ref (He.ga K "NoWidth")) rfl B.x_NoWidth.gl rfl) (fun _ h => h) rfl B.n_isinstance rfl (by first | exact Or.inl rfl | exact Or.inr (Or.inl rfl) | exact Or.inr (Or.inr rfl))) (s_cons (s_isX (i := 0) B.ea List.mem_cons_self ep_ m0_ B.ix_NoNumber (pe_glob (v := .ref (He.ga K "NoNumber")) rfl B.x_NoNumber.gl rfl) (fun _ h => h) rfl B.n_isinstance rfl (by first | exact Or.inl rfl | exact Or.inr (Or.inl rfl) | exact Or.inr (Or.inr rfl))) (s_cons (s_isX (i := 0) B.ea List.mem_cons_self ep_ m0_ B.ix_NoWord (pe_glob (v := .ref (He.ga K "NoWord")) rfl B.x_NoWord.gl rfl) (fun _ h => h) rfl B.n_isinstance rfl (by first | exact Or.inl rfl | exact Or.inr (Or.inl rfl) | exact Or.inr (Or.inr rfl))) (s_cons (s_isX (i := 0) B.ea List.mem_cons_self ep_ m0_ B.ix_NoFields (pe_glob (v := .ref (He.ga K "NoFields")) rfl B.x_NoFields.gl rfl) (fun _ h => h) rfl B.n_isinstance rfl (by first | exact Or.inl rfl | exact Or.inr (Or.inl rfl) | exact Or.inr (Or.inr rfl))) s_nil))))))
      (s_seq (s_asg (i := 1) sc.nd rfl (Or.inl rfl) (s_op o_addB p_add (sv 1) (s_lst (s_cons (s_isX (i := 0) B.ea List.mem_cons_self ep_ m0_ B.ix_NoWeather (pe_glob (v := .ref (He.ga K "NoWeather")) rfl B.x_NoWeather.gl rfl) (fun _ h => h) rfl B.n_isinstance rfl (by first | exact Or.inl rfl | exact Or.inr (Or.inl rfl) | exact Or.inr (Or.inr rfl))) (s_cons (s_isX (i := 0) B.ea List.mem_cons_self ep_ m0_ B.ix_NoBlock (pe_glob (v := .ref (He.ga K "NoBlock")) rfl B.x_NoBlock.gl rfl) (fun _ h => h) rfl B.n_isinstance rfl (by first | exact Or.inl rfl | exact Or.inr (Or.inl rfl) | exact Or.inr (Or.inr rfl))) (s_cons (s_isX (i := 0) B.ea List.mem_cons_self ep_ m0_ B.ix_NoPage (pe_glob (v := .ref (He.ga K "NoPage")) rfl B.x_NoPage.gl rfl) (fun _ h => h) rfl B.n_isinstance rfl (by first | exact Or.inl rfl | exact Or.inr (Or.inl rfl) | exact Or.inr (Or.inr rfl))) (s_cons (s_isX (i := 0) B.ea List.mem_cons_self ep_ m0_ B.ix_NoPlan (pe_glob (v := .ref (He.ga K "NoPlan")) rfl B.x_NoPlan.gl rfl) (fun _ h => h) rfl B.n_isinstance rfl (by first | exact Or.inl rfl | exact Or.inr (Or.inl rfl) | exact Or.inr (Or.inr rfl))) s_nil)))))))
      (s_seq (s_asg (i := 1) sc.nd rfl (Or.inl rfl) (s_op o_addB p_add (sv 1) (s_lst (s_cons (s_isX (i := 0) B.ea List.mem_cons_self ep_ m0_ B.ix_NoFlash (pe_glob (v := .ref (He.ga K "NoFlash")) rfl B.x_NoFlash.gl rfl) (fun _ h => h) rfl B.n_isinstance rfl (by first | exact Or.inl rfl | exact Or.inr (Or.inl rfl) | exact Or.inr (Or.inr rfl))) (s_cons (s_isX (i := 0) B.ea List.mem_cons_self ep_ m0_ B.ix_NoOrder (pe_glob (v := .ref (He.ga K "NoOrder")) rfl B.x_NoOrder.gl rfl) (fun _ h => h) rfl B.n_isinstance rfl (by first | exact Or.inl rfl | exact Or.inr (Or.inl rfl) | exact Or.inr (Or.inr rfl))) (s_cons (s_isX (i := 0) B.ea List.mem_cons_self ep_ m0_ B.ix_NoOrders (pe_glob (v := .ref (He.ga K "NoOrders")) rfl B.x_NoOrders.gl rfl) (fun _ h => h) rfl B.n_isinstance rfl (by first | exact Or.inl rfl | exact Or.inr (Or.inl rfl) | exact Or.inr (Or.inr rfl))) s_nil))))))
      (s_seq (s_asg (i := 1) sc.nd rfl (Or.inl rfl) (s_op o_addB p_add (sv 1) (s_lst (s_cons (s_isX (i := 0) B.ea List.mem_cons_self ep_ m0_ B.ix_NoPlace (pe_glob (v := .ref (He.ga K "NoPlace")) rfl B.x_NoPlace.gl rfl) (fun _ h => h) rfl B.n_isinstance rfl (by first | exact Or.inl rfl | exact Or.inr (Or.inl rfl) | exact Or.inr (Or.inr rfl))) s_nil))))
      (s_seq (s_asg (i := 1) sc.nd rfl (Or.inl rfl) (s_op o_addB p_add (sv 1) (s_lst (s_cons (s_isX (i := 0) B.ea List.mem_cons_self ep_ m0_ B.ix_NoPaper (pe_glob (v := .ref (He.ga K "NoPaper")) rfl B.x_NoPaper.gl rfl) (fun _ h => h) rfl B.n_isinstance rfl (by first | exact Or.inl rfl | exact Or.inr (Or.inl rfl) | exact Or.inr (Or.inr rfl))) (s_cons (s_isX (i := 0) B.ea List.mem_cons_self ep_ m0_ B.ix_NoText (pe_glob (v := .ref (He.ga K "NoText")) rfl B.x_NoText.gl rfl) (fun _ h => h) rfl B.n_isinstance rfl (by first | exact Or.inl rfl | exact Or.inr (Or.inl rfl) | exact Or.inr (Or.inr rfl))) (s_cons (s_isX (i := 0) B.ea List.mem_cons_self ep_ m0_ B.ix_NoLine (pe_glob (v := .ref (He.ga K "NoLine")) rfl B.x_NoLine.gl rfl) (fun _ h => h) rfl B.n_isinstance rfl (by first | exact Or.inl rfl | exact Or.inr (Or.inl rfl) | exact Or.inr (Or.inr rfl))) (s_cons (s_isX (i := 0) B.ea List.mem_cons_self ep_ m0_ B.ix_Off (pe_glob (v := .ref (He.ga K "Off")) rfl B.x_Off.gl rfl) (fun _ h => h) rfl B.n_isinstance rfl (by first | exact Or.inl rfl | exact Or.inr (Or.inl rfl) | exact Or.inr (Or.inr rfl))) s_nil)))))))
      (s_seq (s_asg (i := 1) sc.nd rfl (Or.inl rfl) (s_op o_addB p_add (sv 1) (s_lst (s_cons (s_isX (i := 0) B.ea List.mem_cons_self ep_ m0_ B.ix_Written (pe_glob (v := .ref (He.ga K "Written")) rfl B.x_Written.gl rfl) (fun _ h => h) rfl B.n_isinstance rfl (by first | exact Or.inl rfl | exact Or.inr (Or.inl rfl) | exact Or.inr (Or.inr rfl))) (s_cons (s_isX (i := 0) B.ea List.mem_cons_self ep_ m0_ B.ix_Bad (pe_glob (v := .ref (He.ga K "Bad")) rfl B.x_Bad.gl rfl) (fun _ h => h) rfl B.n_isinstance rfl (by first | exact Or.inl rfl | exact Or.inr (Or.inl rfl) | exact Or.inr (Or.inr rfl))) (s_cons (s_isX (i := 0) B.ea List.mem_cons_self ep_ m0_ B.ix_Spoilt (pe_glob (v := .ref (He.ga K "Spoilt")) rfl B.x_Spoilt.gl rfl) (fun _ h => h) rfl B.n_isinstance rfl (by first | exact Or.inl rfl | exact Or.inr (Or.inl rfl) | exact Or.inr (Or.inr rfl))) (s_cons (s_isX (i := 0) B.ea List.mem_cons_self ep_ m0_ B.ix_NoRoom (pe_glob (v := .ref (He.ga K "NoRoom")) rfl B.x_NoRoom.gl rfl) (fun _ h => h) rfl B.n_isinstance rfl (by first | exact Or.inl rfl | exact Or.inr (Or.inl rfl) | exact Or.inr (Or.inr rfl))) s_nil)))))))
      (s_one (s_ret (s_op o_addB p_add (sv 1) (s_lst (s_cons (s_isX (i := 0) B.ea List.mem_cons_self ep_ m0_ B.ix_Worn (pe_glob (v := .ref (He.ga K "Worn")) rfl B.x_Worn.gl rfl) (fun _ h => h) rfl B.n_isinstance rfl (by first | exact Or.inl rfl | exact Or.inr (Or.inl rfl) | exact Or.inr (Or.inr rfl))) (s_cons (s_isX (i := 0) B.ea List.mem_cons_self ep_ m0_ B.ix_Over (pe_glob (v := .ref (He.ga K "Over")) rfl B.x_Over.gl rfl) (fun _ h => h) rfl B.n_isinstance rfl (by first | exact Or.inl rfl | exact Or.inr (Or.inl rfl) | exact Or.inr (Or.inr rfl))) s_nil))))))))))))
theorem ok__law_said (F : FunD K "_law_said" "_law_said" (defArgs z__law_said) (defBody z__law_said) (defScope z__law_said) [] [] f fd) (B : Bs K mg) (X__law_marks : CalX P w K mg base (TT K) excU 1 "_law_marks" ["_law_e"] m__law_marks) : FnL P w K mg base (TT K) 2 f fd "_law_call" m__law_said := by
  have sc := sc__law_said
  refine okL (T := TT K) F sc rfl (Or.inl rfl) rfl (fun cdv A outer s H E Γ fl g_ hT hG hr act => ?_)
  obtain ⟨U0, H0, A0, m0, T0⟩ := Γ
  obtain rfl : T0 = TT K := hT
  have tk := takes_N (P := P) (w := w) (K := K) (mg := mg) (base := base) (N := N__law_said) (qual := "_law_said") (scope := defScope z__law_said) (f := f) (cd := cdv) (A := A) (outer := outer) (s := s) (H := H) (E := E)
  have pO := own_N (P := P) (w := w) (K := K) (mg := mg) (base := base) (N := N__law_said) (qual := "_law_said") (scope := defScope z__law_said) (f := f) (cd := cdv) (A := A) (outer := outer) (s := s) (H := H) (E := E)
  have hU := hr.units
  have hU65 := units65 hr
  have hU1 := units1 hr
  exact (s0_seq (s0_tryAs rfl rfl sc.nd rfl rfl (⟨rfl, by decide, .inl B.x_FlashError.gl⟩) B.e_FlashError tk (fun W_ pn_ xe_ tk pO => (s0_one (s0_set (i := 1) sc.nd rfl (Or.inl rfl) (act _ _ _ _ _ tk)))) (by intro a_ oe_ pn_ c_ Γs_ ep_ hot_ hT_ m0_; obtain ⟨U1_, H1_, A1_, m1_, T1_⟩ := Γs_; obtain rfl : T1_ = TT K := hT_; exact (s_seq (s_asg (i := 3) sc.nd rfl (Or.inl rfl) (s_lst (s_cons s_str (s_cons s_str (s_cons s_str (s_cons s_str (s_cons s_str (s_cons s_str (s_cons s_str (s_cons s_str (s_cons s_str (s_cons s_str (s_cons s_str s_nil)))))))))))))
      (s_seq (s_asg (i := 3) sc.nd rfl (Or.inl rfl) (s_op o_addB p_add (sv 3) (s_lst (s_cons s_str (s_cons s_str (s_cons s_str (s_cons s_str (s_cons s_str (s_cons s_str (s_cons s_str (s_cons s_str (s_cons s_str (s_cons s_str s_nil)))))))))))))
      (s_seq (s_asg (i := 3) sc.nd rfl (Or.inl rfl) (s_op o_addB p_add (sv 3) (s_lst (s_cons s_str s_nil))))
      (s_seq (s_asg (i := 4) sc.nd rfl (Or.inl rfl) (sClX X__law_marks (L2H.RoomH.mk (k := 1) hr.dp hr.un) (by decide) List.mem_cons_self hot_ ep_ m0_ rfl takes_noX (s_cons (sv 2) s_nil)))
      (s_seq (s_if (PW.pt (s_or (s_tcmp (o_ne hU) p_ne (s_bmP m_cnt (qv 4) q_bl (fun ho ha => pe_bm PySem.F.plainAttrs_list PySem.F.slot_list_count PySem.F.type_list_count (mt_cntD hU65) ho ha)) s_int (nomark _)) (s_or1 (s_not (s_tval (s_isX (i := 2) B.ea List.mem_cons_self ep_ m0_ B.ix_ValueError (pe_bltn (v := .ty "ValueError") rfl B.n_ValueError (by decide +kernel) rfl) (fun _ h => h) rfl B.n_isinstance rfl (by first | exact Or.inl rfl | exact Or.inr (Or.inl rfl) | exact Or.inr (Or.inr rfl)))))))) (s_one (s_ret s_str)) s_end)
      (s_one (s_ret (s_op o_addB p_add s_str (s_ix hU1 (sv 3) (s_bmP m_idx (qv 4) q_bl (fun ho ha => pe_bm PySem.F.plainAttrs_list PySem.F.slot_list_index PySem.F.type_list_index (mt_indexD hU65) ho ha)))))))))))))
      (s_one (s_ret (s_cbP (call_reprT hG hU) o_repr rfl B.n_repr (by decide +kernel) (q_cons (qv 1) q_nil)))))
theorem ok__law_any_weather (F : FunD K "_law_any_weather" "_law_any_weather" (defArgs z__law_any_weather) (defBody z__law_any_weather) (defScope z__law_any_weather) [] [] f fd) (B : Bs K mg) (C__law_choice : CalN P w K mg base (TT K) 1 "_law_choice" ["_law_state_here", "_law_many"] [] m__law_choice) : FnN P w K mg base 2 f fd ["_law_state_here", "_law_far_step"] (spM K (TT K) 2 m__law_any_weather) := by
  have sc := sc__law_any_weather
  refine okM (T := TT K) F sc rfl (fun cdv A outer s H E Γ hT hG hr => ?_)
  obtain ⟨U0, H0, A0, m0, T0⟩ := Γ
  obtain rfl : T0 = TT K := hT
  have tk := takes_N (P := P) (w := w) (K := K) (mg := mg) (base := base) (N := N__law_any_weather) (qual := "_law_any_weather") (scope := defScope z__law_any_weather) (f := f) (cd := cdv) (A := A) (outer := outer) (s := s) (H := H) (E := E)
  have pO := own_N (P := P) (w := w) (K := K) (mg := mg) (base := base) (N := N__law_any_weather) (qual := "_law_any_weather") (scope := defScope z__law_any_weather) (f := f) (cd := cdv) (A := A) (outer := outer) (s := s) (H := H) (E := E)
  have hU := hr.units
  have hU65 := units65 hr
  have hU1 : (A.deeper (envOfC "_law_any_weather" (defScope z__law_any_weather) s.heap.objs.size f cdv)).units + 1 < cLine := by have := hr.un; omega
  exact (s_seq (s_asgO (i := 2) sc.nd rfl (Or.inr rfl) s_dnew)
      (s_seq (s_for pO rfl (s_rng1 rfl B.n_range (s_cons (s_ix hU1 (s_lst (s_cons s_int (s_cons s_int (s_cons s_int (s_cons s_int s_nil))))) (sCl C__law_choice hG hr (by decide) rfl tk (s_cons (sv 0) (s_cons s_int s_nil)))) s_nil)) (s_gn (i := 3) sc.nd rfl (Or.inl rfl)) (s_seq (s_asg (i := 4) sc.nd rfl (Or.inl rfl) (s_ix hU1 (s_lst (s_cons (s_tup (s_cons s_str s_nil)) (s_cons (s_tup (s_cons s_str s_nil)) (s_cons (s_tup (s_cons s_str (s_cons (sCl C__law_choice hG hr (by decide) rfl tk (s_cons (sv 0) (s_cons s_int s_nil))) s_nil))) (s_cons (s_tup (s_cons s_str (s_cons s_int s_nil))) s_nil))))) (sCl C__law_choice hG hr (by decide) rfl tk (s_cons (sv 0) (s_cons s_int s_nil)))))
      (s_seq (s_asg (i := 5) sc.nd rfl (Or.inl rfl) (s_ix hU1 (s_lst (s_cons s_int (s_cons s_int (s_cons (sCl C__law_choice hG hr (by decide) rfl tk (s_cons (sv 0) (s_cons (sv 1) s_nil))) s_nil)))) (s_cb (call_min2 rfl) o_min2 rfl B.n_min (by decide +kernel) (s_cons s_int (s_cons (sCl C__law_choice hG hr (by decide) rfl tk (s_cons (sv 0) (s_cons s_int s_nil))) s_nil)))))
      (s_one (s_setB (i := 2) rfl (by first | exact Or.inl rfl | exact Or.inr (Or.inl rfl) | exact Or.inr (Or.inr rfl)) hU1 (sv 4) (sv 5))))))
      (s_one (s_ret (s_ct call_tuple_of o_tuple rfl B.n_tuple (by decide +kernel) (s_cons (s_lc (own := [("_law_step", 5)]) rfl sc.nd (s_it (s_frz (s_cbOP (c_srt2 rfl) o_srt2 rfl B.n_sorted (by decide +kernel) (q_cons (qv 2) q_nil)))) (blkOk_by (own := [("_law_step", 5)]) (N := N__law_any_weather) (sc := defScope z__law_any_weather) (by decide +kernel)) (fun _ _ _ _ _ => (s_gn (i := 5) sc.nd rfl (Or.inl rfl))) (fun _ _ _ _ _ => s_ts0) (fun _ _ _ _ _ => (s_tup (s_cons (sv 5) (s_cons (s_ofP (q_ix hU1 (qv 2) (qv 5))) s_nil))))) s_nil))))))
theorem ok__law_any_order (F : FunD K "_law_any_order" "_law_any_order" (defArgs z__law_any_order) (defBody z__law_any_order) (defScope z__law_any_order) [] [] f fd) (B : Bs K mg) (C__law_choice : CalN P w K mg base (TT K) 1 "_law_choice" ["_law_state_here", "_law_many"] [] m__law_choice) (C__law_order : CalN P w K mg base (TT K) 2 "_law_order" ["_law_state_here", "_law_plan"] [] m__law_order) : FnN P w K mg base 3 f fd ["_law_state_here"] (spM K (TT K) 1 m__law_any_order) := by
  have sc := sc__law_any_order
  refine okM (T := TT K) F sc rfl (fun cdv A outer s H E Γ hT hG hr => ?_)
  obtain ⟨U0, H0, A0, m0, T0⟩ := Γ
  obtain rfl : T0 = TT K := hT
  have tk := takes_N (P := P) (w := w) (K := K) (mg := mg) (base := base) (N := N__law_any_order) (qual := "_law_any_order") (scope := defScope z__law_any_order) (f := f) (cd := cdv) (A := A) (outer := outer) (s := s) (H := H) (E := E)
  have pO := own_N (P := P) (w := w) (K := K) (mg := mg) (base := base) (N := N__law_any_order) (qual := "_law_any_order") (scope := defScope z__law_any_order) (f := f) (cd := cdv) (A := A) (outer := outer) (s := s) (H := H) (E := E)
  have hU := hr.units
  have hU65 := units65 hr
  have hU1 : (A.deeper (envOfC "_law_any_order" (defScope z__law_any_order) s.heap.objs.size f cdv)).units + 1 < cLine := by have := hr.un; omega
  exact (s_seq (s_asg (i := 1) sc.nd rfl (Or.inl rfl) (s_tup (s_cons s_int (s_cons s_int (s_cons s_int (s_cons s_bl (s_cons s_bl s_nil)))))))
      (s_one (s_ret (s_ix hU1 (s_lst (s_cons (sCl C__law_order hG hr (by decide) rfl tk (s_cons (sv 0) (s_cons (sv 1) s_nil))) (s_cons (s_tup (s_cons s_str s_nil)) (s_cons (sCl C__law_order hG hr (by decide) rfl tk (s_cons (sv 0) (s_cons (sv 1) s_nil))) s_nil)))) (s_op o_fdv p_fdv (sCl C__law_choice hG hr (by decide) rfl tk (s_cons (sv 0) (s_cons s_int s_nil))) s_int)))))
theorem ok__law_again (F : FunD K "_law_again" "_law_again" (defArgs z__law_again) (defBody z__law_again) (defScope z__law_again) [] [] (He.ga K "_law_again") fd) (B : Bs K mg) (C_is_weather : CalN P w K mg base (TT K) 4 "is_weather" ["thing"] [] m_is_weather) (C_order_text : CalN P w K mg base (TT K) 7 "order_text" ["order"] [] m_order_text) (C_read_order : CalN P w K mg base (TT K) 8 "read_order" ["text"] [] m_read_order) (C_read_weather : CalN P w K mg base (TT K) 5 "read_weather" ["text"] [] m_read_weather) (C_weather_text : CalN P w K mg base (TT K) 6 "weather_text" ["weather"] [] m_weather_text) (L__law_said : CalL P w K mg base (TT K) 2 "_law_said" "_law_call" m__law_said) (TB__law_again : LamX.TabB base mg (mkr K "_law_again").1 (mkr K "_law_again").2) : FnN P w K mg base 11 (He.ga K "_law_again") fd ["_law_text"] (spM K (TT K) 1 m__law_again) := by
  have sc := sc__law_again
  refine okMT (T := TT K) F sc rfl B.cb__law_again (fun cdv A outer s H E Γ hT hG hr ecd => ?_)
  obtain ⟨U0, H0, A0, m0, T0⟩ := Γ
  obtain rfl : T0 = TT K := hT
  have tk := takes_N (P := P) (w := w) (K := K) (mg := mg) (base := base) (N := N__law_again) (qual := "_law_again") (scope := defScope z__law_again) (f := He.ga K "_law_again") (cd := cdv) (A := A) (outer := outer) (s := s) (H := H) (E := E)
  have pO := own_N (P := P) (w := w) (K := K) (mg := mg) (base := base) (N := N__law_again) (qual := "_law_again") (scope := defScope z__law_again) (f := He.ga K "_law_again") (cd := cdv) (A := A) (outer := outer) (s := s) (H := H) (E := E)
  have hU := hr.units
  have hU65 := units65 hr
  have hU1 := units1 hr
  exact (s_seq (s_asgO (i := 1) sc.nd rfl (Or.inl rfl) (s_lstO (s_cons (s_said (kk := 8) L__law_said hG hr (by decide) (by decide) rfl tk TB__law_again ecd (tabs_mem (by decide)) B.u__law_again (LamX.lamS_by (sc := defScope z__law_again) (by decide +kernel)) rfl (fun _ _ _ _ _ => rfl) (by intro A_ o_ s_ H_ E_ f_ cc_ Γl_ hT_ hG hr; obtain ⟨U1_, H1_, A1_, m1_, T1_⟩ := Γl_; obtain rfl : T1_ = tabsOf K mk := hT_; have hU := hr.units; have hU65 := units65 hr; have hU1 := units1 hr; exact (s_cmp (o_eq hU) p_eq (sCl C_order_text hG hr (by decide) rfl takes_lam (s_cons (sCl C_read_order hG hr (by decide) rfl takes_lam (s_cons (sv 0) s_nil)) s_nil)) (sv 0) (nomark _)))) s_nil)))
      (s_seq (s_exp (s_app (i := 1) rfl (by first | exact Or.inl rfl | exact Or.inr (Or.inl rfl) | exact Or.inr (Or.inr rfl)) (s_said (kk := 6) L__law_said hG hr (by decide) (by decide) rfl tk TB__law_again ecd (tabs_mem (by decide)) B.u__law_again (LamX.lamS_by (sc := defScope z__law_again) (by decide +kernel)) rfl (fun _ _ _ _ _ => rfl) (by intro A_ o_ s_ H_ E_ f_ cc_ Γl_ hT_ hG hr; obtain ⟨U1_, H1_, A1_, m1_, T1_⟩ := Γl_; obtain rfl : T1_ = tabsOf K mk := hT_; have hU := hr.units; have hU65 := units65 hr; have hU1 := units1 hr; exact (s_cmp (o_eq hU) p_eq (sCl C_weather_text hG hr (by decide) rfl takes_lam (s_cons (sCl C_read_weather hG hr (by decide) rfl takes_lam (s_cons (sv 0) s_nil)) s_nil)) (sv 0) (nomark _)))) (fun hM ho ha => pe_bm PySem.F.plainAttrs_list PySem.F.slot_list_append PySem.F.type_list_append hM ho ha)))
      (s_seq (s_exp (s_app (i := 1) rfl (by first | exact Or.inl rfl | exact Or.inr (Or.inl rfl) | exact Or.inr (Or.inr rfl)) (s_said (kk := 5) L__law_said hG hr (by decide) (by decide) rfl tk TB__law_again ecd (tabs_mem (by decide)) B.u__law_again (LamX.lamS_by (sc := defScope z__law_again) (by decide +kernel)) rfl (fun _ _ _ _ _ => rfl) (by intro A_ o_ s_ H_ E_ f_ cc_ Γl_ hT_ hG hr; obtain ⟨U1_, H1_, A1_, m1_, T1_⟩ := Γl_; obtain rfl : T1_ = tabsOf K mk := hT_; have hU := hr.units; have hU65 := units65 hr; have hU1 := units1 hr; exact (sCl C_is_weather hG hr (by decide) rfl takes_lam (s_cons (sCl C_read_weather hG hr (by decide) rfl takes_lam (s_cons (sv 0) s_nil)) s_nil)))) (fun hM ho ha => pe_bm PySem.F.plainAttrs_list PySem.F.slot_list_append PySem.F.type_list_append hM ho ha)))
      (s_one (s_ret (s_cmp (o_eq hU) p_eq (s_lc (own := [("_law_word", 2)]) rfl sc.nd (s_it (sv 1)) (blkOk_by (own := [("_law_word", 2)]) (N := N__law_again) (sc := defScope z__law_again) (by decide +kernel)) (fun _ _ _ _ _ => (s_gn (i := 2) sc.nd rfl (Or.inl rfl))) (fun _ _ _ _ _ => (s_ts1 (s_tcmp (oo_nin hU65) p_nin (sv 2) (s_tup (s_cons s_str (s_cons s_str s_nil))) (by rfl)))) (fun _ _ _ _ _ => (sv 2))) (s_lst s_nil) (nomark _)))))))
theorem ok__law_right (F : FunD K "_law_right" "_law_right" (defArgs z__law_right) (defBody z__law_right) (defScope z__law_right) [] [] f fd) (B : Bs K mg) (C__law_again : CalN P w K mg base (TT K) 11 "_law_again" ["_law_text"] [] m__law_again) (C__law_any_order : CalN P w K mg base (TT K) 3 "_law_any_order" ["_law_state_here"] [] m__law_any_order) (C__law_any_weather : CalN P w K mg base (TT K) 2 "_law_any_weather" ["_law_state_here", "_law_far_step"] [] m__law_any_weather) (C__law_choice : CalN P w K mg base (TT K) 1 "_law_choice" ["_law_state_here", "_law_many"] [] m__law_choice) (C_order_text : CalN P w K mg base (TT K) 7 "order_text" ["order"] [] m_order_text) (C_weather_text : CalN P w K mg base (TT K) 6 "weather_text" ["weather"] [] m_weather_text) : FnN P w K mg base 12 f fd ["_law_state_here"] (spM K (TT K) 1 m__law_right) := by
  have sc := sc__law_right
  refine okM (T := TT K) F sc rfl (fun cdv A outer s H E Γ hT hG hr => ?_)
  obtain ⟨U0, H0, A0, m0, T0⟩ := Γ
  obtain rfl : T0 = TT K := hT
  have tk := takes_N (P := P) (w := w) (K := K) (mg := mg) (base := base) (N := N__law_right) (qual := "_law_right") (scope := defScope z__law_right) (f := f) (cd := cdv) (A := A) (outer := outer) (s := s) (H := H) (E := E)
  have pO := own_N (P := P) (w := w) (K := K) (mg := mg) (base := base) (N := N__law_right) (qual := "_law_right") (scope := defScope z__law_right) (f := f) (cd := cdv) (A := A) (outer := outer) (s := s) (H := H) (E := E)
  have hU := hr.units
  have hU65 := units65 hr
  have hU1 : (A.deeper (envOfC "_law_right" (defScope z__law_right) s.heap.objs.size f cdv)).units + 1 < cLine := by have := hr.un; omega
  exact (s_seq (s_par (i := 1) (j := 2) rfl sc.nd rfl rfl (by decide) rfl rfl (s_xI (s_lc (own := [("_law_lap", 8)]) rfl sc.nd (s_rng1 rfl B.n_range (s_cons s_int s_nil)) (blkOk_by (own := [("_law_lap", 8)]) (N := N__law_right) (sc := defScope z__law_right) (by decide +kernel)) (fun _ _ _ _ _ => (s_gn (i := 8) sc.nd rfl (Or.inl rfl))) (fun _ _ _ _ _ => s_ts0) (fun _ _ _ _ _ => (sCl C__law_any_order hG hr (by decide) rfl takes_noX (s_cons (sv 0) s_nil))))) (s_xI (s_lc (own := [("_law_lap", 8)]) rfl sc.nd (s_rng1 rfl B.n_range (s_cons s_int s_nil)) (blkOk_by (own := [("_law_lap", 8)]) (N := N__law_right) (sc := defScope z__law_right) (by decide +kernel)) (fun _ _ _ _ _ => (s_gn (i := 8) sc.nd rfl (Or.inl rfl))) (fun _ _ _ _ _ => s_ts0) (fun _ _ _ _ _ => (sCl C__law_any_weather hG hr (by decide) rfl takes_noX (s_cons (sv 0) (s_cons s_int s_nil)))))) rfl)
      (s_seq (s_for pO rfl (s_it (sv 1)) (s_gn (i := 3) sc.nd rfl (Or.inr rfl)) (s_one (s_if (s_tcmp (o_ne hU) p_ne (s_lc (own := [("_law_other", 9)]) rfl sc.nd (s_it (sv 1)) (blkOk_by (own := [("_law_other", 9)]) (N := N__law_right) (sc := defScope z__law_right) (by decide +kernel)) (fun _ _ _ _ _ => (s_gn (i := 9) sc.nd rfl (Or.inl rfl))) (fun _ _ _ _ _ => (s_ts1 (s_tcmp (o_ne hU) p_ne (s_cmp (o_eq hU) p_eq (sCl C_order_text hG hr (by decide) rfl takes_noX (s_cons (sv 3) s_nil)) (sCl C_order_text hG hr (by decide) rfl takes_noX (s_cons (sv 9) s_nil)) (nomark _)) (s_cmpP (o_eq hU) p_eq (qv 3) (qv 9) (nomark _)) (nomark _)))) (fun _ _ _ _ _ => (sv 9))) (s_lst s_nil) (nomark _)) (s_one (s_ret s_bl)) s_end)))
      (s_seq (s_for pO rfl (s_it (sv 2)) (s_gn (i := 3) sc.nd rfl (Or.inr rfl)) (s_one (s_if (s_tcmp (o_ne hU) p_ne (s_lc (own := [("_law_other", 9)]) rfl sc.nd (s_it (sv 2)) (blkOk_by (own := [("_law_other", 9)]) (N := N__law_right) (sc := defScope z__law_right) (by decide +kernel)) (fun _ _ _ _ _ => (s_gn (i := 9) sc.nd rfl (Or.inl rfl))) (fun _ _ _ _ _ => (s_ts1 (s_tcmp (o_ne hU) p_ne (s_cmp (o_eq hU) p_eq (sCl C_weather_text hG hr (by decide) rfl takes_noX (s_cons (sv 3) s_nil)) (sCl C_weather_text hG hr (by decide) rfl takes_noX (s_cons (sv 9) s_nil)) (nomark _)) (s_cmpP (o_eq hU) p_eq (qv 3) (qv 9) (nomark _)) (nomark _)))) (fun _ _ _ _ _ => (sv 9))) (s_lst s_nil) (nomark _)) (s_one (s_ret s_bl)) s_end)))
      (s_seq (s_for pO rfl (s_it (s_op o_addB p_add (s_lc (own := [("_law_one", 3)]) rfl sc.nd (s_it (sv 1)) (blkOk_by (own := [("_law_one", 3)]) (N := N__law_right) (sc := defScope z__law_right) (by decide +kernel)) (fun _ _ _ _ _ => (s_gn (i := 3) sc.nd rfl (Or.inl rfl))) (fun _ _ _ _ _ => s_ts0) (fun _ _ _ _ _ => (sCl C_order_text hG hr (by decide) rfl takes_noX (s_cons (sv 3) s_nil)))) (s_lc (own := [("_law_one", 3)]) rfl sc.nd (s_it (sv 2)) (blkOk_by (own := [("_law_one", 3)]) (N := N__law_right) (sc := defScope z__law_right) (by decide +kernel)) (fun _ _ _ _ _ => (s_gn (i := 3) sc.nd rfl (Or.inl rfl))) (fun _ _ _ _ _ => s_ts0) (fun _ _ _ _ _ => (sCl C_weather_text hG hr (by decide) rfl takes_noX (s_cons (sv 3) s_nil)))))) (s_gn (i := 4) sc.nd rfl (Or.inl rfl)) (s_seq (s_asg (i := 5) sc.nd rfl (Or.inl rfl) (s_split (sv 4) s_str))
      (s_seq (s_asg (i := 6) sc.nd rfl (Or.inl rfl) (sCl C__law_choice hG hr (by decide) rfl tk (s_cons (sv 0) (s_cons (s_cbP c_len o_len rfl B.n_len (by decide +kernel) (q_cons (qv 5) q_nil)) s_nil))))
      (s_one (s_for pO rfl (s_it (s_lst (s_cons (sv 5) (s_cons (s_op o_addB p_add (s_sl (sv 5) s_po0 (s_po1 (sv 6))) (s_sl (sv 5) (s_po1 (s_op o_addB p_add (sv 6) s_int)) s_po0)) (s_cons (s_op o_addB p_add (s_sl (sv 5) s_po0 (s_po1 (s_op o_addB p_add (sv 6) s_int))) (s_sl (sv 5) (s_po1 (sv 6)) s_po0)) (s_cons (s_rev (sv 5)) (s_cons (s_sl (sv 5) s_po0 (s_po1 (s_op o_addB p_add (sv 6) s_int))) s_nil))))))) (s_gn (i := 7) sc.nd rfl (Or.inl rfl)) (s_one (s_if (s_not (s_tval (sCl C__law_again hG hr (by decide) rfl tk (s_cons (s_join s_str (sv 7)) s_nil)))) (s_one (s_ret s_bl)) s_end)))))))
      (s_one (s_ret s_bl))))))
theorem ok_law (F : FunD K "law" "law" (defArgs z_law) (defBody z_law) (defScope z_law) [] [] f fd) (B : Bs K mg) (C__law_right : CalN P w K mg base (TT K) 12 "_law_right" ["_law_state_here"] [] m__law_right) (C__law_state : CalN P w K mg base (TT K) 2 "_law_state" ["_law_script", "_law_k"] [] m__law_state) : FnN P w K mg base 13 f fd ["_law_script"] (spM K (TT K) 1 m_law) := by
  have sc := sc_law
  refine okM (T := TT K) F sc rfl (fun cdv A outer s H E Γ hT hG hr => ?_)
  obtain ⟨U0, H0, A0, m0, T0⟩ := Γ
  obtain rfl : T0 = TT K := hT
  have tk := takes_N (P := P) (w := w) (K := K) (mg := mg) (base := base) (N := N_law) (qual := "law") (scope := defScope z_law) (f := f) (cd := cdv) (A := A) (outer := outer) (s := s) (H := H) (E := E)
  have pO := own_N (P := P) (w := w) (K := K) (mg := mg) (base := base) (N := N_law) (qual := "law") (scope := defScope z_law) (f := f) (cd := cdv) (A := A) (outer := outer) (s := s) (H := H) (E := E)
  have hU := hr.units
  have hU65 := units65 hr
  have hU1 : (A.deeper (envOfC "law" (defScope z_law) s.heap.objs.size f cdv)).units + 1 < cLine := by have := hr.un; omega
  exact (s_seq (s_for pO rfl (s_rng1 rfl B.n_range (s_cons (s_cb (call_max2 rfl) o_max2 rfl B.n_max (by decide +kernel) (s_cons s_int (s_cons (s_cb (call_min2 rfl) o_min2 rfl B.n_min (by decide +kernel) (s_cons (s_cbP c_len o_len rfl B.n_len (by decide +kernel) (q_cons (qv 0) q_nil)) (s_cons s_int s_nil))) s_nil))) s_nil)) (s_gn (i := 1) sc.nd rfl (Or.inl rfl)) (s_seq (s_asg (i := 2) sc.nd rfl (Or.inl rfl) (sCl C__law_state hG hr (by decide) rfl tk (s_cons (sv 0) (s_cons (sv 1) s_nil))))
      (s_one (s_for pO rfl (s_rng1 rfl B.n_range (s_cons s_int s_nil)) (s_gn (i := 3) sc.nd rfl (Or.inl rfl)) (s_one (s_if (s_not (s_tval (sCl C__law_right hG hr (by decide) rfl tk (s_cons (sv 2) s_nil)))) (s_one (s_ret s_bl)) s_end))))))
      (s_one (s_ret s_bl)))
end
/-! ### the head -/
theorem facts {P : Program} {w : World} {K : PySem.W.Frag} {h : Heap} {mg : Str → Option Value} {f : Addr} (X : K.In h) (G : h.Ns mainGlobals mg) (hfa : mg ("law" : Str) = some (.ref f)) (c : obsK fa fn ex K = (He.valD fn, true)) :
    ∃ fd : FuncData, (∀ (s : Shared) (v : Value), BindsTo s fd ⟨[v], []⟩ [("_law_script", v)]) ∧ ∀ base : Heap, K.In base → base.Ns mainGlobals mg → (∀ p ∈ mk.map (mkr K), LamX.TabB base mg p.1 p.2) → FnN P w K mg base 13 f fd ["_law_script"] (spM K (TT K) 1 m_law) := by
  have cD : He.SaysD fa fn K := congrArg (fun z : He.AlD × Bool => z.1) c
  have mo : ex K = true := congrArg (fun z : He.AlD × Bool => z.2) c
  simp only [ex, Bool.and_eq_true] at mo
  obtain ⟨⟨⟨⟨⟨⟨⟨⟨⟨⟨⟨⟨⟨⟨⟨⟨⟨⟨⟨⟨⟨⟨⟨⟨⟨⟨⟨⟨⟨m0, m1⟩, m2⟩, m3⟩, m4⟩, m5⟩, m6⟩, m7⟩, m8⟩, m9⟩, m10⟩, m11⟩, m12⟩, m13⟩, m14⟩, m15⟩, m16⟩, m17⟩, m18⟩, m19⟩, m20⟩, m21⟩, m22⟩, m23⟩, m24⟩, m25⟩, m26⟩, m27⟩, m28⟩, _⟩ := mo
  have B : Bs K mg := {
    yes := trivial
    n_ValueError := He.free_ok X G (cD.fact 0 (f := .free "ValueError") rfl)
    n_all := He.free_ok X G (cD.fact 1 (f := .free "all") rfl)
    n_bool := He.free_ok X G (cD.fact 2 (f := .free "bool") rfl)
    n_int := He.free_ok X G (cD.fact 3 (f := .free "int") rfl)
    n_isinstance := He.free_ok X G (cD.fact 4 (f := .free "isinstance") rfl)
    n_len := He.free_ok X G (cD.fact 5 (f := .free "len") rfl)
    n_list := He.free_ok X G (cD.fact 6 (f := .free "list") rfl)
    n_max := He.free_ok X G (cD.fact 7 (f := .free "max") rfl)
    n_min := He.free_ok X G (cD.fact 8 (f := .free "min") rfl)
    n_range := He.free_ok X G (cD.fact 9 (f := .free "range") rfl)
    n_repr := He.free_ok X G (cD.fact 10 (f := .free "repr") rfl)
    n_sorted := He.free_ok X G (cD.fact 11 (f := .free "sorted") rfl)
    n_str := He.free_ok X G (cD.fact 12 (f := .free "str") rfl)
    n_tuple := He.free_ok X G (cD.fact 13 (f := .free "tuple") rfl)
    n_zip := He.free_ok X G (cD.fact 14 (f := .free "zip") rfl)
    r_BAD := He.glo_ok X G (cD.fact 15 (f := .glo "BAD") rfl)
    p_BAD := rp_tupC (fun H => He.tupB_ok m0 H) (fun _ _ _ => (.str .nil))
    c_BETWEEN := He.str_ok X G (cD.fact 16 (f := .str "BETWEEN" ":") rfl)
    c_BIT := He.str_ok X G (cD.fact 17 (f := .str "BIT" "bit") rfl)
    r_CUT := He.glo_ok X G (cD.fact 18 (f := .glo "CUT") rfl)
    p_CUT := rp_tupC (fun H => He.tupB_ok m1 H) (fun _ _ _ => (.str .nil))
    c_FIGURES := He.str_ok X G (cD.fact 19 (f := .str "FIGURES" "0123456789") rfl)
    c_MOST_DATA := He.int_ok X G (cD.fact 20 (f := .int "MOST_DATA" 63) rfl)
    c_MOST_FAULTS := He.int_ok X G (cD.fact 21 (f := .int "MOST_FAULTS" 40) rfl)
    c_MOST_FIGURES := He.int_ok X G (cD.fact 22 (f := .int "MOST_FIGURES" 9) rfl)
    c_MOST_PLACE := He.int_ok X G (cD.fact 23 (f := .int "MOST_PLACE" 15) rfl)
    c_MOST_ROWS := He.int_ok X G (cD.fact 24 (f := .int "MOST_ROWS" 4) rfl)
    c_MOST_STEP := He.int_ok X G (cD.fact 25 (f := .int "MOST_STEP" 9999) rfl)
    c_NONE := He.str_ok X G (cD.fact 26 (f := .str "NONE" "-") rfl)
    c_WORD_BITS := He.int_ok X G (cD.fact 27 (f := .int "WORD_BITS" 47) rfl)
    x_Bad := let q := He.exc_ok (x := "Bad") (cD.fact 28 (f := .exc "Bad") rfl); ⟨He.glo_ok X G (cD.fact 29 (f := .glo "Bad") rfl), q.1, q.2.1, q.2.2.1, q.2.2.2⟩
    x_FlashError := let q := He.exc_ok (x := "FlashError") (cD.fact 30 (f := .exc "FlashError") rfl); ⟨He.glo_ok X G (cD.fact 31 (f := .glo "FlashError") rfl), q.1, q.2.1, q.2.2.1, q.2.2.2⟩
    x_NoBlock := let q := He.exc_ok (x := "NoBlock") (cD.fact 32 (f := .exc "NoBlock") rfl); ⟨He.glo_ok X G (cD.fact 33 (f := .glo "NoBlock") rfl), q.1, q.2.1, q.2.2.1, q.2.2.2⟩
    x_NoFields := let q := He.exc_ok (x := "NoFields") (cD.fact 34 (f := .exc "NoFields") rfl); ⟨He.glo_ok X G (cD.fact 35 (f := .glo "NoFields") rfl), q.1, q.2.1, q.2.2.1, q.2.2.2⟩
    x_NoFlash := let q := He.exc_ok (x := "NoFlash") (cD.fact 36 (f := .exc "NoFlash") rfl); ⟨He.glo_ok X G (cD.fact 37 (f := .glo "NoFlash") rfl), q.1, q.2.1, q.2.2.1, q.2.2.2⟩
    x_NoLine := let q := He.exc_ok (x := "NoLine") (cD.fact 38 (f := .exc "NoLine") rfl); ⟨He.glo_ok X G (cD.fact 39 (f := .glo "NoLine") rfl), q.1, q.2.1, q.2.2.1, q.2.2.2⟩
    x_NoNumber := let q := He.exc_ok (x := "NoNumber") (cD.fact 40 (f := .exc "NoNumber") rfl); ⟨He.glo_ok X G (cD.fact 41 (f := .glo "NoNumber") rfl), q.1, q.2.1, q.2.2.1, q.2.2.2⟩
    x_NoOrder := let q := He.exc_ok (x := "NoOrder") (cD.fact 42 (f := .exc "NoOrder") rfl); ⟨He.glo_ok X G (cD.fact 43 (f := .glo "NoOrder") rfl), q.1, q.2.1, q.2.2.1, q.2.2.2⟩
    x_NoOrders := let q := He.exc_ok (x := "NoOrders") (cD.fact 44 (f := .exc "NoOrders") rfl); ⟨He.glo_ok X G (cD.fact 45 (f := .glo "NoOrders") rfl), q.1, q.2.1, q.2.2.1, q.2.2.2⟩
    x_NoPage := let q := He.exc_ok (x := "NoPage") (cD.fact 46 (f := .exc "NoPage") rfl); ⟨He.glo_ok X G (cD.fact 47 (f := .glo "NoPage") rfl), q.1, q.2.1, q.2.2.1, q.2.2.2⟩
    x_NoPaper := let q := He.exc_ok (x := "NoPaper") (cD.fact 48 (f := .exc "NoPaper") rfl); ⟨He.glo_ok X G (cD.fact 49 (f := .glo "NoPaper") rfl), q.1, q.2.1, q.2.2.1, q.2.2.2⟩
    x_NoPlace := let q := He.exc_ok (x := "NoPlace") (cD.fact 50 (f := .exc "NoPlace") rfl); ⟨He.glo_ok X G (cD.fact 51 (f := .glo "NoPlace") rfl), q.1, q.2.1, q.2.2.1, q.2.2.2⟩
    x_NoPlan := let q := He.exc_ok (x := "NoPlan") (cD.fact 52 (f := .exc "NoPlan") rfl); ⟨He.glo_ok X G (cD.fact 53 (f := .glo "NoPlan") rfl), q.1, q.2.1, q.2.2.1, q.2.2.2⟩
    x_NoRoom := let q := He.exc_ok (x := "NoRoom") (cD.fact 54 (f := .exc "NoRoom") rfl); ⟨He.glo_ok X G (cD.fact 55 (f := .glo "NoRoom") rfl), q.1, q.2.1, q.2.2.1, q.2.2.2⟩
    x_NoText := let q := He.exc_ok (x := "NoText") (cD.fact 56 (f := .exc "NoText") rfl); ⟨He.glo_ok X G (cD.fact 57 (f := .glo "NoText") rfl), q.1, q.2.1, q.2.2.1, q.2.2.2⟩
    x_NoWeather := let q := He.exc_ok (x := "NoWeather") (cD.fact 58 (f := .exc "NoWeather") rfl); ⟨He.glo_ok X G (cD.fact 59 (f := .glo "NoWeather") rfl), q.1, q.2.1, q.2.2.1, q.2.2.2⟩
    x_NoWidth := let q := He.exc_ok (x := "NoWidth") (cD.fact 60 (f := .exc "NoWidth") rfl); ⟨He.glo_ok X G (cD.fact 61 (f := .glo "NoWidth") rfl), q.1, q.2.1, q.2.2.1, q.2.2.2⟩
    x_NoWord := let q := He.exc_ok (x := "NoWord") (cD.fact 62 (f := .exc "NoWord") rfl); ⟨He.glo_ok X G (cD.fact 63 (f := .glo "NoWord") rfl), q.1, q.2.1, q.2.2.1, q.2.2.2⟩
    x_Off := let q := He.exc_ok (x := "Off") (cD.fact 64 (f := .exc "Off") rfl); ⟨He.glo_ok X G (cD.fact 65 (f := .glo "Off") rfl), q.1, q.2.1, q.2.2.1, q.2.2.2⟩
    x_Over := let q := He.exc_ok (x := "Over") (cD.fact 66 (f := .exc "Over") rfl); ⟨He.glo_ok X G (cD.fact 67 (f := .glo "Over") rfl), q.1, q.2.1, q.2.2.1, q.2.2.2⟩
    x_Spoilt := let q := He.exc_ok (x := "Spoilt") (cD.fact 68 (f := .exc "Spoilt") rfl); ⟨He.glo_ok X G (cD.fact 69 (f := .glo "Spoilt") rfl), q.1, q.2.1, q.2.2.1, q.2.2.2⟩
    x_Worn := let q := He.exc_ok (x := "Worn") (cD.fact 70 (f := .exc "Worn") rfl); ⟨He.glo_ok X G (cD.fact 71 (f := .glo "Worn") rfl), q.1, q.2.1, q.2.2.1, q.2.2.2⟩
    x_Written := let q := He.exc_ok (x := "Written") (cD.fact 72 (f := .exc "Written") rfl); ⟨He.glo_ok X G (cD.fact 73 (f := .glo "Written") rfl), q.1, q.2.1, q.2.2.1, q.2.2.2⟩
    e_FlashError := excm_A (excmB_ok m2)
    ea := excAllB_ok m3
    ix_Bad := isEB_ok m4
    ix_NoBlock := isEB_ok m5
    ix_NoFields := isEB_ok m6
    ix_NoFlash := isEB_ok m7
    ix_NoLine := isEB_ok m8
    ix_NoNumber := isEB_ok m9
    ix_NoOrder := isEB_ok m10
    ix_NoOrders := isEB_ok m11
    ix_NoPage := isEB_ok m12
    ix_NoPaper := isEB_ok m13
    ix_NoPlace := isEB_ok m14
    ix_NoPlan := isEB_ok m15
    ix_NoRoom := isEB_ok m16
    ix_NoText := isEB_ok m17
    ix_NoWeather := isEB_ok m18
    ix_NoWidth := isEB_ok m19
    ix_NoWord := isEB_ok m20
    ix_Off := isEB_ok m21
    ix_Over := isEB_ok m22
    ix_Spoilt := isEB_ok m23
    ix_ValueError := isEB_ok m24
    ix_Worn := isEB_ok m25
    ix_Written := isEB_ok m26
    u__law_again := tabsU_ok m27
    cb__law_again := m28
  }
  obtain ⟨fd_is_whole, F_is_whole⟩ := cD.def_ 0 (d := dd_is_whole) rfl
  obtain ⟨fd_is_within, F_is_within⟩ := cD.def_ 1 (d := dd_is_within) rfl
  obtain ⟨fd_rises, F_rises⟩ := cD.def_ 2 (d := dd_rises) rfl
  obtain ⟨fd_is_fault, F_is_fault⟩ := cD.def_ 3 (d := dd_is_fault) rfl
  obtain ⟨fd_is_weather, F_is_weather⟩ := cD.def_ 4 (d := dd_is_weather) rfl
  obtain ⟨fd_need_weather, F_need_weather⟩ := cD.def_ 5 (d := dd_need_weather) rfl
  obtain ⟨fd_is_place, F_is_place⟩ := cD.def_ 6 (d := dd_is_place) rfl
  obtain ⟨fd_is_row, F_is_row⟩ := cD.def_ 7 (d := dd_is_row) rfl
  obtain ⟨fd_are_rows, F_are_rows⟩ := cD.def_ 8 (d := dd_are_rows) rfl
  obtain ⟨fd_has_shape, F_has_shape⟩ := cD.def_ 9 (d := dd_has_shape) rfl
  obtain ⟨fd_written, F_written⟩ := cD.def_ 10 (d := dd_written) rfl
  obtain ⟨fd_order_text, F_order_text⟩ := cD.def_ 11 (d := dd_order_text) rfl
  obtain ⟨fd_weather_text, F_weather_text⟩ := cD.def_ 12 (d := dd_weather_text) rfl
  obtain ⟨fd_number_in, F_number_in⟩ := cD.def_ 13 (d := dd_number_in) rfl
  obtain ⟨fd_numbers_in, F_numbers_in⟩ := cD.def_ 14 (d := dd_numbers_in) rfl
  obtain ⟨fd_order_in, F_order_in⟩ := cD.def_ 15 (d := dd_order_in) rfl
  obtain ⟨fd_fault_in, F_fault_in⟩ := cD.def_ 16 (d := dd_fault_in) rfl
  obtain ⟨fd_read_order, F_read_order⟩ := cD.def_ 17 (d := dd_read_order) rfl
  obtain ⟨fd_read_weather, F_read_weather⟩ := cD.def_ 18 (d := dd_read_weather) rfl
  obtain ⟨fd__law_cell_at, F__law_cell_at⟩ := cD.def_ 19 (d := dd__law_cell_at) rfl
  obtain ⟨fd__law_state, F__law_state⟩ := cD.def_ 20 (d := dd__law_state) rfl
  obtain ⟨fd__law_choice, F__law_choice⟩ := cD.def_ 21 (d := dd__law_choice) rfl
  obtain ⟨fd__law_order, F__law_order⟩ := cD.def_ 22 (d := dd__law_order) rfl
  obtain ⟨fd__law_marks, F__law_marks⟩ := cD.def_ 23 (d := dd__law_marks) rfl
  obtain ⟨fd__law_said, F__law_said⟩ := cD.def_ 24 (d := dd__law_said) rfl
  obtain ⟨fd__law_any_weather, F__law_any_weather⟩ := cD.def_ 25 (d := dd__law_any_weather) rfl
  obtain ⟨fd__law_any_order, F__law_any_order⟩ := cD.def_ 26 (d := dd__law_any_order) rfl
  obtain ⟨fd__law_again, F__law_again⟩ := cD.def_ 27 (d := dd__law_again) rfl
  obtain ⟨fd__law_right, F__law_right⟩ := cD.def_ 28 (d := dd__law_right) rfl
  obtain ⟨fd_law, F_law⟩ := cD.def_ 29 (d := dd_law) rfl
  have e := hfa.symm.trans (He.glo_ok X G (cD.fact 103 (f := .glo "law") rfl))
  cases e
  have b := FunD.bindsA (ps := ["_law_script"]) F_law fun _ _ _ _ _ _ us hl => match us, hl with | [_], _ => rfl
  refine ⟨fd_law, fun s v => b s [v] rfl, fun base _ _ hTB => ?_⟩
  have TB__law_again : LamX.TabB base mg (mkr K "_law_again").1 (mkr K "_law_again").2 := hTB _ (List.mem_map.mpr ⟨"_law_again", by decide, rfl⟩)
  have o_is_whole := ok_is_whole (P := P) (w := w) (base := base) F_is_whole B 
  have biC_is_whole : Binds K fd_is_whole ["thing"] [] := F_is_whole.bindsN (fun _ _ _ _ _ _ us hl => match us, hl with | [_], _ => rfl)
  have C_is_whole : CalN P w K mg base (TT K) 1 "is_whole" ["thing"] [] m_is_whole := ⟨⟨_, _, [], [], o_is_whole, He.glo_ok X G (cD.fact 74 (f := .glo "is_whole") rfl), F_is_whole.kp, biC_is_whole, .nil, fun _ _ _ => .nil⟩⟩
  have o_is_within := ok_is_within (P := P) (w := w) (base := base) F_is_within B C_is_whole
  have biC_is_within : Binds K fd_is_within ["thing", "least", "most"] [] := F_is_within.bindsN (fun _ _ _ _ _ _ us hl => match us, hl with | [_, _, _], _ => rfl)
  have C_is_within : CalN P w K mg base (TT K) 2 "is_within" ["thing", "least", "most"] [] m_is_within := ⟨⟨_, _, [], [], o_is_within, He.glo_ok X G (cD.fact 75 (f := .glo "is_within") rfl), F_is_within.kp, biC_is_within, .nil, fun _ _ _ => .nil⟩⟩
  have o_rises := ok_rises (P := P) (w := w) (base := base) F_rises B 
  have biC_rises : Binds K fd_rises ["row"] [] := F_rises.bindsN (fun _ _ _ _ _ _ us hl => match us, hl with | [_], _ => rfl)
  have C_rises : CalN P w K mg base (TT K) 1 "rises" ["row"] [] m_rises := ⟨⟨_, _, [], [], o_rises, He.glo_ok X G (cD.fact 76 (f := .glo "rises") rfl), F_rises.kp, biC_rises, .nil, fun _ _ _ => .nil⟩⟩
  have o_is_fault := ok_is_fault (P := P) (w := w) (base := base) F_is_fault B C_is_within
  have biC_is_fault : Binds K fd_is_fault ["thing"] [] := F_is_fault.bindsN (fun _ _ _ _ _ _ us hl => match us, hl with | [_], _ => rfl)
  have C_is_fault : CalN P w K mg base (TT K) 3 "is_fault" ["thing"] [] m_is_fault := ⟨⟨_, _, [], [], o_is_fault, He.glo_ok X G (cD.fact 77 (f := .glo "is_fault") rfl), F_is_fault.kp, biC_is_fault, .nil, fun _ _ _ => .nil⟩⟩
  have o_is_weather := ok_is_weather (P := P) (w := w) (base := base) F_is_weather B C_is_fault C_is_within C_rises
  have biC_is_weather : Binds K fd_is_weather ["thing"] [] := F_is_weather.bindsN (fun _ _ _ _ _ _ us hl => match us, hl with | [_], _ => rfl)
  have C_is_weather : CalN P w K mg base (TT K) 4 "is_weather" ["thing"] [] m_is_weather := ⟨⟨_, _, [], [], o_is_weather, He.glo_ok X G (cD.fact 78 (f := .glo "is_weather") rfl), F_is_weather.kp, biC_is_weather, .nil, fun _ _ _ => .nil⟩⟩
  have o_need_weather := ok_need_weather (P := P) (w := w) (base := base) F_need_weather B C_is_weather
  have biC_need_weather : Binds K fd_need_weather ["thing"] [] := F_need_weather.bindsN (fun _ _ _ _ _ _ us hl => match us, hl with | [_], _ => rfl)
  have C_need_weather : CalN P w K mg base (TT K) 5 "need_weather" ["thing"] [] m_need_weather := ⟨⟨_, _, [], [], o_need_weather, He.glo_ok X G (cD.fact 79 (f := .glo "need_weather") rfl), F_need_weather.kp, biC_need_weather, .nil, fun _ _ _ => .nil⟩⟩
  have o_is_place := ok_is_place (P := P) (w := w) (base := base) F_is_place B C_is_within
  have biC_is_place : Binds K fd_is_place ["thing"] [] := F_is_place.bindsN (fun _ _ _ _ _ _ us hl => match us, hl with | [_], _ => rfl)
  have C_is_place : CalN P w K mg base (TT K) 3 "is_place" ["thing"] [] m_is_place := ⟨⟨_, _, [], [], o_is_place, He.glo_ok X G (cD.fact 80 (f := .glo "is_place") rfl), F_is_place.kp, biC_is_place, .nil, fun _ _ _ => .nil⟩⟩
  have o_is_row := ok_is_row (P := P) (w := w) (base := base) F_is_row B C_is_place C_is_within
  have biC_is_row : Binds K fd_is_row ["thing"] [] := F_is_row.bindsN (fun _ _ _ _ _ _ us hl => match us, hl with | [_], _ => rfl)
  have C_is_row : CalN P w K mg base (TT K) 4 "is_row" ["thing"] [] m_is_row := ⟨⟨_, _, [], [], o_is_row, He.glo_ok X G (cD.fact 81 (f := .glo "is_row") rfl), F_is_row.kp, biC_is_row, .nil, fun _ _ _ => .nil⟩⟩
  have o_are_rows := ok_are_rows (P := P) (w := w) (base := base) F_are_rows B C_is_row
  have biC_are_rows : Binds K fd_are_rows ["thing"] [] := F_are_rows.bindsN (fun _ _ _ _ _ _ us hl => match us, hl with | [_], _ => rfl)
  have C_are_rows : CalN P w K mg base (TT K) 5 "are_rows" ["thing"] [] m_are_rows := ⟨⟨_, _, [], [], o_are_rows, He.glo_ok X G (cD.fact 82 (f := .glo "are_rows") rfl), F_are_rows.kp, biC_are_rows, .nil, fun _ _ _ => .nil⟩⟩
  have o_has_shape := ok_has_shape (P := P) (w := w) (base := base) F_has_shape B C_are_rows C_is_place C_is_row
  have biC_has_shape : Binds K fd_has_shape ["thing"] [] := F_has_shape.bindsN (fun _ _ _ _ _ _ us hl => match us, hl with | [_], _ => rfl)
  have C_has_shape : CalN P w K mg base (TT K) 6 "has_shape" ["thing"] [] m_has_shape := ⟨⟨_, _, [], [], o_has_shape, He.glo_ok X G (cD.fact 83 (f := .glo "has_shape") rfl), F_has_shape.kp, biC_has_shape, .nil, fun _ _ _ => .nil⟩⟩
  have o_written := ok_written (P := P) (w := w) (base := base) F_written B 
  have biC_written : Binds K fd_written ["order"] [] := F_written.bindsN (fun _ _ _ _ _ _ us hl => match us, hl with | [_], _ => rfl)
  have C_written : CalN P w K mg base (TT K) 1 "written" ["order"] [] m_written := ⟨⟨_, _, [], [], o_written, He.glo_ok X G (cD.fact 84 (f := .glo "written") rfl), F_written.kp, biC_written, .nil, fun _ _ _ => .nil⟩⟩
  have o_order_text := ok_order_text (P := P) (w := w) (base := base) F_order_text B C_has_shape C_written
  have biC_order_text : Binds K fd_order_text ["order"] [] := F_order_text.bindsN (fun _ _ _ _ _ _ us hl => match us, hl with | [_], _ => rfl)
  have C_order_text : CalN P w K mg base (TT K) 7 "order_text" ["order"] [] m_order_text := ⟨⟨_, _, [], [], o_order_text, He.glo_ok X G (cD.fact 85 (f := .glo "order_text") rfl), F_order_text.kp, biC_order_text, .nil, fun _ _ _ => .nil⟩⟩
  have o_weather_text := ok_weather_text (P := P) (w := w) (base := base) F_weather_text B C_need_weather
  have biC_weather_text : Binds K fd_weather_text ["weather"] [] := F_weather_text.bindsN (fun _ _ _ _ _ _ us hl => match us, hl with | [_], _ => rfl)
  have C_weather_text : CalN P w K mg base (TT K) 6 "weather_text" ["weather"] [] m_weather_text := ⟨⟨_, _, [], [], o_weather_text, He.glo_ok X G (cD.fact 86 (f := .glo "weather_text") rfl), F_weather_text.kp, biC_weather_text, .nil, fun _ _ _ => .nil⟩⟩
  have o_number_in := ok_number_in (P := P) (w := w) (base := base) F_number_in B 
  have biC_number_in : Binds K fd_number_in ["word"] [] := F_number_in.bindsN (fun _ _ _ _ _ _ us hl => match us, hl with | [_], _ => rfl)
  have C_number_in : CalN P w K mg base (TT K) 1 "number_in" ["word"] [] m_number_in := ⟨⟨_, _, [], [], o_number_in, He.glo_ok X G (cD.fact 87 (f := .glo "number_in") rfl), F_number_in.kp, biC_number_in, .nil, fun _ _ _ => .nil⟩⟩
  have o_numbers_in := ok_numbers_in (P := P) (w := w) (base := base) F_numbers_in B C_number_in
  have biC_numbers_in : Binds K fd_numbers_in ["words"] [] := F_numbers_in.bindsN (fun _ _ _ _ _ _ us hl => match us, hl with | [_], _ => rfl)
  have C_numbers_in : CalN P w K mg base (TT K) 2 "numbers_in" ["words"] [] m_numbers_in := ⟨⟨_, _, [], [], o_numbers_in, He.glo_ok X G (cD.fact 88 (f := .glo "numbers_in") rfl), F_numbers_in.kp, biC_numbers_in, .nil, fun _ _ _ => .nil⟩⟩
  have o_order_in := ok_order_in (P := P) (w := w) (base := base) F_order_in B C_has_shape C_numbers_in
  have biC_order_in : Binds K fd_order_in ["text"] [] := F_order_in.bindsN (fun _ _ _ _ _ _ us hl => match us, hl with | [_], _ => rfl)
  have C_order_in : CalN P w K mg base (TT K) 7 "order_in" ["text"] [] m_order_in := ⟨⟨_, _, [], [], o_order_in, He.glo_ok X G (cD.fact 89 (f := .glo "order_in") rfl), F_order_in.kp, biC_order_in, .nil, fun _ _ _ => .nil⟩⟩
  have o_fault_in := ok_fault_in (P := P) (w := w) (base := base) F_fault_in B C_number_in
  have biC_fault_in : Binds K fd_fault_in ["word"] [] := F_fault_in.bindsN (fun _ _ _ _ _ _ us hl => match us, hl with | [_], _ => rfl)
  have C_fault_in : CalN P w K mg base (TT K) 2 "fault_in" ["word"] [] m_fault_in := ⟨⟨_, _, [], [], o_fault_in, He.glo_ok X G (cD.fact 90 (f := .glo "fault_in") rfl), F_fault_in.kp, biC_fault_in, .nil, fun _ _ _ => .nil⟩⟩
  have o_read_order := ok_read_order (P := P) (w := w) (base := base) F_read_order B C_order_in
  have biC_read_order : Binds K fd_read_order ["text"] [] := F_read_order.bindsN (fun _ _ _ _ _ _ us hl => match us, hl with | [_], _ => rfl)
  have C_read_order : CalN P w K mg base (TT K) 8 "read_order" ["text"] [] m_read_order := ⟨⟨_, _, [], [], o_read_order, He.glo_ok X G (cD.fact 91 (f := .glo "read_order") rfl), F_read_order.kp, biC_read_order, .nil, fun _ _ _ => .nil⟩⟩
  have o_read_weather := ok_read_weather (P := P) (w := w) (base := base) F_read_weather B C_fault_in C_is_weather
  have biC_read_weather : Binds K fd_read_weather ["text"] [] := F_read_weather.bindsN (fun _ _ _ _ _ _ us hl => match us, hl with | [_], _ => rfl)
  have C_read_weather : CalN P w K mg base (TT K) 5 "read_weather" ["text"] [] m_read_weather := ⟨⟨_, _, [], [], o_read_weather, He.glo_ok X G (cD.fact 92 (f := .glo "read_weather") rfl), F_read_weather.kp, biC_read_weather, .nil, fun _ _ _ => .nil⟩⟩
  have o__law_cell_at := ok__law_cell_at (P := P) (w := w) (base := base) F__law_cell_at B 
  have biC__law_cell_at : Binds K fd__law_cell_at ["_law_script", "_law_k"] [] := F__law_cell_at.bindsN (fun _ _ _ _ _ _ us hl => match us, hl with | [_, _], _ => rfl)
  have C__law_cell_at : CalN P w K mg base (TT K) 1 "_law_cell_at" ["_law_script", "_law_k"] [] m__law_cell_at := ⟨⟨_, _, [], [], o__law_cell_at, He.glo_ok X G (cD.fact 93 (f := .glo "_law_cell_at") rfl), F__law_cell_at.kp, biC__law_cell_at, .nil, fun _ _ _ => .nil⟩⟩
  have o__law_state := ok__law_state (P := P) (w := w) (base := base) F__law_state B C__law_cell_at
  have biC__law_state : Binds K fd__law_state ["_law_script", "_law_k"] [] := F__law_state.bindsN (fun _ _ _ _ _ _ us hl => match us, hl with | [_, _], _ => rfl)
  have C__law_state : CalN P w K mg base (TT K) 2 "_law_state" ["_law_script", "_law_k"] [] m__law_state := ⟨⟨_, _, [], [], o__law_state, He.glo_ok X G (cD.fact 94 (f := .glo "_law_state") rfl), F__law_state.kp, biC__law_state, .nil, fun _ _ _ => .nil⟩⟩
  have o__law_choice := ok__law_choice (P := P) (w := w) (base := base) F__law_choice B 
  have biC__law_choice : Binds K fd__law_choice ["_law_state_here", "_law_many"] [] := F__law_choice.bindsN (fun _ _ _ _ _ _ us hl => match us, hl with | [_, _], _ => rfl)
  have C__law_choice : CalN P w K mg base (TT K) 1 "_law_choice" ["_law_state_here", "_law_many"] [] m__law_choice := ⟨⟨_, _, [], [], o__law_choice, He.glo_ok X G (cD.fact 95 (f := .glo "_law_choice") rfl), F__law_choice.kp, biC__law_choice, .nil, fun _ _ _ => .nil⟩⟩
  have o__law_order := ok__law_order (P := P) (w := w) (base := base) F__law_order B C__law_choice
  have biC__law_order : Binds K fd__law_order ["_law_state_here", "_law_plan"] [] := F__law_order.bindsN (fun _ _ _ _ _ _ us hl => match us, hl with | [_, _], _ => rfl)
  have C__law_order : CalN P w K mg base (TT K) 2 "_law_order" ["_law_state_here", "_law_plan"] [] m__law_order := ⟨⟨_, _, [], [], o__law_order, He.glo_ok X G (cD.fact 96 (f := .glo "_law_order") rfl), F__law_order.kp, biC__law_order, .nil, fun _ _ _ => .nil⟩⟩
  have o__law_marks := ok__law_marks (P := P) (w := w) (base := base) F__law_marks B 
  have biX__law_marks : Binds K fd__law_marks ["_law_e"] [] := F__law_marks.bindsN (fun _ _ _ _ _ _ us hl => match us, hl with | [_], _ => rfl)
  have X__law_marks : CalX P w K mg base (TT K) excU 1 "_law_marks" ["_law_e"] m__law_marks := ⟨⟨_, _, o__law_marks, He.glo_ok X G (cD.fact 97 (f := .glo "_law_marks") rfl), F__law_marks.kp, biX__law_marks⟩⟩
  have o__law_said := ok__law_said (P := P) (w := w) (base := base) F__law_said B X__law_marks
  have biL__law_said : Binds K fd__law_said ["_law_call"] [] := F__law_said.bindsN (fun _ _ _ _ _ _ us hl => match us, hl with | [_], _ => rfl)
  have L__law_said : CalL P w K mg base (TT K) 2 "_law_said" "_law_call" m__law_said := ⟨⟨_, _, o__law_said, He.glo_ok X G (cD.fact 98 (f := .glo "_law_said") rfl), F__law_said.kp, biL__law_said⟩⟩
  have o__law_any_weather := ok__law_any_weather (P := P) (w := w) (base := base) F__law_any_weather B C__law_choice
  have biC__law_any_weather : Binds K fd__law_any_weather ["_law_state_here", "_law_far_step"] [] := F__law_any_weather.bindsN (fun _ _ _ _ _ _ us hl => match us, hl with | [_, _], _ => rfl)
  have C__law_any_weather : CalN P w K mg base (TT K) 2 "_law_any_weather" ["_law_state_here", "_law_far_step"] [] m__law_any_weather := ⟨⟨_, _, [], [], o__law_any_weather, He.glo_ok X G (cD.fact 99 (f := .glo "_law_any_weather") rfl), F__law_any_weather.kp, biC__law_any_weather, .nil, fun _ _ _ => .nil⟩⟩
  have o__law_any_order := ok__law_any_order (P := P) (w := w) (base := base) F__law_any_order B C__law_choice C__law_order
  have biC__law_any_order : Binds K fd__law_any_order ["_law_state_here"] [] := F__law_any_order.bindsN (fun _ _ _ _ _ _ us hl => match us, hl with | [_], _ => rfl)
  have C__law_any_order : CalN P w K mg base (TT K) 3 "_law_any_order" ["_law_state_here"] [] m__law_any_order := ⟨⟨_, _, [], [], o__law_any_order, He.glo_ok X G (cD.fact 100 (f := .glo "_law_any_order") rfl), F__law_any_order.kp, biC__law_any_order, .nil, fun _ _ _ => .nil⟩⟩
  have o__law_again := ok__law_again (P := P) (w := w) (base := base) F__law_again B C_is_weather C_order_text C_read_order C_read_weather C_weather_text L__law_said TB__law_again
  have biC__law_again : Binds K fd__law_again ["_law_text"] [] := F__law_again.bindsN (fun _ _ _ _ _ _ us hl => match us, hl with | [_], _ => rfl)
  have C__law_again : CalN P w K mg base (TT K) 11 "_law_again" ["_law_text"] [] m__law_again := ⟨⟨_, _, [], [], o__law_again, He.glo_ok X G (cD.fact 101 (f := .glo "_law_again") rfl), F__law_again.kp, biC__law_again, .nil, fun _ _ _ => .nil⟩⟩
  have o__law_right := ok__law_right (P := P) (w := w) (base := base) F__law_right B C__law_again C__law_any_order C__law_any_weather C__law_choice C_order_text C_weather_text
  have biC__law_right : Binds K fd__law_right ["_law_state_here"] [] := F__law_right.bindsN (fun _ _ _ _ _ _ us hl => match us, hl with | [_], _ => rfl)
  have C__law_right : CalN P w K mg base (TT K) 12 "_law_right" ["_law_state_here"] [] m__law_right := ⟨⟨_, _, [], [], o__law_right, He.glo_ok X G (cD.fact 102 (f := .glo "_law_right") rfl), F__law_right.kp, biC__law_right, .nil, fun _ _ _ => .nil⟩⟩
  exact ok_law F_law B C__law_right C__law_state
end Fk
/-! ## the evaluator's rows -/
namespace Fk
open PySem PySem.Spec PyProof.Rows L2
@[simp] theorem k_eVar (i : Nat) (r0 : List Sl) (s0 : List AV) : eVar i (Ss.mk r0 s0) = match getSl r0 i with
  | .im d => .ok d (Ss.mk r0 s0)
  | .ow d => match frz d with
    | some d' => .ok d' ⟨setSl r0 i (.im d'), s0⟩
    | none => .bad
  | .no => .bad := id rfl
@[simp] theorem k_eC (d : AV) (r0 : List Sl) (s0 : List AV) : eC d (Ss.mk r0 s0) = .ok d (Ss.mk r0 s0) := id rfl
@[simp] theorem k_e1 (f : AV → Option AV) (a : M AV) (r0 : List Sl) (s0 : List AV) : e1 f a (Ss.mk r0 s0) = (a (Ss.mk r0 s0)).bind fun x s1 => ofO (f x) s1 := id rfl
@[simp] theorem k_e2 (f : AV → AV → Option AV) (a b : M AV) (r0 : List Sl) (s0 : List AV) : e2 f a b (Ss.mk r0 s0) = (a (Ss.mk r0 s0)).bind fun x s1 => (b s1).bind fun y s2 => ofO (f x y) s2 := id rfl
@[simp] theorem k_tOf (m : M AV) (r0 : List Sl) (s0 : List AV) : tOf m (Ss.mk r0 s0) = (m (Ss.mk r0 s0)).bind fun x s1 => match x with
  | .bl b => .ok b s1
  | _ => .bad := id rfl
@[simp] theorem k_aNil  (r0 : List Sl) (s0 : List AV) : aNil (Ss.mk r0 s0) = .ok [] (Ss.mk r0 s0) := id rfl
@[simp] theorem k_aCons (a : M AV) (r : M (List AV)) (r0 : List Sl) (s0 : List AV) : aCons a r (Ss.mk r0 s0) = (a (Ss.mk r0 s0)).bind fun x s1 => (r s1).bind fun xs s2 => .ok (x :: xs) s2 := id rfl
@[simp] theorem k_eTup (a : M (List AV)) (r0 : List Sl) (s0 : List AV) : eTup a (Ss.mk r0 s0) = (a (Ss.mk r0 s0)).bind fun xs s1 => if xs.length ≤ 16777216 then .ok (.tup xs) s1 else .bad := id rfl
@[simp] theorem k_eLst (a : M (List AV)) (r0 : List Sl) (s0 : List AV) : eLst a (Ss.mk r0 s0) = (a (Ss.mk r0 s0)).bind fun xs s1 => if xs.length ≤ 16777216 then .ok (.lst false xs) s1 else .bad := id rfl
@[simp] theorem k_eLstO (a : M (List AV)) (r0 : List Sl) (s0 : List AV) : eLstO a (Ss.mk r0 s0) = (a (Ss.mk r0 s0)).bind fun xs s1 => if xs.length ≤ 16777216 then .ok (.lst true xs) s1 else .bad := id rfl
@[simp] theorem k_tNotM (a : M Bool) (r0 : List Sl) (s0 : List AV) : tNotM a (Ss.mk r0 s0) = (a (Ss.mk r0 s0)).bind fun x s1 => .ok (!x) s1 := id rfl
@[simp] theorem k_tAndM (a b : M Bool) (r0 : List Sl) (s0 : List AV) : tAndM a b (Ss.mk r0 s0) = (a (Ss.mk r0 s0)).bind fun x s1 => bif x then b s1 else .ok false s1 := id rfl
@[simp] theorem k_tOrM (a b : M Bool) (r0 : List Sl) (s0 : List AV) : tOrM a b (Ss.mk r0 s0) = (a (Ss.mk r0 s0)).bind fun x s1 => bif x then .ok true s1 else b s1 := id rfl
@[simp] theorem k_eAnd (a b : M AV) (r0 : List Sl) (s0 : List AV) : eAnd a b (Ss.mk r0 s0) = (a (Ss.mk r0 s0)).bind fun x s1 => (ofO (asB x) s1).bind fun c s2 => bif c then b s2 else .ok (.bl false) s2 := id rfl
@[simp] theorem k_eOr (a b : M AV) (r0 : List Sl) (s0 : List AV) : eOr a b (Ss.mk r0 s0) = (a (Ss.mk r0 s0)).bind fun x s1 => (ofO (asB x) s1).bind fun c s2 => bif c then .ok (.bl true) s2 else b s2 := id rfl
@[simp] theorem k_eIf (t : M Bool) (a b : M AV) (r0 : List Sl) (s0 : List AV) : eIf t a b (Ss.mk r0 s0) = (t (Ss.mk r0 s0)).bind fun c s1 => bif c then a s1 else b s1 := id rfl
@[simp] theorem k_eChn (f g : AV → AV → Option AV) (a b c : M AV) (r0 : List Sl) (s0 : List AV) : eChn f g a b c (Ss.mk r0 s0) = (a (Ss.mk r0 s0)).bind fun x s1 => (b s1).bind fun y s2 => (ofO ((f x y).bind asB) s2).bind fun k s3 => bif k then (c s3).bind fun z s4 => ofO (g y z) s4 else .ok (.bl false) s3 := id rfl
@[simp] theorem k_sNx  (r0 : List Sl) (s0 : List AV) : sNx (Ss.mk r0 s0) = .ok .nx (Ss.mk r0 s0) := id rfl
@[simp] theorem k_sSeq (a b : M Fl) (r0 : List Sl) (s0 : List AV) : sSeq a b (Ss.mk r0 s0) = (a (Ss.mk r0 s0)).bind fun f s1 => match f with
  | .nx => b s1
  | f => .ok f s1 := id rfl
@[simp] theorem k_sAsg (i : Nat) (e : M AV) (r0 : List Sl) (s0 : List AV) : sAsg i e (Ss.mk r0 s0) = (e (Ss.mk r0 s0)).bind fun d s1 => .ok .nx ⟨setSl s1.r i (.im d), s1.s⟩ := id rfl
@[simp] theorem k_sAsgO (i : Nat) (e : M AV) (r0 : List Sl) (s0 : List AV) : sAsgO i e (Ss.mk r0 s0) = (e (Ss.mk r0 s0)).bind fun d s1 => .ok .nx ⟨setSl s1.r i (.ow d), s1.s⟩ := id rfl
@[simp] theorem k_sExp (e : M AV) (r0 : List Sl) (s0 : List AV) : sExp e (Ss.mk r0 s0) = (e (Ss.mk r0 s0)).bind fun _ s1 => .ok .nx s1 := id rfl
@[simp] theorem k_sRet (e : M AV) (r0 : List Sl) (s0 : List AV) : sRet e (Ss.mk r0 s0) = (e (Ss.mk r0 s0)).bind fun d s1 => .ok (.rt d) s1 := id rfl
@[simp] theorem k_sIf (t : M Bool) (a b : M Fl) (r0 : List Sl) (s0 : List AV) : sIf t a b (Ss.mk r0 s0) = (t (Ss.mk r0 s0)).bind fun c s1 => bif c then a s1 else b s1 := id rfl
@[simp] theorem k_sBrk  (r0 : List Sl) (s0 : List AV) : sBrk (Ss.mk r0 s0) = .ok .bk (Ss.mk r0 s0) := id rfl
@[simp] theorem k_sCnt  (r0 : List Sl) (s0 : List AV) : sCnt (Ss.mk r0 s0) = .ok .ct (Ss.mk r0 s0) := id rfl
@[simp] theorem k_sAsgOw (i : Nat) (e : M AV) (r0 : List Sl) (s0 : List AV) : sAsgOw i e (Ss.mk r0 s0) = (e (Ss.mk r0 s0)).bind fun d s1 => if i < s1.r.length then .ok .nx ⟨setSl s1.r i (.ow d), s1.s⟩ else .bad := id rfl
@[simp] theorem k_eCall (n : Nat) (f : Fn) (ds : List AV) (a : M (List AV)) (r0 : List Sl) (s0 : List AV) : eCall n f ds a (Ss.mk r0 s0) = (a (Ss.mk r0 s0)).bind fun xs s1 => if xs.length + ds.length = n then back s1.r (f (xs ++ ds) s1.s) else .bad := id rfl
@[simp] theorem k_sRaise (c : Str) (r0 : List Sl) (s0 : List AV) : sRaise c (Ss.mk r0 s0) = .err c (Ss.mk r0 s0) := id rfl
@[simp] theorem k_iOf (m : M AV) (r0 : List Sl) (s0 : List AV) : iOf m (Ss.mk r0 s0) = (m (Ss.mk r0 s0)).bind fun x s1 => ofO (itemsOf x) s1 := id rfl
@[simp] theorem k_iArg (f : List AV → Option (List AV)) (m : M (List AV)) (r0 : List Sl) (s0 : List AV) : iArg f m (Ss.mk r0 s0) = (m (Ss.mk r0 s0)).bind fun xs s1 => ofO (f xs) s1 := id rfl
@[simp] theorem k_sFor (mi : M (List AV)) (t : Tg) (body : M Fl) (r0 : List Sl) (s0 : List AV) : sFor mi t body (Ss.mk r0 s0) = (mi (Ss.mk r0 s0)).bind fun ds s1 => forM t body ds s1 := id rfl
@[simp] theorem k_tTrue  (r0 : List Sl) (s0 : List AV) : tTrue (Ss.mk r0 s0) = .ok true (Ss.mk r0 s0) := id rfl
@[simp] theorem k_lcM (mi : M (List AV)) (t : Tg) (tt : M Bool) (te : M AV) (vs : List Nat) (r0 : List Sl) (s0 : List AV) : lcM mi t tt te vs (Ss.mk r0 s0) = (mi (Ss.mk r0 s0)).bind fun ds s1 => compM t tt te vs ds [] (s1.wipe vs) := id rfl
@[simp] theorem k_eLc (o : Bool) (m : M (List AV)) (r0 : List Sl) (s0 : List AV) : eLc o m (Ss.mk r0 s0) = (m (Ss.mk r0 s0)).bind fun xs s1 => .ok (.lst o xs) s1 := id rfl
@[simp] theorem k_eB (f : List AV → List AV → Option AV) (a : M (List AV)) (r0 : List Sl) (s0 : List AV) : eB f a (Ss.mk r0 s0) = (a (Ss.mk r0 s0)).bind fun xs s1 => ofO (f s1.s xs) s1 := id rfl
@[simp] theorem k_eBP (f : List AV → List AV → Option AV) (a : Ss → Option (List AV)) (r0 : List Sl) (s0 : List AV) : eBP f a (Ss.mk r0 s0) = match a (Ss.mk r0 s0) with
  | some xs => ofO (f s0 xs) (Ss.mk r0 s0)
  | none => .bad := id rfl
@[simp] theorem k_pNil  (r0 : List Sl) (s0 : List AV) : pNil (Ss.mk r0 s0) = some [] := id rfl
@[simp] theorem k_pCons (a : Ss → Option AV) (r : Ss → Option (List AV)) (r0 : List Sl) (s0 : List AV) : pCons a r (Ss.mk r0 s0) = (a (Ss.mk r0 s0)).bind fun x => (r (Ss.mk r0 s0)).map (x :: ·) := id rfl
@[simp] theorem k_pVar (i : Nat) (r0 : List Sl) (s0 : List AV) : pVar i (Ss.mk r0 s0) = match getSl r0 i with
  | .im d => some d
  | .ow d => some d
  | .no => none := id rfl
@[simp] theorem k_pC (d : AV) (r0 : List Sl) (s0 : List AV) : pC d (Ss.mk r0 s0) = some d := id rfl
@[simp] theorem k_p2 (f : AV → AV → Option AV) (a b : Ss → Option AV) (r0 : List Sl) (s0 : List AV) : p2 f a b (Ss.mk r0 s0) = (a (Ss.mk r0 s0)).bind fun x => (b (Ss.mk r0 s0)).bind fun y => f x y := id rfl
@[simp] theorem k_eP (m : Ss → Option AV) (r0 : List Sl) (s0 : List AV) : eP m (Ss.mk r0 s0) = match m (Ss.mk r0 s0) with
  | some d => bif imm d then .ok d (Ss.mk r0 s0) else .bad
  | none => .bad := id rfl
@[simp] theorem k_e2P (f : AV → AV → Option AV) (a b : Ss → Option AV) (r0 : List Sl) (s0 : List AV) : e2P f a b (Ss.mk r0 s0) = match p2 f a b (Ss.mk r0 s0) with
  | some d => .ok d (Ss.mk r0 s0)
  | none => .bad := id rfl
@[simp] theorem k_eIsi (n : String) (m : M AV) (r0 : List Sl) (s0 : List AV) : eIsi n m (Ss.mk r0 s0) = (m (Ss.mk r0 s0)).bind fun x s1 => bif okT x then .ok (.bl (isT n x)) s1 else .bad := id rfl
@[simp] theorem k_eIx (a b : M AV) (r0 : List Sl) (s0 : List AV) : eIx a b (Ss.mk r0 s0) = (a (Ss.mk r0 s0)).bind fun x s1 => (b s1).bind fun y s2 => match ixA s2.s x y with
  | some d => bif imm d then .ok d s2 else .bad
  | none => .bad := id rfl
@[simp] theorem k_pIx (a b : Ss → Option AV) (r0 : List Sl) (s0 : List AV) : pIx a b (Ss.mk r0 s0) = (a (Ss.mk r0 s0)).bind fun x => (b (Ss.mk r0 s0)).bind fun y => ixA s0 x y := id rfl
@[simp] theorem k_eSl (a : M AV) (lo hi : Option (M AV)) (r0 : List Sl) (s0 : List AV) : eSl a lo hi (Ss.mk r0 s0) = (a (Ss.mk r0 s0)).bind fun x s1 => (oPart lo s1).bind fun l s2 => (oPart hi s2).bind fun u s3 => ofO (slA x l u) s3 := id rfl
@[simp] theorem k_eApp (i : Nat) (m : M AV) (r0 : List Sl) (s0 : List AV) : eApp i m (Ss.mk r0 s0) = match ownL (getSl r0 i) with
  | none => .bad
  | some _ => (m (Ss.mk r0 s0)).bind fun d s1 => match ownL (getSl s1.r i) with
    | none => .bad
    | some xs => if xs.length < 16777216 then .ok .non (putL i (xs ++ [d]) s1) else .bad := id rfl
@[simp] theorem k_ePop (i : Nat) (m : M AV) (r0 : List Sl) (s0 : List AV) : ePop i m (Ss.mk r0 s0) = match ownL (getSl r0 i) with
  | none => .bad
  | some _ => (m (Ss.mk r0 s0)).bind fun d s1 => match ownL (getSl s1.r i) with
    | none => .bad
    | some xs => match popA xs d with
      | some (y, ys) => .ok y (putL i ys s1)
      | none => .bad := id rfl
@[simp] theorem k_sSetB (i : Nat) (mk mv : M AV) (r0 : List Sl) (s0 : List AV) : sSetB i mk mv (Ss.mk r0 s0) = (mv (Ss.mk r0 s0)).bind fun d s1 => bif isOw (getSl s1.r i) then (mk s1).bind fun y s2 => storeB i y d s2 else .bad := id rfl
@[simp] theorem k_pFld (C f : Str) (m : Ss → Option AV) (r0 : List Sl) (s0 : List AV) : pFld C f m (Ss.mk r0 s0) = (m (Ss.mk r0 s0)).bind fun x => fldA s0 C f x := id rfl
@[simp] theorem k_sFld (C f : Str) (mo : Ss → Option AV) (mv : M AV) (r0 : List Sl) (s0 : List AV) : sFld C f mo mv (Ss.mk r0 s0) = (mv (Ss.mk r0 s0)).bind fun d s1 => match (mo s1).bind fun x => putFld C f x d s1 with
  | some s2 => .ok .nx s2
  | none => .bad := id rfl
@[simp] theorem k_mAlt {α : Type} (a b : M α) (r0 : List Sl) (s0 : List AV) : mAlt a b (Ss.mk r0 s0) = match a (Ss.mk r0 s0) with
  | .bad => b (Ss.mk r0 s0)
  | r => r := id rfl
@[simp] theorem k_sSetP (w : Bool) (fo : Option (Str × Str)) (mo mk : Ss → Option AV) (mv : M AV) (r0 : List Sl) (s0 : List AV) : sSetP w fo mo mk mv (Ss.mk r0 s0) = (mv (Ss.mk r0 s0)).bind fun d s1 => match (mo s1).bind locOf with
  | some l => (match mk s1 with
    | some y => (match (getPl s1.s l fo).bind fun z => setZ w z y d with
      | some z' => .ok .nx ⟨s1.r, setPl s1.s l fo z'⟩
      | none => .bad)
    | none => .bad)
  | none => .bad := id rfl
@[simp] theorem k_sAug (i : Nat) (m : M AV) (r0 : List Sl) (s0 : List AV) : sAug i m (Ss.mk r0 s0) = match getSl r0 i with
  | .im (.int a) => (m (Ss.mk r0 s0)).bind fun d s1 => match d with
    | .int b => .ok .nx ⟨setSl s1.r i (.im (.int (a + b))), s1.s⟩
    | _ => .bad
  | _ => .bad := id rfl
@[simp] theorem k_sFAug (C f : Str) (mo mv : M AV) (r0 : List Sl) (s0 : List AV) : sFAug C f mo mv (Ss.mk r0 s0) = (mo (Ss.mk r0 s0)).bind fun x s1 => match fldA s1.s C f x with
  | some (.int a) => (mv s1).bind fun d s2 => match d with
    | .int b => (match putFld C f x (.int (a + b)) s2 with
      | some s3 => .ok .nx s3
      | none => .bad)
    | _ => .bad
  | _ => .bad := id rfl
@[simp] theorem k_sAugP (fo : Option (Str × Str)) (mo mk me : Ss → Option AV) (r0 : List Sl) (s0 : List AV) : sAugP fo mo mk me (Ss.mk r0 s0) = match (mo (Ss.mk r0 s0)).bind locOf with
  | some l => (match mk (Ss.mk r0 s0), me (Ss.mk r0 s0) with
    | some y, some d => (match (getPl s0 l fo).bind fun z => augZ z y d with
      | some z' => .ok .nx ⟨r0, setPl s0 l fo z'⟩
      | none => .bad)
    | _, _ => .bad)
  | none => .bad := id rfl
@[simp] theorem k_sAugB (i : Nat) (mk me : Ss → Option AV) (r0 : List Sl) (s0 : List AV) : sAugB i mk me (Ss.mk r0 s0) = match ownL (getSl r0 i) with
  | some xs => (match mk (Ss.mk r0 s0), me (Ss.mk r0 s0) with
    | some y, some d => (match augZ (.lst true xs) y d with
      | some (.lst _ ys) => .ok .nx (putL i ys (Ss.mk r0 s0))
      | _ => .bad)
    | _, _ => .bad)
  | none => .bad := id rfl
@[simp] theorem k_eProm (m : M AV) (r0 : List Sl) (s0 : List AV) : eProm m (Ss.mk r0 s0) = (m (Ss.mk r0 s0)).bind fun d s1 => bif ownA d then .ok (.loc s1.s.length) ⟨s1.r, s1.s ++ [d]⟩ else .bad := id rfl
@[simp] theorem k_eMeth (C nm : Str) (n : Nat) (f : Fn) (ds : List AV) (mo : M AV) (ma : M (List AV)) (r0 : List Sl) (s0 : List AV) : eMeth C nm n f ds mo ma (Ss.mk r0 s0) = (mo (Ss.mk r0 s0)).bind fun x s1 => bif clsOk s1.s C nm x then (ma s1).bind fun xs s2 => if 1 + (xs.length + ds.length) = n then back s2.r (f (x :: (xs ++ ds)) s2.s) else .bad else .bad := id rfl
@[simp] theorem k_eMake (C : Str) (n : Nat) (f : Fn) (ds : List AV) (ma : M (List AV)) (r0 : List Sl) (s0 : List AV) : eMake C n f ds ma (Ss.mk r0 s0) = (ma (Ss.mk r0 s0)).bind fun xs s1 => if 1 + (xs.length + ds.length) = n then mkBack s1.r s1.s.length (f (.loc s1.s.length :: (xs ++ ds)) (s1.s ++ [.ins C [] []])) else .bad := id rfl
@[simp] theorem k_eLn (m : M (List AV)) (r0 : List Sl) (s0 : List AV) : eLn m (Ss.mk r0 s0) = (m (Ss.mk r0 s0)).bind fun xs s1 => .ok (.nst xs) s1 := id rfl
@[simp] theorem k_xI (m : M AV) (r0 : List Sl) (s0 : List AV) : xI m (Ss.mk r0 s0) = (m (Ss.mk r0 s0)).bind fun d s1 => .ok (.im d) s1 := id rfl
@[simp] theorem k_xO (m : M AV) (r0 : List Sl) (s0 : List AV) : xO m (Ss.mk r0 s0) = (m (Ss.mk r0 s0)).bind fun d s1 => .ok (.ow d) s1 := id rfl
@[simp] theorem k_sPar (i j : Nat) (ma mb : M Sl) (r0 : List Sl) (s0 : List AV) : sPar i j ma mb (Ss.mk r0 s0) = (ma (Ss.mk r0 s0)).bind fun x s1 => bif isNo x then .bad else (mb s1).bind fun y s2 => bif isNo y then .bad else if i < s2.r.length ∧ j < s2.r.length then .ok .nx ⟨setSl (setSl s2.r j y) i x, s2.s⟩ else .bad := id rfl
@[simp] theorem k_sPar3 (i j l : Nat) (ma mb mc : M Sl) (r0 : List Sl) (s0 : List AV) : sPar3 i j l ma mb mc (Ss.mk r0 s0) = (ma (Ss.mk r0 s0)).bind fun x s1 => bif isNo x then .bad else (mb s1).bind fun y s2 => bif isNo y then .bad else (mc s2).bind fun z s3 => bif isNo z then .bad else if i < s3.r.length ∧ j < s3.r.length ∧ l < s3.r.length then .ok .nx ⟨setSl (setSl (setSl s3.r l z) j y) i x, s3.s⟩ else .bad := id rfl
@[simp] theorem k_sAsgG (t : Tg) (m : M AV) (r0 : List Sl) (s0 : List AV) : sAsgG t m (Ss.mk r0 s0) = (m (Ss.mk r0 s0)).bind fun d s1 => match t d s1 with
  | some s2 => .ok .nx s2
  | none => .bad := id rfl
@[simp] theorem k_eDnew  (r0 : List Sl) (s0 : List AV) : eDnew (Ss.mk r0 s0) = .ok (.dct true [] []) (Ss.mk r0 s0) := id rfl
@[simp] theorem k_pGet (a b c : Ss → Option AV) (r0 : List Sl) (s0 : List AV) : pGet a b c (Ss.mk r0 s0) = (a (Ss.mk r0 s0)).bind fun x => (b (Ss.mk r0 s0)).bind fun k => (c (Ss.mk r0 s0)).bind fun d => getD' s0 x k d := id rfl
@[simp] theorem k_eIsC (C : Str) (Ds : List Str) (m : M AV) (r0 : List Sl) (s0 : List AV) : eIsC C Ds m (Ss.mk r0 s0) = (m (Ss.mk r0 s0)).bind fun x s1 => bif okT x then .ok (.bl false) s1 else match clsA s1.s x with
  | some D => if D = C then .ok (.bl true) s1 else if D ∈ Ds then .ok (.bl false) s1 else .bad
  | none => .bad := id rfl
@[simp] theorem k_eFrz (m : M AV) (r0 : List Sl) (s0 : List AV) : eFrz m (Ss.mk r0 s0) = (m (Ss.mk r0 s0)).bind fun d s1 => ofO (frz d) s1 := id rfl
@[simp] theorem k_pAlt (a b : Ss → Option AV) (r0 : List Sl) (s0 : List AV) : pAlt a b (Ss.mk r0 s0) = match a (Ss.mk r0 s0) with
  | some d => some d
  | none => b (Ss.mk r0 s0) := id rfl
@[simp] theorem k_sTry (U : List Str) (mb : M Fl) (hs : List (List Str × M Fl)) (r0 : List Sl) (s0 : List AV) : sTry U mb hs (Ss.mk r0 s0) = match mb (Ss.mk r0 s0) with
  | .err c s1 => if c ∈ U then (match pickH c hs with
    | some h => capX (h s1)
    | none => .err c s1) else .bad
  | r => r := id rfl
@[simp] theorem k_eLend (fo : Option (Str × Str)) (mo mk : Ss → Option AV) (r0 : List Sl) (s0 : List AV) : eLend fo mo mk (Ss.mk r0 s0) = match (mo (Ss.mk r0 s0)).bind locOf with
  | some l => (match mk (Ss.mk r0 s0) with
    | some (.int k) => (match getPl s0 l fo with
      | some (.nst rows) => (match ixN rows.length k with
        | some j => (match rows[j]? with
          | some d => bif ownA d then .ok (.loc s0.length) ⟨r0, setPl s0 l fo (.nst (rows.set j (.loc s0.length))) ++ [d]⟩ else .bad
          | none => .bad)
        | none => .bad)
      | _ => .bad)
    | _ => .bad)
  | none => .bad := id rfl
@[simp] theorem k_sUnl (fo : Option (Str × Str)) (io ik ir : Nat) (mb : M Fl) (r0 : List Sl) (s0 : List AV) : sUnl fo io ik ir mb (Ss.mk r0 s0) = match mb (Ss.mk r0 s0) with
  | .ok f s => .ok f (unlS fo io ik ir s)
  | .err c s => .err c (unlS fo io ik ir s)
  | .bad => .bad := id rfl
@[simp] theorem k_eSetd (i : Nat) (mk mv : M AV) (r0 : List Sl) (s0 : List AV) : eSetd i mk mv (Ss.mk r0 s0) = match ownD (getSl r0 i) with
  | none => .bad
  | some _ => (mk (Ss.mk r0 s0)).bind fun y s1 => (mv s1).bind fun d s2 => match ownD (getSl s2.r i), keyA y with
    | some (ks, xs), some k => if ks.length < 16777216 then (match getK ks xs k with
      | some x => .ok x s2
      | none => .ok d (putD i (ks ++ [k]) (xs ++ [d]) s2)) else .bad
    | _, _ => .bad := id rfl
@[simp] theorem k_eBM (f : List AV → List AV → Option AV) (mo me : M AV) (r0 : List Sl) (s0 : List AV) : eBM f mo me (Ss.mk r0 s0) = (mo (Ss.mk r0 s0)).bind fun x s1 => bif isL x then (me s1).bind fun y s2 => ofO (f s2.s [x, y]) s2 else .bad := id rfl
@[simp] theorem k_sPut2 (i j : Nat) (ki kj : Ss → Option AV) (ma mb : M AV) (r0 : List Sl) (s0 : List AV) : sPut2 i j ki kj ma mb (Ss.mk r0 s0) = (ma (Ss.mk r0 s0)).bind fun x s1 => (mb s1).bind fun y s2 => match gIx i ki x s2 with
  | some s3 => (match gIx j kj y s3 with
    | some s4 => .ok .nx s4
    | none => .bad)
  | none => .bad := id rfl
@[simp] theorem k_eIsX (i : Nat) (b : Bool) (r0 : List Sl) (s0 : List AV) : eIsX i b (Ss.mk r0 s0) = match getSl r0 i with
  | .im (.loc 0) => .ok (.bl b) (Ss.mk r0 s0)
  | _ => .bad := id rfl
@[simp] theorem k_sTryAs (U cs : List Str) (n : Nat) (keep : List Bool) (mb : M Fl) (mh : Str → M Fl) (r0 : List Sl) (s0 : List AV) : sTryAs U cs n keep mb mh (Ss.mk r0 s0) = match mb (Ss.mk r0 s0) with
  | .err c s1 => if c ∈ U then (if c ∈ cs then (match mh c ⟨hxS keep n s1.r, [.ded]⟩ with
    | .ok (.rt d) _ => bif plainA d then .ok (.rt d) s1 else .bad
    | _ => .bad) else .err c s1) else .bad
  | r => r := id rfl
@[simp] theorem k_eThk (g : Thk) (r0 : List Sl) (s0 : List AV) : eThk g (Ss.mk r0 s0) = back r0 (g s0) := id rfl
@[simp] theorem k_eSaid (mf : Thk → Fn) (me : M AV) (r0 : List Sl) (s0 : List AV) : eSaid mf me (Ss.mk r0 s0) = back r0 (mf (runL me r0) [.ded] s0) := id rfl
@[simp] theorem k_eCallK (np n m : Nat) (f : Fn) (ss : List Src) (ds : List AV) (ma mk : M (List AV)) (r0 : List Sl) (s0 : List AV) : eCallK np n m f ss ds ma mk (Ss.mk r0 s0) = (ma (Ss.mk r0 s0)).bind fun xs s1 => (mk s1).bind fun zs s2 => if xs.length = n ∧ zs.length = m ∧ (srcs xs zs ds ss).length = np then back s2.r (f (srcs xs zs ds ss) s2.s) else .bad := id rfl
@[simp] theorem k_eMethK (C nm : Str) (np n m : Nat) (f : Fn) (ss : List Src) (ds : List AV) (mo : M AV) (ma mk : M (List AV)) (r0 : List Sl) (s0 : List AV) : eMethK C nm np n m f ss ds mo ma mk (Ss.mk r0 s0) = (mo (Ss.mk r0 s0)).bind fun x s1 => bif clsOk s1.s C nm x then (ma s1).bind fun xs s2 => (mk s2).bind fun zs s3 => if xs.length = n ∧ zs.length = m ∧ (srcs (x :: xs) zs ds ss).length = np then back s3.r (f (srcs (x :: xs) zs ds ss) s3.s) else .bad else .bad := id rfl
@[simp] theorem k_eMakeK (C : Str) (np n m : Nat) (f : Fn) (ss : List Src) (ds : List AV) (ma mk : M (List AV)) (r0 : List Sl) (s0 : List AV) : eMakeK C np n m f ss ds ma mk (Ss.mk r0 s0) = (ma (Ss.mk r0 s0)).bind fun xs s1 => (mk s1).bind fun zs s2 => if xs.length = n ∧ zs.length = m ∧ (srcs (.loc s2.s.length :: xs) zs ds ss).length = np then mkBack s2.r s2.s.length (f (srcs (.loc s2.s.length :: xs) zs ds ss) (s2.s ++ [.ins C [] []])) else .bad := id rfl
@[simp] theorem k_eSc (mi : M (List AV)) (t : Tg) (tt : M Bool) (te : M AV) (vs : List Nat) (r0 : List Sl) (s0 : List AV) : eSc mi t tt te vs (Ss.mk r0 s0) = (mi (Ss.mk r0 s0)).bind fun ds s1 => (compS t tt te vs ds [] (s1.wipe vs)).bind fun ks s2 => .ok (.set ks) s2 := id rfl
@[simp] theorem k_eLenS (m : M AV) (r0 : List Sl) (s0 : List AV) : eLenS m (Ss.mk r0 s0) = (m (Ss.mk r0 s0)).bind fun d s1 => match d with
  | .set ks => if ks.length < 1000 then .ok (.int ks.length) s1 else .bad
  | _ => .bad := id rfl
@[simp] theorem k_eCpN (C f : Str) (mo : Ss → Option AV) (r0 : List Sl) (s0 : List AV) : eCpN C f mo (Ss.mk r0 s0) = match pFld C f mo (Ss.mk r0 s0) with
  | some (.nst xs) => bif xs.all rowOk && decide (xs.length < 16777216) then .ok (.nst xs) (Ss.mk r0 s0) else .bad
  | _ => .bad := id rfl
@[simp] theorem k_sAt2 (C f g : Str) (mo mq : Ss → Option AV) (ma mb : M AV) (r0 : List Sl) (s0 : List AV) : sAt2 C f g mo mq ma mb (Ss.mk r0 s0) = (ma (Ss.mk r0 s0)).bind fun x s1 => (mb s1).bind fun y s2 => match (mo s2).bind fun z => putFld C f z x s2 with
  | some s3 => (match (mq s3).bind fun z => putFld C g z y s3 with
    | some s4 => .ok .nx s4
    | none => .bad)
  | none => .bad := id rfl
@[simp] theorem k_sAt3 (C f g k : Str) (mo mq mr : Ss → Option AV) (ma mb mc : M AV) (r0 : List Sl) (s0 : List AV) : sAt3 C f g k mo mq mr ma mb mc (Ss.mk r0 s0) = (ma (Ss.mk r0 s0)).bind fun x s1 => (mb s1).bind fun y s2 => (mc s2).bind fun w s3 => match (mo s3).bind fun z => putFld C f z x s3 with
  | some s4 => (match (mq s4).bind fun z => putFld C g z y s4 with
    | some s5 => (match (mr s5).bind fun z => putFld C k z w s5 with
      | some s6 => .ok .nx s6
      | none => .bad)
    | none => .bad)
  | none => .bad := id rfl
@[simp] theorem k_eIxD (mo me : M AV) (r0 : List Sl) (s0 : List AV) : eIxD mo me (Ss.mk r0 s0) = (mo (Ss.mk r0 s0)).bind fun x s1 => match x with
  | .tud xs => (me s1).bind fun y s2 => if okA (.tup xs) && okA y then ofO (((dats xs).findIdx? fun w => PyData.eqv w (dat y)).map fun j => AV.int (j : Nat)) s2 else .bad
  | _ => .bad := id rfl
@[simp] theorem k_eOrS (a b : M AV) (r0 : List Sl) (s0 : List AV) : eOrS a b (Ss.mk r0 s0) = (a (Ss.mk r0 s0)).bind fun x s1 => (ofO (strB x) s1).bind fun c s2 => bif c then .ok x s2 else b s2 := id rfl
end Fk
/-! ## what a run is wanted to give -/
namespace Fk
open PySem PySem.Spec PyProof.Rows L2
/-- a structure, so that nothing unfolds it: else the elaborator runs the whole run -/
structure WpR {α β : Type} (x : Res α β) (Q : α → β → Prop) (E : Str → β → Prop) : Prop where
  out : match x with
    | .ok a s => Q a s
    | .err c s => E c s
    | .bad => False
abbrev noE {β : Type} : Str → β → Prop := fun _ _ => False
section
variable {α β γ : Type}
@[simp] theorem WpR_ok (a : α) (s : β) (Q : α → β → Prop) (E : Str → β → Prop) : WpR (.ok a s) Q E = Q a s := propext ⟨fun h => h.out, fun h => ⟨h⟩⟩
@[simp] theorem WpR_err (c : Str) (s : β) (Q : α → β → Prop) (E : Str → β → Prop) : WpR (.err c s : Res α β) Q E = E c s := propext ⟨fun h => h.out, fun h => ⟨h⟩⟩
@[simp] theorem WpR_bad (Q : α → β → Prop) (E : Str → β → Prop) : WpR (.bad : Res α β) Q E = False := propext ⟨fun h => h.out, fun h => h.elim⟩
@[simp] theorem bind_assoc {δ : Type} (x : Res α γ) (k : α → γ → Res β γ) (j : β → γ → Res δ γ) : (x.bind k).bind j = x.bind fun a s => (k a s).bind j := by cases x <;> rfl
theorem wpB {x : Res α γ} {k : α → γ → Res β γ} {Q : β → γ → Prop} {E : Str → γ → Prop} (h : WpR x (fun a s => WpR (k a s) Q E) E) : WpR (x.bind k) Q E := by
  cases x with
  | ok a s => exact h.out
  | err c s => exact ⟨h.out⟩
  | bad => exact h.out.elim
theorem wp_mono {x : Res α β} {Q Q' : α → β → Prop} {E E' : Str → β → Prop} (h : WpR x Q E) (hq : ∀ a s, Q a s → Q' a s) (he : ∀ c s, E c s → E' c s) : WpR x Q' E' := by
  cases x with
  | ok a s => exact ⟨hq a s h.out⟩
  | err c s => exact ⟨he c s h.out⟩
  | bad => exact h.out.elim
theorem wp_of {x : Res α β} {a : α} {s : β} {Q : α → β → Prop} {E : Str → β → Prop} (h : x = .ok a s) (q : Q a s) : WpR x Q E := by rw [h]; exact ⟨q⟩
theorem wp_ex {x : Res α β} {Q : α → β → Prop} (h : WpR x Q noE) : ∃ a s, x = .ok a s ∧ Q a s := by
  cases x with
  | ok a s => exact ⟨a, s, rfl, h.out⟩
  | err c s => exact h.out.elim
  | bad => exact h.out.elim
end
/-! rows of small words, by what is handed in -/
@[simp] theorem imm_non : imm .non = true := rfl
@[simp] theorem imm_bl (b : Bool) : imm (.bl b) = true := rfl
@[simp] theorem imm_int (i : Int) : imm (.int i) = true := rfl
@[simp] theorem imm_str (x : Str) : imm (.str x) = true := rfl
@[simp] theorem imm_tup (xs : List AV) : imm (.tup xs) = true := rfl
@[simp] theorem imm_lst (o : Bool) (xs : List AV) : imm (.lst o xs) = !o := rfl
@[simp] theorem imm_dct (o : Bool) (ks : List Key) (xs : List AV) : imm (.dct o ks xs) = !o := rfl
@[simp] theorem imm_loc (l : Nat) : imm (.loc l) = true := rfl
@[simp] theorem imm_scr (xs : List AV) : imm (.scr xs) = true := rfl
@[simp] theorem itm_lst (o : Bool) (xs : List AV) : itemsOf (.lst o xs) = some xs := rfl
@[simp] theorem itm_tup (xs : List AV) : itemsOf (.tup xs) = some xs := rfl
@[simp] theorem itm_scr (xs : List AV) : itemsOf (.scr xs) = some xs := rfl
@[simp] theorem isNo_im (d : AV) : isNo (.im d) = false := rfl
@[simp] theorem isNo_ow (d : AV) : isNo (.ow d) = false := rfl
@[simp] theorem frz_lst (o : Bool) (xs : List AV) : Fk.frz (.lst o xs) = some (.lst false xs) := rfl
@[simp] theorem frz_dct (o : Bool) (ks : List Key) (xs : List AV) : Fk.frz (.dct o ks xs) = some (.dct false ks xs) := rfl
@[simp] theorem loc_loc (l : Nat) : locOf (.loc l) = some l := rfl
@[simp] theorem wipe_nil (r : List Sl) : wipeSl r [] = r := rfl
@[simp] theorem wipe_cons (r : List Sl) (v : Nat) (vs : List Nat) : wipeSl r (v :: vs) = setSl (wipeSl r vs) v .no := rfl
@[simp] theorem ss_wipe (r : List Sl) (s : List AV) (vs : List Nat) : (Ss.mk r s).wipe vs = ⟨wipeSl r vs, s⟩ := rfl
/-- a call within a run -/
theorem wpC {r : List Sl} {x : Res AV (List AV)} {β : Type} {k : AV → Ss → Res β Ss} {Q : β → Ss → Prop} {E : Str → Ss → Prop} (h : WpR x (fun a S => WpR (k a ⟨r, S⟩) Q E) (fun c S => E c ⟨r, S⟩)) : WpR ((back r x).bind k) Q E := by
  cases x with
  | ok a s => exact h.out
  | err c s => exact ⟨h.out⟩
  | bad => exact h.out.elim
theorem wpC' {r : List Sl} {x : Res AV (List AV)} {Q : AV → Ss → Prop} {E : Str → Ss → Prop} (h : WpR x (fun a S => Q a ⟨r, S⟩) (fun c S => E c ⟨r, S⟩)) : WpR (back r x) Q E := by
  cases x with
  | ok a s => exact ⟨h.out⟩
  | err c s => exact ⟨h.out⟩
  | bad => exact h.out.elim
@[simp] theorem mkBack_ok (r : List Sl) (l : Nat) (S : List AV) : mkBack r l (.ok .non S) = .ok (.loc l) ⟨r, S⟩ := rfl
@[simp] theorem mkBack_err (r : List Sl) (l : Nat) (c : Str) (S : List AV) : mkBack r l (.err c S) = .err c ⟨r, S⟩ := rfl
/-- the end of a def -/
def retR : Res Fl Ss → Res AV (List AV)
  | .ok (.rt d) st => .ok d st.s
  | .ok .nx st => .ok .non st.s
  | .err c st => .err c st.s
  | _ => .bad
@[simp] theorem retR_rt (d : AV) (st : Ss) : retR (.ok (.rt d) st) = .ok d st.s := rfl
@[simp] theorem retR_nx (st : Ss) : retR (.ok .nx st) = .ok .non st.s := rfl
@[simp] theorem retR_err (c : Str) (st : Ss) : retR (.err c st) = .err c st.s := rfl
theorem fnM_ret (n : Nat) (body : M Fl) (xs S : List AV) : fnM n body xs S = retR (body ⟨xs.map Sl.im ++ List.replicate n .no, S⟩) := rfl
theorem wpF {n : Nat} {body : M Fl} {xs S : List AV} {Q : AV → List AV → Prop} {E : Str → List AV → Prop} (h : WpR (body ⟨xs.map Sl.im ++ List.replicate n .no, S⟩) (fun f st => match f with
    | .rt d => Q d st.s
    | .nx => Q .non st.s
    | _ => False) (fun c st => E c st.s)) : WpR (fnM n body xs S) Q E := by
  rw [fnM_ret]
  cases e : body ⟨xs.map Sl.im ++ List.replicate n .no, S⟩ with
  | ok f st =>
    rw [e] at h
    cases f with
    | rt d => exact ⟨h.out⟩
    | nx => exact ⟨h.out⟩
    | bk => exact h.out.elim
    | ct => exact h.out.elim
  | err c st => rw [e] at h; exact ⟨h.out⟩
  | bad => rw [e] at h; exact h.out.elim
/-- what comes behind a statement -/
def afS (b : M Fl) (Q : Fl → Ss → Prop) (E : Str → Ss → Prop) : Fl → Ss → Prop
  | .nx, s => WpR (b s) Q E
  | .rt d, s => Q (.rt d) s
  | .bk, s => Q .bk s
  | .ct, s => Q .ct s
@[simp] theorem afS_nx (b : M Fl) (Q : Fl → Ss → Prop) (E : Str → Ss → Prop) (s : Ss) : afS b Q E .nx s = WpR (b s) Q E := rfl
@[simp] theorem afS_rt (b : M Fl) (Q : Fl → Ss → Prop) (E : Str → Ss → Prop) (d : AV) (s : Ss) : afS b Q E (.rt d) s = Q (.rt d) s := rfl
@[simp] theorem afS_bk (b : M Fl) (Q : Fl → Ss → Prop) (E : Str → Ss → Prop) (s : Ss) : afS b Q E .bk s = Q .bk s := rfl
@[simp] theorem afS_ct (b : M Fl) (Q : Fl → Ss → Prop) (E : Str → Ss → Prop) (s : Ss) : afS b Q E .ct s = Q .ct s := rfl
theorem wpS {a b : M Fl} {st : Ss} {Q : Fl → Ss → Prop} {E : Str → Ss → Prop} (h : WpR (a st) (afS b Q E) E) : WpR (sSeq a b st) Q E := by
  show WpR ((a st).bind _) Q E
  refine wpB (wp_mono h (fun f s q => ?_) fun _ _ q => q)
  cases f with
  | nx => exact q
  | rt d => exact ⟨q⟩
  | bk => exact ⟨q⟩
  | ct => exact ⟨q⟩
/-- one of two ways -/
def altR {α β : Type} (x y : Res α β) : Res α β := match x with
  | .bad => y
  | r => r
@[simp] theorem altR_ok {α β : Type} (a : α) (s : β) (y : Res α β) : altR (.ok a s) y = .ok a s := rfl
@[simp] theorem altR_err {α β : Type} (c : Str) (s : β) (y : Res α β) : altR (.err c s) y = .err c s := rfl
@[simp] theorem altR_bad {α β : Type} (y : Res α β) : altR .bad y = y := rfl
/-- a comprehension whose items turn nothing -/
theorem wpL {t : Tg} {tt : M Bool} {te : M AV} {vs : List Nat} {st : Ss} {Q : List AV → Ss → Prop} {E : Str → Ss → Prop} {ds : List AV} (p : AV → Bool) (g : AV → AV)
    (h : ∀ d ∈ ds, ∃ s0, t d st = some s0 ∧ WpR (tt s0) (fun b s1 => b = p d ∧ (b = false → s1.wipe vs = st) ∧ (b = true → WpR (te s1) (fun x s2 => x = g d ∧ s2.wipe vs = st) noE)) noE)
    (hl : ds.length ≤ 16777216) (hQ : Q ((ds.filter p).map g) st) : WpR (compM t tt te vs ds [] st) Q E := by
  have key : ∀ (ds acc : List AV), (∀ d ∈ ds, ∃ s0, t d st = some s0 ∧ WpR (tt s0) (fun b s1 => b = p d ∧ (b = false → s1.wipe vs = st) ∧ (b = true → WpR (te s1) (fun x s2 => x = g d ∧ s2.wipe vs = st) noE)) noE) →
      acc.length + ds.length ≤ 16777216 → compM t tt te vs ds acc st = .ok (acc ++ (ds.filter p).map g) st := by
    intro ds
    induction ds with
    | nil => intro acc _ _; simp [compM]
    | cons d ds ih =>
      intro acc h hl
      have hl2 : acc.length + (ds.length + 1) ≤ 16777216 := hl
      obtain ⟨s0, e1, w⟩ := h d (by simp)
      obtain ⟨b, s1, e2, rfl, h3, h4⟩ := wp_ex w
      unfold compM
      rw [e1]
      simp only [e2]
      cases c : p d with
      | false =>
        simp only
        rw [h3 c, ih acc (fun d hd => h d (by simp [hd])) (by omega), List.filter_cons, c]
        rfl
      | true =>
        obtain ⟨x, s2, e5, rfl, e6⟩ := wp_ex (h4 c)
        simp only [e5]
        rw [if_pos (by omega), e6, ih (acc ++ [g d]) (fun d hd => h d (by simp [hd])) (by simp; omega), List.filter_cons, c]
        simp
  rw [key ds [] h (by simpa using hl)]
  exact ⟨hQ⟩
/-- .. by what stays -/
theorem wpLI {t : Tg} {tt : M Bool} {te : M AV} {vs : List Nat} {st : Ss} {Q : List AV → Ss → Prop} {E : Str → Ss → Prop} {ds : List AV} (I : Nat → List AV → Ss → Prop) (h0 : I 0 [] st)
    (hb : ∀ (j : Nat) d acc st, ds[j]? = some d → acc.length ≤ j → I j acc st → ∃ s0, t d st = some s0 ∧ WpR (tt s0) (fun b s1 => (b = false → I (j + 1) acc (s1.wipe vs)) ∧ (b = true → WpR (te s1) (fun x s2 => I (j + 1) (acc ++ [x]) (s2.wipe vs)) noE)) noE)
    (hl : ds.length ≤ 16777216) (hQ : ∀ acc st, acc.length ≤ ds.length → I ds.length acc st → Q acc st) : WpR (compM t tt te vs ds [] st) Q E := by
  have key : ∀ (n : Nat) (acc : List AV) (st : Ss) (k : Nat), k + n = ds.length → acc.length ≤ k → I k acc st → WpR (compM t tt te vs (ds.drop k) acc st) Q E := by
    intro n
    induction n with
    | zero =>
      intro acc st k hk ha hI
      have e : k = ds.length := by omega
      subst e
      rw [List.drop_length]
      exact ⟨hQ _ _ ha hI⟩
    | succ n ih =>
      intro acc st k hk ha hI
      have hk2 : k < ds.length := by omega
      rw [List.drop_eq_getElem_cons hk2]
      obtain ⟨s0, e1, w⟩ := hb k _ acc st (List.getElem?_eq_getElem hk2) ha hI
      obtain ⟨b, s1, e2, h3, h4⟩ := wp_ex w
      unfold compM
      rw [e1]
      simp only [e2]
      cases b with
      | false => exact ih acc _ (k + 1) (by omega) (by omega) (h3 rfl)
      | true =>
        obtain ⟨x, s2, e5, h5⟩ := wp_ex (h4 rfl)
        simp only [e5]
        rw [if_pos (by omega)]
        exact ih (acc ++ [x]) _ (k + 1) (by omega) (by simp; omega) h5
  exact key ds.length [] st 0 (by omega) (by simp) h0
/-- a loop by what stays -/
theorem wpO {t : Tg} {body : M Fl} {st : Ss} {Q : Fl → Ss → Prop} {E : Str → Ss → Prop} {ds : List AV} (I : Nat → Ss → Prop) (h0 : I 0 st)
    (hb : ∀ (j : Nat) d st, ds[j]? = some d → I j st → ∃ s0, t d st = some s0 ∧ WpR (body s0) (fun f s => match f with
      | .nx => I (j + 1) s
      | .ct => I (j + 1) s
      | .bk => Q .nx s
      | .rt d => Q (.rt d) s) E)
    (hQ : ∀ st, I ds.length st → Q .nx st) : WpR (forM t body ds st) Q E := by
  have key : ∀ (n : Nat) (st : Ss) (k : Nat), k + n = ds.length → I k st → WpR (forM t body (ds.drop k) st) Q E := by
    intro n
    induction n with
    | zero =>
      intro st k hk hI
      have e : k = ds.length := by omega
      subst e
      rw [List.drop_length]
      exact ⟨hQ _ hI⟩
    | succ n ih =>
      intro st k hk hI
      have hk2 : k < ds.length := by omega
      rw [List.drop_eq_getElem_cons hk2]
      obtain ⟨s0, e1, w⟩ := hb k _ st (List.getElem?_eq_getElem hk2) hI
      unfold forM
      rw [e1]
      simp only
      cases e : body s0 with
      | bad => rw [e] at w; exact w.out.elim
      | err c s => rw [e] at w; exact ⟨w.out⟩
      | ok f s =>
        rw [e] at w
        cases f with
        | nx => exact ih s (k + 1) (by omega) w.out
        | ct => exact ih s (k + 1) (by omega) w.out
        | bk => exact ⟨w.out⟩
        | rt d => exact ⟨w.out⟩
  exact key ds.length st 0 (by omega) h0
end Fk
/-! ## values whose text is short -/
namespace Fk
open PySem PySem.Spec PyProof.Rows L2
structure Sh (k n : Nat) (x : AV) : Prop where
  pl : pl x = true
  sw : Sw k n (dat x)
structure Shs (k n : Nat) (xs : List AV) : Prop where
  pl : pls xs = true
  sw : SwAll k n (dats xs)
theorem sh_non {k : Nat} : Sh k 4 .non := ⟨by simp [Fk.pl], by simp only [dat]; exact sw_none⟩
theorem sh_bl {k : Nat} (b : Bool) : Sh k 5 (.bl b) := ⟨by simp [Fk.pl], by simp only [dat]; exact sw_bool b⟩
theorem sh_int {k : Nat} {i : Int} (h : i.natAbs < 2 ^ 128) : Sh k 129 (.int i) := ⟨by simp [Fk.pl], by simp only [dat]; exact sw_int h⟩
theorem sh_str {k : Nat} {x : Str} (ok : PyData.strOk x = true) : Sh k (10 * x.length + 2) (.str x) := ⟨by simp [Fk.pl], by simp only [dat]; exact sw_str ok⟩
theorem shs_nil {k : Nat} : Shs k 0 [] := ⟨by simp [pls], by simp only [dats]; exact swa_nil⟩
theorem shs_cons {k n m : Nat} {x : AV} {xs : List AV} (h : Sh k n x) (r : Shs k m xs) : Shs k (n + 2 + m) (x :: xs) := ⟨by simp [pls, h.pl, r.pl], by simp only [dats]; exact swa_cons h.sw r.sw⟩
theorem sh_tup {k n : Nat} {xs : List AV} (h : Shs k n xs) : Sh (k + 1) (n + 3) (.tup xs) := ⟨by simp [Fk.pl, h.pl], by simp only [dat]; exact sw_tup h.sw⟩
theorem sh_lst {k n : Nat} {o : Bool} {xs : List AV} (h : Shs k n xs) : Sh (k + 1) (n + 3) (.lst o xs) := ⟨by simp [Fk.pl, h.pl], by simp only [dat]; exact sw_lst h.sw⟩
theorem Sw.mono {k k' n n' : Nat} {d : PyData} (h : Sw k n d) (hk : k ≤ k') (hn : n ≤ n') : Sw k' n' d := ⟨h.lay, Nat.le_trans h.dep hk, h.shw, Nat.le_trans h.len hn⟩
theorem Sh.mono {k k' n n' : Nat} {x : AV} (h : Sh k n x) (hk : k ≤ k') (hn : n ≤ n') : Sh k' n' x := ⟨h.pl, h.sw.mono hk hn⟩
theorem fRepr_ok {k n : Nat} {x : AV} {S : List AV} (h : Sh k n x) (hk : k ≤ 60) (hn : n ≤ 16000000) : fRepr S [x] = some (.str (dat x).shown) := by
  unfold fRepr
  have h1 : (dat x).depth ≤ 60 := Nat.le_trans h.sw.dep hk
  have h2 : (dat x).hasDict = false := PyData.hasDict_of_canLay _ h.sw.lay
  have h3 : (dat x).shown.length ≤ 16777216 := Nat.le_trans h.sw.len (Nat.le_trans hn (by decide))
  have h0 : isMt x = false := by
    have := h.pl
    cases x <;> first | rfl | (simp [Fk.pl] at this)
  simp [h0, h.pl, h.sw.shw, h1, h2, h3]
theorem Sh.okA {k n : Nat} {x : AV} (h : Sh k n x) (hk : k ≤ 60) : okA x = true := by
  unfold Fk.okA
  rw [h.pl, h.sw.shaped hk]
  rfl
end Fk
namespace Fk
/-- a map that goes with sums without carrying -/
def Lin (f : Nat → Nat) : Prop := ∀ a b, f (a ^^^ b) = f a ^^^ f b
theorem Lin.zero {f : Nat → Nat} (h : Lin f) : f 0 = 0 := by
  have := h 0 0
  rw [Nat.xor_self, Nat.xor_self] at this
  exact this
theorem Lin.id : Lin fun a => a := fun _ _ => rfl
theorem Lin.comp {f g : Nat → Nat} (hf : Lin f) (hg : Lin g) : Lin fun a => f (g a) := fun a b => by
  show f (g (a ^^^ b)) = _
  rw [hg, hf]
theorem Lin.and (m : Nat) {f : Nat → Nat} (hf : Lin f) : Lin fun a => f a &&& m := fun a b => by
  show f (a ^^^ b) &&& m = _
  rw [hf, Nat.and_xor_distrib_right]
theorem Lin.mod (k : Nat) {f : Nat → Nat} (hf : Lin f) : Lin fun a => f a % 2 ^ k := fun a b => by
  show f (a ^^^ b) % 2 ^ k = _
  rw [hf, Nat.xor_mod_two_pow]
/-- runs_of: (first, many) -/
def runsGo : Nat → Nat → Nat → List (Nat × Nat)
  | 0, _, _ => []
  | n + 1, left, check => if 0 < left then (check + 1, min (check - 1) left) :: runsGo n (left - min (check - 1) left) (2 * check) else []
def runs (w : Nat) : List (Nat × Nat) := runsGo 8 w 2
def putX : Nat → Nat → Nat → Nat
  | 0, _, _ => 0
  | n + 1, c, x => ((x >>> c) % 2 ^ 1) <<< (2 ^ c) ^^^ putX n (c + 1) x
def numX : List (Nat × Nat) → Nat → Nat → Nat
  | [], _, _ => 0
  | (f, m) :: r, p, w => ((w >>> f) % 2 ^ m) <<< p ^^^ numX r (p + m) w
def numL (w word : Nat) : Nat := numX (runs w) 0 word
section
variable {w n : Nat} (h1 : 1 ≤ w) (h2 : w ≤ 57) (hn : n < 2 ^ w)
include h1 h2 hn
end
/-- opened_by -/
inductive Op | good (n : Nat) | mended (n b : Nat) | spoilt
  deriving DecidableEq
section
variable {w n : Nat} (h1 : 1 ≤ w) (h2 : w ≤ 57) (hn : n < 2 ^ w)
include h1 h2 hn
end
end Fk
namespace Fk
/-! ## the law's own words of seals -/
/-- the numbers of the bits that are 1, put together -/
def wr (n k : Nat) : Nat := if h : n = 0 then 0 else (if n % 2 = 1 then k else 0) ^^^ wr (n / 2) (k + 1)
termination_by n
decreasing_by omega
section
variable {w n : Nat} (h1 : 1 ≤ w) (h2 : w ≤ 57) (hn : n < 2 ^ w)
include h1 h2 hn
end
end Fk
/-! ## a number read bit by bit; all words of small widths -/
namespace Fk
end Fk
/-! ## fields of pages, as numbers -/
namespace Fk
structure F5 where
  k : Nat
  p : Nat
  n : Nat
  g : Nat
  d : Nat
  deriving DecidableEq
def okF (f : F5) : Prop := f.k < 4 ∧ f.p ≤ 15 ∧ f.n ≤ 16383 ∧ f.g ≤ 16383 ∧ f.d ≤ 63 ∧ (f.k = 3 → f.p = 0 ∧ f.d = 0) ∧ (f.k ≠ 3 → (f.g = 0 ∨ f.k = 2) ∧ (f.d = 0 ∨ f.k ≠ 1))
instance (f : F5) : Decidable (okF f) := by unfold okF; exact inferInstance
end Fk
/-! ## plain facts of the evaluator's functions -/
namespace Fk
open PySem PySem.Spec PyProof.Rows L2
@[simp] theorem setSl0 (a b : Sl) (r : List Sl) : setSl (a :: r) 0 b = b :: r := rfl
@[simp] theorem setSlS (a b : Sl) (r : List Sl) (n : Nat) : setSl (a :: r) (n + 1) b = a :: setSl r n b := rfl
theorem ixN_nn {n : Nat} {k : Int} (h : 0 ≤ k) : ixN n k = if k < n then some k.toNat else none := by
  unfold ixN
  rw [if_pos h]
theorem atI_nn {α : Type} {xs : List α} {k : Int} (h : 0 ≤ k) : atI xs k = xs[k.toNat]? := by
  unfold atI
  rw [ixN_nn h]
  by_cases c : k < xs.length
  · rw [if_pos c]; rfl
  · rw [if_neg c, List.getElem?_eq_none (by omega)]; rfl
theorem atI_nat {α : Type} {xs : List α} {k : Nat} : atI xs (k : Int) = xs[k]? := by rw [atI_nn (by omega)]; simp
theorem setS_self (S : List AV) (l : Nat) (d : AV) : (S.set l d)[l]? = (S[l]?).map fun _ => d := by
  by_cases h : l < S.length
  · rw [List.getElem?_set_self h, List.getElem?_eq_getElem h]; rfl
  · rw [List.getElem?_eq_none (by rw [List.length_set]; omega), List.getElem?_eq_none (by omega)]; rfl
def iA (n : Nat) : AV := .int n
def nA : AV → Nat
  | .int n => n.toNat
  | _ => 0
@[simp] theorem nA_iA (n : Nat) : nA (iA n) = n := by simp [nA, iA]
theorem rng_nat {n : Nat} (h : n ≤ 1000) : rng1 [.int n] = some ((List.range n).map iA) := by
  have h1 : (-(2 ^ 62) ≤ (n : Int) ∧ (n : Int) < 2 ^ 62) := by omega
  have h2 : rng1 [.int n] = if -(2 ^ 62) ≤ (n : Int) ∧ (n : Int) < 2 ^ 62 then some (rngL 0 n) else none := rfl
  rw [h2, if_pos h1]
  unfold rngL
  simp [iA]
theorem filter_tt (xs : List AV) : xs.filter (fun _ => true) = xs := by simp
theorem f_min2 (S : List AV) (i j : Int) : fMin2 S [.int i, .int j] = some (.int (min i j)) := by
  have h : fMin2 S [.int i, .int j] = some (.int (if j < i then j else i)) := rfl
  rw [h]
  congr 2
  split <;> omega
theorem f_max2 (S : List AV) (i j : Int) : fMax2 S [.int i, .int j] = some (.int (max i j)) := by
  have h : fMax2 S [.int i, .int j] = some (.int (if j > i then j else i)) := rfl
  rw [h]
  congr 2
  split <;> omega
theorem asBs_bls : ∀ bs : List Bool, asBs (bs.map AV.bl) = some bs
  | [] => rfl
  | b :: bs => by simp [asBs, asBs_bls bs]
theorem f_all (S : List AV) (o : Bool) (bs : List Bool) : fAll S [.lst o (bs.map AV.bl)] = some (.bl (bs.all id)) := by
  unfold fAll lsOf
  simp only [Option.bind_some, asBs_bls, Option.map_some]
theorem zipL_ints : ∀ (xs ys : List Int), zipL (xs.map AV.int) (ys.map AV.int) = (xs.zip ys).map fun p => AV.tup [.int p.1, .int p.2]
  | [], _ => by simp [zipL]
  | _ :: _, [] => by simp [zipL]
  | x :: xs, y :: ys => by simp [zipL, zipL_ints xs ys]
theorem keysI_map : ∀ ks : List Int, keysI (ks.map Sum.inl) = some ks
  | [] => rfl
  | k :: ks => by simp [keysI, keysI_map ks]
theorem a_add (a b : Nat) : oAdd (.int a) (.int b) = some (.int ((a + b : Nat) : Int)) := by
  show some (AV.int ((a : Int) + b)) = _
  simp
end Fk
namespace Fk
open PySem PySem.Spec PyProof.Rows L2
end Fk
-- base: k60
/-! ## texts: numbers as they are written, words between blanks (plain) -/
namespace Fk
open PySem PySem.Spec PyProof.Rows L2
def nTx (n : Nat) : Str := Str.ofString (toString ((n : Nat) : Int))
theorem tl_nTx (n : Nat) : TL.tl (nTx n) = TL.numL n := TL.tl_num n
theorem nTx_len (n : Nat) : (nTx n).length = (TL.numL n).length := by rw [TL.len_tl, tl_nTx]
theorem nTx_inj {m n : Nat} (h : nTx m = nTx n) : m = n := TL.numL_inj (by rw [← tl_nTx, ← tl_nTx, h])
theorem nTx_9 {n : Nat} (h : n < 1000000000) : (nTx n).length ≤ 9 := by
  rw [nTx_len]
  exact TL.numL_len (by omega) (by omega)
theorem nTx_pos (n : Nat) : 1 ≤ (nTx n).length := by
  rw [nTx_len]
  exact List.length_pos_iff.mpr (TL.numL_ne n)
theorem canon : ∀ (k : Nat) (l : List Nat), l.length ≤ k → l ≠ [] → NumText.AllDigits l → (l.head? ≠ some 48 ∨ l = [48]) → ∃ n, l = TL.numL n
  | 0, l, hk, hn, _, _ => absurd (List.eq_nil_of_length_eq_zero (by omega)) hn
  | k + 1, l, hk, hn, hd, hh => by
    obtain ⟨r, c, rfl⟩ : ∃ r c, l = r ++ [c] := ⟨l.dropLast, l.getLast hn, (List.dropLast_concat_getLast hn).symm⟩
    have hc := hd c (by simp)
    by_cases hr : r = []
    · subst hr
      refine ⟨c - 48, ?_⟩
      rw [TL.numL_lt (by omega), List.nil_append]
      congr 1
      omega
    · have h1 : (r ++ [c]).head? = r.head? := by
        cases r with
        | nil => exact absurd rfl hr
        | cons a r => rfl
      have h2 : r.head? ≠ some 48 := by
        rcases hh with h | h
        · rw [h1] at h; exact h
        · cases r with
          | nil => exact absurd rfl hr
          | cons a r =>
            have : (a :: r ++ [c]).length = 1 := by rw [h]; rfl
            simp at this
      obtain ⟨m, rfl⟩ := canon k r (by simp at hk; omega) hr (fun d hd' => hd d (by simp [hd'])) (.inl h2)
      have hm : 1 ≤ m := by
        rcases Nat.eq_zero_or_pos m with z | z
        · subst z
          exact absurd rfl h2
        · exact z
      refine ⟨10 * m + (c - 48), ?_⟩
      rw [TL.numL_step (n := 10 * m + (c - 48)) (by omega)]
      have e1 : (10 * m + (c - 48)) / 10 = m := by omega
      have e2 : 48 + (10 * m + (c - 48)) % 10 = c := by omega
      rw [e1, e2]
theorem numL_head : ∀ (k n : Nat), n ≤ k → 0 < n → (TL.numL n).head? ≠ some 48
  | 0, n, h, h0 => by omega
  | k + 1, n, h, h0 => by
    by_cases c : n < 10
    · rw [TL.numL_lt c]
      intro e
      have : 48 + n = 48 := by simpa using e
      omega
    · rw [TL.numL_step (by omega)]
      have ih := numL_head k (n / 10) (by omega) (by omega)
      have ne := TL.numL_ne (n / 10)
      generalize TL.numL (n / 10) = r at ih ne ⊢
      cases r with
      | nil => exact absurd rfl ne
      | cons a r => exact ih
open Classical in
noncomputable def numA (z : Str) : Option Nat := if h : ∃ n, z = nTx n ∧ z.length ≤ 9 then some (Classical.choose h) else none
theorem numA_iff {z : Str} {n : Nat} : numA z = some n ↔ z = nTx n ∧ z.length ≤ 9 := by
  unfold numA
  by_cases h : ∃ n, z = nTx n ∧ z.length ≤ 9
  · rw [dif_pos h]
    have s := Classical.choose_spec h
    constructor
    · intro e
      cases e
      exact s
    · intro e
      congr 1
      exact nTx_inj (by rw [← s.1, ← e.1])
  · rw [dif_neg h]
    constructor
    · intro e; cases e
    · intro e; exact absurd ⟨n, e⟩ h
theorem numA_no {z : Str} (h : ∀ n, z = nTx n → ¬ z.length ≤ 9) : numA z = none := by
  cases e : numA z with
  | none => rfl
  | some n =>
    obtain ⟨h1, h2⟩ := numA_iff.mp e
    exact absurd h2 (h n h1)
/-- the tests of a number's word -/
theorem numA_yes {z : Str} (h1 : 1 ≤ z.length) (h2 : z.length ≤ 9) (hd : NumText.AllDigits (TL.tl z)) (hh : (TL.tl z).head? ≠ some 48 ∨ TL.tl z = [48]) : ∃ n, numA z = some n ∧ z = nTx n := by
  obtain ⟨n, e⟩ := canon _ (TL.tl z) (Nat.le_refl _) (fun e => by rw [TL.len_tl, e] at h1; simp at h1) hd hh
  have ez : z = nTx n := TL.ext_tl (by rw [e, tl_nTx])
  exact ⟨n, numA_iff.mpr ⟨ez, h2⟩, ez⟩
theorem numA_len {z : Str} (h : ¬ (1 ≤ z.length ∧ z.length ≤ 9)) : numA z = none := numA_no fun n e h9 => h ⟨by rw [e]; exact nTx_pos n, h9⟩
theorem numA_dig {z : Str} (h : ¬ NumText.AllDigits (TL.tl z)) : numA z = none := numA_no fun n e _ => h (by rw [e, tl_nTx]; exact TL.numL_digits n)
theorem numA_nul {z : Str} (h : (TL.tl z).head? = some 48) (h2 : TL.tl z ≠ [48]) : numA z = none := numA_no fun n e _ => by
  rw [e, tl_nTx] at h h2
  rcases Nat.eq_zero_or_pos n with z | z
  · subst z
    exact h2 rfl
  · exact numL_head n n (Nat.le_refl _) z h
/-! words between blanks -/
theorem spl_ne (s : Nat) : ∀ (acc l : List Nat), TL.spl [s] 0 acc l ≠ []
  | acc, [] => by rw [TL.spl_nil]; simp
  | acc, c :: r => by
    cases h : TL.pre [s] (c :: r) with
    | true => rw [TL.spl_hit h]; simp
    | false => rw [TL.spl_miss h]; exact spl_ne s _ r
theorem pre1 {s c : Nat} {r : List Nat} (h : TL.pre [s] (c :: r) = true) : c = s := by
  have : ([c] == [s]) = true := h
  simpa using this
theorem jn_spl (s : Nat) : ∀ (acc l : List Nat), TL.joinL [s] (TL.spl [s] 0 acc l) = acc ++ l
  | acc, [] => by rw [TL.spl_nil]; simp [TL.joinL]
  | acc, c :: r => by
    cases h : TL.pre [s] (c :: r) with
    | true =>
      rw [TL.spl_hit h]
      obtain rfl := pre1 h
      have ih := jn_spl c [] r
      have ne := spl_ne c [] r
      show TL.joinL [c] (acc :: TL.spl [c] 0 [] r) = _
      generalize TL.spl [c] 0 [] r = T at ih ne
      cases T with
      | nil => exact absurd rfl ne
      | cons p T =>
        show acc ++ ([c] ++ TL.joinL [c] (p :: T)) = _
        rw [ih]
        simp
    | false =>
      rw [TL.spl_miss h, jn_spl s (acc ++ [c]) r]
      simp
theorem spl_len (s : Nat) : ∀ (acc l : List Nat), (TL.spl [s] 0 acc l).length ≤ l.length + 1 ∧ ∀ p ∈ TL.spl [s] 0 acc l, p.length ≤ acc.length + l.length
  | acc, [] => by rw [TL.spl_nil]; simp
  | acc, c :: r => by
    cases h : TL.pre [s] (c :: r) with
    | true =>
      rw [TL.spl_hit h]
      obtain ⟨h1, h2⟩ := spl_len s [] r
      have e : [s].length - 1 = 0 := rfl
      rw [e]
      refine ⟨by simp; omega, fun p hp => ?_⟩
      rcases List.mem_cons.mp hp with rfl | hp
      · simp
      · have := h2 p hp
        simp at this ⊢
        omega
    | false =>
      rw [TL.spl_miss h]
      obtain ⟨h1, h2⟩ := spl_len s (acc ++ [c]) r
      refine ⟨by simp; omega, fun p hp => ?_⟩
      have := h2 p hp
      simp at this ⊢
      omega
theorem tl_bl : TL.tl (" " : Str) = [32] := by kernel_rfl
theorem tl_co : TL.tl (":" : Str) = [58] := by kernel_rfl
def spS (z : Str) : List Str := Txt.split z " "
def jnS (ws : List Str) : Str := Txt.join " " ws
theorem sp_tl (z : Str) : (spS z).map TL.tl = TL.spl [32] 0 [] (TL.tl z) := by
  have e := TL.split_spl z " " (by rw [tl_bl]; simp) (TL.kind_ok (by kernel_rfl))
  rw [tl_bl] at e
  exact e
theorem jn_tl (ws : List Str) : TL.tl (jnS ws) = TL.joinL [32] (ws.map TL.tl) := by
  unfold jnS
  rw [TL.join_eq, TL.tl_join, tl_bl]
theorem jn_sp (z : Str) : jnS (spS z) = z := TL.ext_tl (by rw [jn_tl, sp_tl, jn_spl]; rfl)
theorem sp_ne (z : Str) : spS z ≠ [] := fun e => by
  have h := sp_tl z
  rw [e] at h
  exact spl_ne _ _ _ h.symm
theorem sp_jn {ws : List Str} (h : ws ≠ []) (hf : ∀ w ∈ ws, 32 ∉ TL.tl w) : spS (jnS ws) = ws := TL.split_join tl_bl (by kernel_rfl) h hf
theorem sp_len (z : Str) : (spS z).length ≤ z.length + 1 ∧ ∀ w ∈ spS z, w.length ≤ z.length := by
  obtain ⟨h1, h2⟩ := spl_len 32 [] (TL.tl z)
  rw [← sp_tl] at h1 h2
  rw [List.length_map, ← TL.len_tl] at h1
  refine ⟨h1, fun w hw => ?_⟩
  have := h2 (TL.tl w) (List.mem_map.mpr ⟨w, hw, rfl⟩)
  rw [← TL.len_tl, ← TL.len_tl, List.length_nil, Nat.zero_add] at this
  exact this
theorem num_free {n s : Nat} (h : s < 48 ∨ 57 < s) : s ∉ TL.tl (nTx n) := by
  rw [tl_nTx]
  exact TL.numL_free h
theorem jn_len : ∀ (ws : List Str), (jnS ws).length + 1 ≤ (ws.map fun w => w.length + 1).sum + 1
  | [] => by
    have : (jnS []).length = 0 := rfl
    omega
  | [w] => by
    have : jnS [w] = w := TL.ext_tl (by rw [jn_tl]; rfl)
    rw [this]
    simp
  | w :: v :: r => by
    have ih := jn_len (v :: r)
    have e : (jnS (w :: v :: r)).length = w.length + 1 + (jnS (v :: r)).length := by
      rw [TL.len_tl, TL.len_tl (jnS (v :: r)), TL.len_tl w, jn_tl, jn_tl]
      show (TL.tl w ++ ([32] ++ TL.joinL [32] ((v :: r).map TL.tl))).length = _
      rw [List.length_append, List.length_append]
      show (TL.tl w).length + (1 + _) = _
      omega
    rw [e]
    simp only [List.map_cons, List.sum_cons] at ih ⊢
    omega
/-! lists of numbers -/
noncomputable def numsA : List Str → Option (List Nat)
  | [] => some []
  | w :: ws => match numA w, numsA ws with
    | some n, some ns => some (n :: ns)
    | _, _ => none
theorem numsA_iff : ∀ {ws : List Str} {ns : List Nat}, numsA ws = some ns ↔ ws = ns.map nTx ∧ ∀ w ∈ ws, w.length ≤ 9
  | [], ns => by
    unfold numsA
    constructor
    · intro e; cases e; simp
    · rintro ⟨e, _⟩
      cases ns with
      | nil => rfl
      | cons n ns => cases e
  | w :: ws, ns => by
    unfold numsA
    constructor
    · intro e
      split at e
      · rename_i n ms e1 e2
        cases e
        obtain ⟨h1, h2⟩ := numA_iff.mp e1
        obtain ⟨h3, h4⟩ := numsA_iff.mp e2
        refine ⟨by rw [h1, h3]; rfl, fun x hx => ?_⟩
        rcases List.mem_cons.mp hx with rfl | hx
        · exact h2
        · exact h4 x hx
      · cases e
    · rintro ⟨e, h⟩
      cases ns with
      | nil => cases e
      | cons n ns =>
        simp only [List.map_cons, List.cons.injEq] at e
        have e1 := numA_iff.mpr ⟨e.1, h w (by simp)⟩
        have e2 := numsA_iff.mpr ⟨e.2, fun x hx => h x (by simp [hx])⟩
        rw [e1, e2]
theorem numsA_nums {ns : List Nat} (h : ∀ n ∈ ns, n < 1000000000) : numsA (ns.map nTx) = some ns := numsA_iff.mpr ⟨rfl, fun w hw => by
  obtain ⟨n, hn, rfl⟩ := List.mem_map.mp hw
  exact nTx_9 (h n hn)⟩
end Fk
-- base: k60
/-! ## orders and weathers as texts (plain) -/
namespace Fk
open PySem PySem.Spec PyProof.Rows L2
inductive Ox where
  | md | rd (p : Nat) | tr (p : Nat) | wr (p d : Nat) | gr (rows : List (Nat × Nat))
def rwX (r : Nat × Nat) : AV := .tup [.int r.1, .int r.2]
def Ox.av : Ox → AV
  | .md => .tup [.str "mend"]
  | .rd p => .tup [.str "read", .int p]
  | .tr p => .tup [.str "trim", .int p]
  | .wr p d => .tup [.str "write", .int p, .int d]
  | .gr rows => .tup [.str "group", .tup (rows.map rwX)]
structure okRX (rows : List (Nat × Nat)) : Prop where
  l1 : 1 ≤ rows.length
  l4 : rows.length ≤ 4
  each : ∀ r ∈ rows, r.1 ≤ 15 ∧ r.2 ≤ 63
  nd : (rows.map (·.1)).Nodup
def okOx : Ox → Prop
  | .md => True
  | .rd p => p ≤ 15
  | .tr p => p ≤ 15
  | .wr p d => p ≤ 15 ∧ d ≤ 63
  | .gr rows => okRX rows
def flat : List (Nat × Nat) → List Nat
  | [] => []
  | r :: rs => r.1 :: r.2 :: flat rs
def prs : List Nat → List (Nat × Nat)
  | a :: b :: r => (a, b) :: prs r
  | _ => []
theorem prs_flat : ∀ rows, prs (flat rows) = rows
  | [] => rfl
  | r :: rs => by simp [flat, prs, prs_flat rs]
theorem flat_len : ∀ rows, (flat rows).length = 2 * rows.length
  | [] => rfl
  | r :: rs => by simp [flat, flat_len rs]; omega
theorem flat_prs : ∀ (ns : List Nat), ns.length % 2 = 0 → flat (prs ns) = ns
  | [], _ => rfl
  | [a], h => by simp at h
  | a :: b :: r, h => by
    simp only [prs, flat]
    rw [flat_prs r (by simp at h; omega)]
theorem flat_mem : ∀ {rows : List (Nat × Nat)} {n : Nat}, n ∈ flat rows → ∃ r ∈ rows, n = r.1 ∨ n = r.2
  | r :: rs, n, h => by
    simp only [flat, List.mem_cons] at h
    rcases h with h | h | h
    · exact ⟨r, by simp, .inl h⟩
    · exact ⟨r, by simp, .inr h⟩
    · obtain ⟨q, hq, e⟩ := flat_mem h
      exact ⟨q, by simp [hq], e⟩
def Ox.kd : Ox → Str
  | .md => "mend"
  | .rd _ => "read"
  | .tr _ => "trim"
  | .wr _ _ => "write"
  | .gr _ => "group"
def Ox.ns : Ox → List Nat
  | .md => []
  | .rd p => [p]
  | .tr p => [p]
  | .wr p d => [p, d]
  | .gr rows => flat rows
def Ox.tx (o : Ox) : Str := jnS (o.kd :: o.ns.map nTx)
open Classical in
noncomputable def shapeA (w : Str) (ns : List Nat) : Option Ox :=
  if w = "mend" then (if ns = [] then some .md else none)
  else if w = "write" then (match ns with | [p, d] => if p ≤ 15 ∧ d ≤ 63 then some (.wr p d) else none | _ => none)
  else if w = "group" then (if ns.length % 2 = 0 ∧ okRX (prs ns) then some (.gr (prs ns)) else none)
  else match ns with
    | [p] => if p ≤ 15 then (if w = "read" then some (.rd p) else if w = "trim" then some (.tr p) else none) else none
    | _ => none
theorem shape_of {o : Ox} (h : okOx o) : shapeA o.kd o.ns = some o := by
  have e1 : ¬ ("write" : Str) = "mend" := by decide +kernel
  have e2 : ¬ ("group" : Str) = "mend" := by decide +kernel
  have e3 : ¬ ("group" : Str) = "write" := by decide +kernel
  have e4 : ¬ ("read" : Str) = "mend" := by decide +kernel
  have e5 : ¬ ("read" : Str) = "write" := by decide +kernel
  have e6 : ¬ ("read" : Str) = "group" := by decide +kernel
  have e7 : ¬ ("trim" : Str) = "mend" := by decide +kernel
  have e8 : ¬ ("trim" : Str) = "write" := by decide +kernel
  have e9 : ¬ ("trim" : Str) = "group" := by decide +kernel
  have e10 : ¬ ("trim" : Str) = "read" := by decide +kernel
  cases o with
  | md => simp [shapeA, Ox.kd, Ox.ns]
  | rd p => simp only [shapeA, Ox.kd, Ox.ns, e4, e5, e6, if_false, if_pos (show p ≤ 15 from h), if_true]
  | tr p => simp only [shapeA, Ox.kd, Ox.ns, e7, e8, e9, e10, if_false, if_pos (show p ≤ 15 from h), if_true]
  | wr p d => simp only [shapeA, Ox.kd, Ox.ns, e1, if_false, if_true, if_pos (show p ≤ 15 ∧ d ≤ 63 from h)]
  | gr rows =>
    have h1 : (flat rows).length % 2 = 0 := by rw [flat_len]; omega
    have h2 : okRX (prs (flat rows)) := by
      rw [prs_flat]
      exact h
    show shapeA "group" (flat rows) = _
    unfold shapeA
    rw [if_neg e2, if_neg e3, if_pos rfl, if_pos ⟨h1, h2⟩, prs_flat]
theorem of_shape {w : Str} {ns : List Nat} {o : Ox} (e : shapeA w ns = some o) : okOx o ∧ w = o.kd ∧ ns = o.ns := by
  unfold shapeA at e
  split at e
  · rename_i hw
    split at e
    · rename_i h
      cases e
      exact ⟨trivial, hw, h⟩
    · cases e
  split at e
  · rename_i hw
    split at e
    · split at e
      · rename_i h
        cases e
        exact ⟨h, hw, rfl⟩
      · cases e
    · cases e
  split at e
  · rename_i hw
    split at e
    · rename_i h
      cases e
      exact ⟨h.2, hw, (flat_prs _ h.1).symm⟩
    · cases e
  split at e
  · split at e
    · rename_i h
      split at e
      · rename_i hw
        cases e
        exact ⟨h, hw, rfl⟩
      · split at e
        · rename_i hw
          cases e
          exact ⟨h, hw, rfl⟩
        · cases e
    · cases e
  · cases e
noncomputable def ordA (z : Str) : Option Ox := match spS z with
  | w :: ws => (numsA ws).bind (shapeA w)
  | [] => none
theorem ns_small {o : Ox} (h : okOx o) : ∀ n ∈ o.ns, n ≤ 63 := by
  intro n hn
  cases o with
  | md => cases hn
  | rd p =>
    obtain rfl : n = p := by simpa [Ox.ns] using hn
    have : n ≤ 15 := h
    omega
  | tr p =>
    obtain rfl : n = p := by simpa [Ox.ns] using hn
    have : n ≤ 15 := h
    omega
  | wr p d =>
    have h2 : p ≤ 15 ∧ d ≤ 63 := h
    have : n = p ∨ n = d := by simpa [Ox.ns] using hn
    omega
  | gr rows =>
    obtain ⟨r, hr, e⟩ := flat_mem hn
    have := (h : okRX rows).each r hr
    omega
theorem ns_len {o : Ox} (h : okOx o) : o.ns.length ≤ 8 := by
  cases o with
  | gr rows =>
    have := (h : okRX rows).l4
    show (flat rows).length ≤ 8
    rw [flat_len]
    omega
  | _ => simp [Ox.ns]
theorem kd_is (o : Ox) : o.kd ∈ (["mend", "read", "trim", "write", "group"] : List Str) := by
  cases o <;> simp [Ox.kd]
theorem kd_free (o : Ox) : 32 ∉ TL.tl o.kd := by
  have h : ∀ w ∈ (["mend", "read", "trim", "write", "group"] : List Str), 32 ∉ TL.tl w := by decide +kernel
  exact h _ (kd_is o)
theorem kd_len (o : Ox) : o.kd.length ≤ 5 := by
  have h : ∀ w ∈ (["mend", "read", "trim", "write", "group"] : List Str), w.length ≤ 5 := by decide +kernel
  exact h _ (kd_is o)
theorem tx_sp (o : Ox) : spS o.tx = o.kd :: o.ns.map nTx := sp_jn (by simp) fun w hw => by
  rcases List.mem_cons.mp hw with rfl | hw
  · exact kd_free o
  · obtain ⟨n, _, rfl⟩ := List.mem_map.mp hw
    exact num_free (by omega)
theorem ordA_iff {z : Str} {o : Ox} : ordA z = some o ↔ okOx o ∧ z = o.tx := by
  constructor
  · intro e
    unfold ordA at e
    split at e
    · rename_i w ws es
      obtain ⟨ns, en, e⟩ := Option.bind_eq_some_iff.mp e
      obtain ⟨h1, h2, h3⟩ := of_shape e
      obtain ⟨h4, _⟩ := numsA_iff.mp en
      refine ⟨h1, ?_⟩
      rw [← jn_sp z, es, h2, h4, h3]
      rfl
    · cases e
  · rintro ⟨h, rfl⟩
    unfold ordA
    rw [tx_sp]
    have hs := ns_small h
    have en := numsA_nums (ns := o.ns) fun n hn => by have := hs n hn; omega
    show (numsA (o.ns.map nTx)).bind (shapeA o.kd) = _
    rw [en]
    exact shape_of h
theorem sum_le : ∀ (ws : List Str) (m : Nat), (∀ w ∈ ws, w.length ≤ m) → (ws.map fun w => w.length + 1).sum ≤ ws.length * (m + 1)
  | [], m, _ => by simp
  | w :: ws, m, h => by
    have h1 := h w (by simp)
    have h2 := sum_le ws m fun x hx => h x (by simp [hx])
    simp only [List.map_cons, List.sum_cons, List.length_cons]
    rw [Nat.add_mul]
    omega
theorem tx_len {o : Ox} (h : okOx o) : o.tx.length ≤ 100 := by
  have h1 := jn_len (o.kd :: o.ns.map nTx)
  have h2 := sum_le (o.kd :: o.ns.map nTx) 9 fun w hw => by
    rcases List.mem_cons.mp hw with rfl | hw
    · have := kd_len o
      omega
    · obtain ⟨n, hn, rfl⟩ := List.mem_map.mp hw
      exact nTx_9 (by have := ns_small h n hn; omega)
  have h3 := ns_len h
  unfold Ox.tx
  simp only [List.length_cons, List.length_map] at h2
  omega
end Fk
/-! ## seals -/
namespace Fk
open PySem PySem.Spec PyProof.Rows L2
section
variable {S : List AV}
theorem x_is_within {a lo hi : Int} : m_is_within [.int a, .int lo, .int hi] S = .ok (.bl (decide (lo ≤ a) && decide (a ≤ hi))) S := by
  by_cases h : lo ≤ a <;> simp [h, m_is_within, m_is_whole, fnM, okT, isT, asB, oLe, oNot]
end
end Fk
/-! ## pages -/
namespace Fk
open PySem PySem.Spec PyProof.Rows L2
section
variable {S : List AV}
theorem i_tup {x : List AV} : isT "tuple" (.tup x) = true := by rfl
theorem i_str {x : Str} : isT "str" (.str x) = true := by rfl
end
end Fk
/-! ## numbers of fields, words -/
namespace Fk
open PySem PySem.Spec PyProof.Rows L2
section
variable {S : List AV}
end
end Fk
namespace Fk
open PySem PySem.Spec PyProof.Rows L2
section
variable {S : List AV}
end
end Fk
/-! ## flash -/
namespace Fk
open PySem PySem.Spec PyProof.Rows L2
/-- what a page holds -/
inductive Cl where
  | bk | tn | wd (n : Nat)
  deriving DecidableEq
def Cl.av : Cl → AV
  | .bk => .non
  | .tn => .str "torn"
  | .wd n => .int n
inductive Flt where
  | fine | cut | bad | bit (i : Nat)
  deriving DecidableEq
def Flt.av : Flt → AV
  | .fine => .tup [.str "fine"]
  | .cut => .tup [.str "cut"]
  | .bad => .tup [.str "bad"]
  | .bit i => .tup [.str "bit", .int i]
structure Fsh where
  cells : List (List Cl)
  worn : List Nat
  failed : List Bool
  faults : List (Nat × Flt)
  count : Nat
  power : Bool
def fshK : List Str := ["cells", "worn", "failed", "faults", "count", "power"]
def rowA (r : List Cl) : AV := .lst true (r.map Cl.av)
def Fsh.fd (F : Fsh) : AV := .dct false (F.faults.map fun p => .inl (p.1 : Int)) (F.faults.map fun p => p.2.av)
def Fsh.av (F : Fsh) : AV := .ins "Flash" fshK [.nst (F.cells.map rowA), .lst true (F.worn.map iA), .lst true (F.failed.map AV.bl), F.fd, .int F.count, .bl F.power]
/-- the fault of a step -/
def Fsh.ft (F : Fsh) : Flt := ((F.faults.find? fun p => decide (p.1 = F.count)).map (·.2)).getD .fine
theorem imm_ft (f : Flt) : imm f.av = true := by cases f <;> rfl
section
variable {S : List AV} {l : Nat} {F : Fsh}
theorem q_c1 : (f : Flt) → oEq f.av (.tup [.str "cut"]) = some (.bl (decide (f = .cut)))
  | .fine => by kernel_rfl
  | .cut => by kernel_rfl
  | .bad => by kernel_rfl
  | .bit _ => by kernel_rfl
theorem q_b1 : (f : Flt) → oEq f.av (.tup [.str "bad"]) = some (.bl (decide (f = .bad)))
  | .fine => by kernel_rfl
  | .cut => by kernel_rfl
  | .bad => by kernel_rfl
  | .bit _ => by kernel_rfl
variable {C : AV}
end
end Fk
/-! ## flash: write -/
namespace Fk
open PySem PySem.Spec PyProof.Rows L2
section
variable {S : List AV} {l : Nat} {F : Fsh}
/-- what is turned: the object at l alone, and what is new -/
structure Up (S : List AV) (l : Nat) (x : AV) (S' : List AV) : Prop where
  at_ : S'[l]? = some x
  len : S.length ≤ S'.length
  keep : ∀ i, i ≠ l → i < S.length → S'[i]? = S[i]?
theorem Up.set {x : AV} (h : l < S.length) : Up S l x (S.set l x) := ⟨by simp [h], by simp, fun i hi _ => by rw [List.getElem?_set_ne (fun z => hi z.symm)]⟩
theorem Up.app {x : AV} {S' T : List AV} (u : Up S l x S') (hl : l < S.length) : Up S l x (S' ++ T) :=
  ⟨by rw [List.getElem?_append_left (Nat.lt_of_lt_of_le hl u.len)]; exact u.at_, by simp; have := u.len; omega, fun i hi h => by rw [List.getElem?_append_left (Nat.lt_of_lt_of_le h u.len)]; exact u.keep i hi h⟩
theorem Up.tr {x y : AV} {S1 S2 : List AV} (u : Up S l x S1) (v : Up S1 l y S2) : Up S l y S2 :=
  ⟨v.at_, Nat.le_trans u.len v.len, fun i hi h => by rw [v.keep i hi (Nat.lt_of_lt_of_le h u.len), u.keep i hi h]⟩
theorem Up.refl {x : AV} (h : S[l]? = some x) : Up S l x S := ⟨h, Nat.le_refl _, fun _ _ _ => rfl⟩
theorem Up.oth {x y : AV} {S' : List AV} {i : Nat} (u : Up S l x S') (h : S[i]? = some y) (hi : i ≠ l) : S'[i]? = some y := by
  rw [u.keep i hi (List.getElem?_eq_some_iff.mp h).1, h]
theorem lt_at {x : AV} (h : S[l]? = some x) : l < S.length := (List.getElem?_eq_some_iff.mp h).1
section
variable {x y z : AV} (hl : l < S.length)
include hl
end
/-- a write -/
def Fsh.wrR (F : Fsh) (b p w : Nat) (r : List Cl) : Res Bool Fsh := match F.ft with
  | .cut => .err "Off" { F with count := F.count + 1, cells := F.cells.set b (r.set p .tn), power := false }
  | .bad => .ok false { F with count := F.count + 1, failed := F.failed.set b true }
  | .bit i => .ok true { F with count := F.count + 1, cells := F.cells.set b (r.set p (.wd (w ^^^ 2 ^ i))) }
  | .fine => .ok true { F with count := F.count + 1, cells := F.cells.set b (r.set p (.wd w)) }
def Fsh.wr (F : Fsh) (b p w : Nat) : Res Bool Fsh := match F.cells[b]?, F.failed[b]? with
  | some r, some fb => if F.power = false then .err "Off" F else
    if r.countP (fun c => decide (c = .bk)) + p ≠ r.length ∨ r[p]? ≠ some .bk then .err "Written" F else
    if fb then .err "Bad" F else F.wrR b p w r
  | _, _ => .bad

end
end Fk
/-! ## flash: wipe at once; weathers; making -/
namespace Fk
open PySem PySem.Spec PyProof.Rows L2
theorem wp_eq {α β : Type} {x : Res α β} {v : α} {s : β} (h : WpR x (fun a t => a = v ∧ t = s) noE) : x = .ok v s := by
  obtain ⟨a, t, e, rfl, rfl⟩ := wp_ex h
  exact e
section
variable {S : List AV} {l : Nat} {F : Fsh}
def Fsh.wi (F : Fsh) (b : Nat) : Res Bool Fsh := match F.cells[b]?, F.failed[b]?, F.worn[b]? with
  | some r, some fb, some n => if F.power = false then .err "Off" F else if fb then .err "Bad" F else match F.ft with
    | .cut => .err "Off" { F with count := F.count + 1, cells := F.cells.set b (List.replicate r.length .tn), power := false }
    | .bad => .ok false { F with count := F.count + 1, failed := F.failed.set b true }
    | _ => .ok true { F with count := F.count + 1, cells := F.cells.set b (List.replicate r.length .bk), worn := F.worn.set b (n + 1) }
  | _, _, _ => .bad
/-! ### weathers -/
def okFt : Flt → Prop
  | .fine => False
  | .bit i => i ≤ 46
  | _ => True
def wAs (ws : List (Nat × Flt)) : List AV := ws.map fun p => .tup [.int p.1, p.2.av]
structure okW (ws : List (Nat × Flt)) : Prop where
  len : ws.length ≤ 40
  each : ∀ p ∈ ws, p.1 ≤ 9999 ∧ okFt p.2
  rise : (ws.map (·.1)).Pairwise (· < ·)
theorem x_is_fault {f : Flt} (h : okFt f) : m_is_fault [f.av] S = .ok (.bl true) S := by
  have q1 := q_c1 f
  have q2 := q_b1 f
  unfold m_is_fault
  rw [fnM_ret]
  cases f with
  | fine => exact h.elim
  | cut => simp (implicitDefEqProofs := false) [q1]
  | bad => simp (implicitDefEqProofs := false) [q1, q2]
  | bit i =>
    have i46 : i ≤ 46 := h
    have i2 : (i : Int) ≤ 46 := by omega
    have e : oNe (.str "bit") (.str "bit") = some (.bl false) := by kernel_rfl
    simp only [Flt.av] at *
    simp (implicitDefEqProofs := false) [q1, q2, okT, i_tup, i_str, fLen, deref, lenA, oNe, eqA, ixA, itA, seqA, atI_nn, imm, e, x_is_within, oSub, i2]
theorem zip_tail {ns : List Int} (h : ns.Pairwise (· < ·)) : ∀ p ∈ ns.zip (ns.drop 1), p.1 < p.2 := by
  induction ns with
  | nil => intro p hp; cases hp
  | cons n ns ih =>
    cases ns with
    | nil => intro p hp; simp at hp
    | cons m ns =>
      intro p hp
      have hp2 : p = (n, m) ∨ p ∈ (m :: ns).zip ns := by simpa using hp
      rcases hp2 with rfl | hp2
      · exact (List.pairwise_cons.mp h).1 m (by simp)
      · exact ih (List.pairwise_cons.mp h).2 p (by simpa using hp2)
theorem sl_one (o : Bool) (xs : List AV) : slA (.lst o xs) (some 1) none = some (.lst false (xs.drop 1)) := by
  show some (AV.lst false (cutA _ _ _)) = _
  have e1 : HT.sIx xs.length 0 (some 1) = min 1 xs.length := HT.sIx_nat _ _ 1
  unfold cutA
  rw [e1, HT.sIx_none]
  congr 2
  cases xs with
  | nil => rfl
  | cons n ns =>
    simp
theorem x_rises {ns : List Int} (h : ns.Pairwise (· < ·)) (hl : ns.length ≤ 1000) : m_rises [.lst false (ns.map AV.int)] S = .ok (.bl true) S := by
  have ez : zipA [.lst false (ns.map AV.int), .lst false ((ns.map AV.int).drop 1)] = some ((ns.zip (ns.drop 1)).map fun p => AV.tup [.int p.1, .int p.2]) := by
    show some (zipL _ _) = _
    rw [← List.map_drop, zipL_ints]
  have es := sl_one false (ns.map AV.int)
  have zt := zip_tail h
  have zl : (ns.zip (ns.drop 1)).length ≤ 1000 := by simp; omega
  generalize (ns.map AV.int).drop 1 = ys at es ez
  generalize ns.map AV.int = xs at es ez ⊢
  generalize ns.zip (ns.drop 1) = zs at ez zt zl
  refine wp_eq ?_
  unfold m_rises
  refine wpF ?_
  simp (implicitDefEqProofs := false) [-k_sSeq, Ss.wipe, -k_sTry, oPart, asI, es, ez, Ss.wipe, wipeSl]
  refine wpB (wpL (fun _ => true) (fun _ => .bl true) (fun d hd => ?_) (by simp; omega) ?_)
  · obtain ⟨p, hp, rfl⟩ := List.mem_map.mp hd
    have := zt p hp
    refine ⟨_, rfl, ?_⟩
    simp (implicitDefEqProofs := false) [-k_sSeq, Ss.wipe, -k_sTry, oLt, this, Ss.wipe, wipeSl]
  · have c1 : ((zs.map fun p => AV.tup [.int p.1, .int p.2]).filter fun _ => true).map (fun _ => AV.bl true) = (List.replicate zs.length true).map AV.bl := by
      rw [filter_tt, List.map_const', List.length_map, List.map_replicate]
    rw [c1]
    simp (implicitDefEqProofs := false) [-k_sSeq, Ss.wipe, -k_sTry, f_all, -List.map_replicate]
theorem x_is_weather {ws : List (Nat × Flt)} (h : okW ws) : m_is_weather [.tup (wAs ws)] S = .ok (.bl true) S := by
  have hlen : (wAs ws).length = ws.length := by simp [wAs]
  have hl := h.len
  have er := x_rises (S := S) (ns := ws.map fun p => (p.1 : Int)) (by
    have := h.rise
    rw [List.pairwise_map] at this ⊢
    exact this.imp fun h => by omega) (by simp; omega)
  have c1 : (wAs ws).map (fun _ => AV.bl true) = ((List.replicate ws.length true).map AV.bl) := by rw [List.map_const', hlen, List.map_replicate]
  have c3 : (wAs ws).map (fun d => (atI ((seqA d).getD []) 0).getD .non) = (ws.map fun p => (p.1 : Int)).map AV.int := by
    unfold wAs
    rw [List.map_map, List.map_map]
    refine List.map_congr_left fun p _ => ?_
    simp [seqA, atI_nn]
  have hg : oGt (.int (wAs ws).length) (.int 40) = some (.bl false) := by
    have : ¬ (40 : Int) < (wAs ws).length := by rw [hlen]; omega
    simp [oGt, this]
  have hin : ∀ d ∈ wAs ws, ∃ p ∈ ws, d = .tup [.int p.1, p.2.av] := fun d hd => by
    obtain ⟨p, hp, rfl⟩ := List.mem_map.mp hd
    exact ⟨p, hp, rfl⟩
  have h40 : (wAs ws).length ≤ 16777216 := by omega
  generalize (ws.map fun p => (p.1 : Int)).map AV.int = L at er c3
  generalize wAs ws = W at *
  refine wp_eq ?_
  unfold m_is_weather
  refine wpF ?_
  refine wpS ?_
  simp (implicitDefEqProofs := false) [-k_sSeq, Ss.wipe, -k_sTry, okT, i_tup, fLen, deref, lenA, hg]
  refine wpS ?_
  simp (implicitDefEqProofs := false) [-k_sSeq, Ss.wipe, -k_sTry, itemsOf, Ss.wipe, wipeSl]
  refine wpB (wpL (fun _ => true) (fun _ => .bl true) (fun d hd => ?_) h40 ?_)
  · obtain ⟨p, hp, rfl⟩ := hin d hd
    refine ⟨_, rfl, ?_⟩
    simp (implicitDefEqProofs := false) [-k_sSeq, Ss.wipe, -k_sTry, okT, i_tup, asB, fLen, deref, lenA, oEq, eqA, Ss.wipe, wipeSl]
  rw [filter_tt, c1]
  simp (implicitDefEqProofs := false) [-k_sSeq, Ss.wipe, -k_sTry, f_all, -List.map_replicate]
  refine wpS ?_
  simp (implicitDefEqProofs := false) [-k_sSeq, Ss.wipe, -k_sTry, itemsOf, Ss.wipe, wipeSl]
  refine wpB (wpL (fun _ => true) (fun _ => .bl true) (fun d hd => ?_) h40 ?_)
  · obtain ⟨p, hp, rfl⟩ := hin d hd
    obtain ⟨a, b⟩ := h.each p hp
    have a2 : (p.1 : Int) ≤ 9999 := by omega
    have xf := x_is_fault (S := S) b
    have im := imm_ft p.2
    generalize p.2.av = T at xf im
    refine ⟨_, rfl, ?_⟩
    simp (implicitDefEqProofs := false) [-k_sSeq, Ss.wipe, -k_sTry, x_is_within, a2, asB, xf, Ss.wipe, wipeSl]
  rw [filter_tt, c1]
  simp (implicitDefEqProofs := false) [-k_sSeq, Ss.wipe, -k_sTry, f_all, -List.map_replicate]
  refine wpB (wpL (fun _ => true) (fun d => (atI ((seqA d).getD []) 0).getD .non) (fun d hd => ?_) h40 ?_)
  · obtain ⟨p, hp, rfl⟩ := hin d hd
    generalize p.2.av = T
    refine ⟨_, rfl, ?_⟩
    simp (implicitDefEqProofs := false) [-k_sSeq, Ss.wipe, -k_sTry, seqA, atI_nn, Ss.wipe, wipeSl]
  rw [filter_tt, c3]
  simp (implicitDefEqProofs := false) [-k_sSeq, Ss.wipe, -k_sTry, er]
end
end Fk
-- base: k60
/-! ## weathers as texts (plain) -/
namespace Fk
open PySem PySem.Spec PyProof.Rows L2
def wdF : Flt → Str
  | .cut => "cut"
  | .bad => "bad"
  | .bit i => "bit" ++ nTx i
  | .fine => ""
def rowT (p : Nat × Flt) : Str := nTx p.1 ++ ":" ++ wdF p.2
def txW (ws : List (Nat × Flt)) : Str := if ws = [] then "-" else jnS (ws.map rowT)
def restB (f : Str) : Str := cutS f (some 3) none
open Classical in
noncomputable def fltA (f : Str) : Option Flt := if f = "cut" then some .cut else if f = "bad" then some .bad else if Txt.startswith f "bit" = true then (numA (restB f)).map Flt.bit else none
noncomputable def faultA (z : Str) : Option (Nat × Flt) := match numA (Txt.partition z ":").1 with
  | none => none
  | some n => if (Txt.partition z ":").2.1 = "" then none else (fltA (Txt.partition z ":").2.2).map fun f => (n, f)
theorem tl_bit : TL.tl ("bit" : Str) = [98, 105, 116] := by kernel_rfl
theorem rest_tl (f : Str) : TL.tl (restB f) = (TL.tl f).drop 3 := by
  have e0 : HT.sIx f.length 0 (some 3) = min 3 f.length := HT.sIx_nat _ _ 3
  have e1 : HT.sIx f.length f.length none = f.length := HT.sIx_none _ _
  show ((TL.tl f).drop (HT.sIx f.length 0 (some 3))).take (HT.sIx f.length f.length none - HT.sIx f.length 0 (some 3)) = _
  rw [e0, e1]
  have hl : f.length = (TL.tl f).length := TL.len_tl f
  by_cases c : 3 ≤ f.length
  · rw [Nat.min_eq_left c, List.take_of_length_le (by rw [List.length_drop]; omega)]
  · rw [Nat.min_eq_right (by omega), List.drop_eq_nil_of_le (by omega), List.drop_eq_nil_of_le (by omega), List.take_nil]
theorem sw_bit {f : Str} (h : Txt.startswith f "bit" = true) : f = "bit" ++ restB f := by
  have h2 : TL.pre (TL.tl ("bit" : Str)) ((TL.tl f).drop 0) = true := (TL.at_iff (x := f) (y := "bit") (by rw [tl_bit]; simp) 0).mp (by
    unfold Txt.startswith at h
    have h3 := Bool.and_eq_true_iff.mp h
    exact ⟨of_decide_eq_true h3.1, h3.2⟩)
  rw [tl_bit, List.drop_zero] at h2
  refine TL.ext_tl ?_
  rw [TL.tl_append, tl_bit, rest_tl]
  have h3 : (TL.tl f).take 3 = [98, 105, 116] := eq_of_beq h2
  rw [← h3, List.take_append_drop]
theorem bit_sw (s : Str) : Txt.startswith ("bit" ++ s) "bit" = true ∧ restB ("bit" ++ s) = s := by
  constructor
  · have h2 : TL.pre (TL.tl ("bit" : Str)) ((TL.tl ("bit" ++ s)).drop 0) = true := by
      rw [List.drop_zero, TL.tl_append]
      exact TL.pre_self _ _
    have h3 := (TL.at_iff (x := "bit" ++ s) (y := "bit") (by rw [tl_bit]; simp) 0).mpr h2
    unfold Txt.startswith
    exact Bool.and_eq_true_iff.mpr ⟨decide_eq_true h3.1, h3.2⟩
  · refine TL.ext_tl ?_
    rw [rest_tl, TL.tl_append, tl_bit]
    rfl
theorem bit_ne (s : Str) : ¬ ("bit" ++ s : Str) = "cut" ∧ ¬ ("bit" ++ s : Str) = "bad" := by
  have h : ∀ t : Str, ("bit" ++ s : Str) = t → (TL.tl t).take 3 = [98, 105, 116] := fun t e => by
    rw [← e, TL.tl_append, tl_bit]
    rfl
  exact ⟨fun e => absurd (h _ e) (by decide +kernel), fun e => absurd (h _ e) (by decide +kernel)⟩
def smF : Flt → Prop
  | .fine => False
  | .bit i => (nTx i).length ≤ 9
  | _ => True
theorem fltA_iff {f : Str} {x : Flt} : fltA f = some x ↔ smF x ∧ f = wdF x := by
  unfold fltA
  constructor
  · intro e
    split at e
    · rename_i h; cases e; exact ⟨trivial, h⟩
    split at e
    · rename_i h; cases e; exact ⟨trivial, h⟩
    split at e
    · rename_i h
      obtain ⟨n, en, rfl⟩ := Option.map_eq_some_iff.mp e
      obtain ⟨h1, h2⟩ := numA_iff.mp en
      refine ⟨by show (nTx n).length ≤ 9; rw [← h1]; exact h2, ?_⟩
      have := sw_bit h
      rw [h1] at this
      exact this
    · cases e
  · rintro ⟨hs, rfl⟩
    cases x with
    | fine => exact hs.elim
    | cut => rw [if_pos (show wdF .cut = "cut" from rfl)]
    | bad =>
      rw [if_neg (show ¬ wdF .bad = "cut" by show ¬ ("bad" : Str) = "cut"; decide +kernel), if_pos (show wdF .bad = "bad" from rfl)]
    | bit i =>
      have hw : wdF (.bit i) = "bit" ++ nTx i := rfl
      obtain ⟨b1, b2⟩ := bit_ne (nTx i)
      obtain ⟨c1, c2⟩ := bit_sw (nTx i)
      rw [hw, if_neg b1, if_neg b2, if_pos c1, c2, numA_iff.mpr ⟨rfl, hs⟩]
      rfl
theorem part_co (z : Str) : (Txt.partition z ":").2.1 = "" ∨ z = (Txt.partition z ":").1 ++ ":" ++ (Txt.partition z ":").2.2 := by
  have e := TL.partition_par z ":" (by rw [tl_co]; simp)
  rw [tl_co] at e
  have key : ∀ (acc l a b : List Nat), TL.par [58] acc l = some (a, b) → a ++ [58] ++ b = acc ++ l := by
    intro acc l
    induction l generalizing acc with
    | nil => intro a b h; cases h
    | cons c r ih =>
      intro a b h
      cases hp : TL.pre [58] (c :: r) with
      | true =>
        rw [TL.par_hit hp] at h
        obtain rfl := pre1 hp
        cases h
        simp
      | false =>
        rw [TL.par_miss hp] at h
        have := ih _ _ _ h
        rw [this]
        simp
  cases hp : TL.par [58] [] (TL.tl z) with
  | none =>
    rw [hp] at e
    rw [e]
    exact .inl rfl
  | some ab =>
    obtain ⟨a, b⟩ := ab
    rw [hp] at e
    rw [e]
    refine .inr (TL.ext_tl ?_)
    rw [TL.tl_append, TL.tl_append, tl_co]
    exact (key [] _ _ _ hp).symm
theorem part_row (p : Nat × Flt) : Txt.partition (rowT p) ":" = (nTx p.1, (":" : Str), wdF p.2) := TL.partition_app tl_co (num_free (by omega))
def smR (p : Nat × Flt) : Prop := (nTx p.1).length ≤ 9 ∧ smF p.2
theorem faultA_iff {z : Str} {p : Nat × Flt} : faultA z = some p ↔ smR p ∧ z = rowT p := by
  have ne : ¬ (":" : Str) = "" := by decide +kernel
  unfold faultA
  constructor
  · intro e
    split at e
    · cases e
    rename_i n en
    split at e
    · cases e
    rename_i hn
    obtain ⟨f, ef, rfl⟩ := Option.map_eq_some_iff.mp e
    obtain ⟨h1, h2⟩ := numA_iff.mp en
    obtain ⟨h3, h4⟩ := fltA_iff.mp ef
    rcases part_co z with h | h
    · exact absurd h hn
    · refine ⟨⟨by rw [← h1]; exact h2, h3⟩, ?_⟩
      rw [h1, h4] at h
      exact h
  · rintro ⟨⟨h1, h2⟩, rfl⟩
    rw [part_row]
    simp only [numA_iff.mpr ⟨rfl, h1⟩, if_neg ne, fltA_iff.mpr ⟨h2, rfl⟩]
    rfl
theorem faults_iff : ∀ {zs : List Str} {ps : List (Nat × Flt)}, zs.map faultA = ps.map some ↔ zs = ps.map rowT ∧ ∀ p ∈ ps, smR p
  | [], ps => by
    cases ps <;> simp
  | z :: zs, [] => by simp
  | z :: zs, p :: ps => by
    simp only [List.map_cons, List.cons.injEq, faults_iff (zs := zs) (ps := ps), faultA_iff, List.mem_cons, forall_eq_or_imp]
    constructor
    · rintro ⟨⟨a, b⟩, c, d⟩
      exact ⟨⟨b, c⟩, a, d⟩
    · rintro ⟨⟨b, c⟩, a, d⟩
      exact ⟨⟨a, b⟩, c, d⟩
theorem smF_ok {f : Flt} (h : okFt f) : smF f := by
  cases f with
  | fine => exact h
  | bit i =>
    have : i ≤ 46 := h
    exact nTx_9 (by omega)
  | cut => trivial
  | bad => trivial
theorem smR_ok {ws : List (Nat × Flt)} (h : okW ws) : ∀ p ∈ ws, smR p := fun p hp => by
  obtain ⟨h1, h2⟩ := h.each p hp
  exact ⟨nTx_9 (by omega), smF_ok h2⟩
theorem wd_free {s : Nat} (f : Flt) (h : s ≤ 47 ∨ s = 58) : s ∉ TL.tl (wdF f) := by
  have hb : ∀ l : List Nat, (l.all fun c => decide (48 ≤ c ∧ c ≠ 58)) = true → s ∉ l := fun l hl hm => by
    have := List.all_eq_true.mp hl s hm
    have := of_decide_eq_true this
    omega
  cases f with
  | fine => exact hb _ (by kernel_rfl)
  | cut => exact hb _ (by kernel_rfl)
  | bad => exact hb _ (by kernel_rfl)
  | bit i =>
    show s ∉ TL.tl ("bit" ++ nTx i)
    rw [TL.tl_append]
    intro hm
    rcases List.mem_append.mp hm with hm | hm
    · exact hb _ (by kernel_rfl) hm
    · exact num_free (by omega) hm
theorem row_free (p : Nat × Flt) : 32 ∉ TL.tl (rowT p) := by
  unfold rowT
  rw [TL.tl_append, TL.tl_append, tl_co]
  intro hm
  simp only [List.mem_append, List.mem_singleton] at hm
  rcases hm with (hm | hm) | hm
  · exact num_free (by omega) hm
  · omega
  · exact wd_free _ (by omega) hm
theorem row_co (p : Nat × Flt) : 58 ∈ TL.tl (rowT p) := by
  unfold rowT
  rw [TL.tl_append, TL.tl_append, tl_co]
  simp
theorem tl_mi : TL.tl ("-" : Str) = [45] := by kernel_rfl
theorem rows_sp {ws : List (Nat × Flt)} (h : ws ≠ []) : spS (jnS (ws.map rowT)) = ws.map rowT := sp_jn (by simpa using h) fun w hw => by
  obtain ⟨p, _, rfl⟩ := List.mem_map.mp hw
  exact row_free p
theorem jn_mi {ws : List (Nat × Flt)} (h : ws ≠ []) : jnS (ws.map rowT) ≠ "-" := by
  intro e
  have h2 := rows_sp h
  rw [e] at h2
  have h3 : spS "-" = ([("-" : Str)] : List Str) := by
    have : ("-" : Str) = jnS [("-" : Str)] := by kernel_rfl
    rw [this]
    exact sp_jn (by simp) fun w hw => by
      obtain rfl : w = "-" := by simpa using hw
      rw [tl_mi]
      simp
  rw [h3] at h2
  cases ws with
  | nil => exact h rfl
  | cons p ws =>
    simp only [List.map_cons, List.cons.injEq] at h2
    have := row_co p
    rw [← h2.1, tl_mi] at this
    simp at this
open Classical in
/-- the weather that a text tells -/
noncomputable def weaA (z : Str) : Option (List (Nat × Flt)) := if h : ∃ ws, okW ws ∧ z = txW ws then some (Classical.choose h) else none
theorem rows_inj : ∀ {a b : List (Nat × Flt)}, (∀ p ∈ a, smR p) → (∀ p ∈ b, smR p) → a.map rowT = b.map rowT → a = b
  | [], [], _, _, _ => rfl
  | [], q :: b, _, _, e => by cases e
  | p :: a, [], _, _, e => by cases e
  | p :: a, q :: b, ha, hb, e => by
    simp only [List.map_cons, List.cons.injEq] at e
    have h1 := faultA_iff.mpr ⟨ha p (by simp), rfl⟩
    rw [e.1, faultA_iff.mpr ⟨hb q (by simp), rfl⟩] at h1
    have h2 : q = p := by simpa using h1
    rw [h2, rows_inj (fun x hx => ha x (by simp [hx])) (fun x hx => hb x (by simp [hx])) e.2]
theorem txW_inj {a b : List (Nat × Flt)} (ha : okW a) (hb : okW b) (e : txW a = txW b) : a = b := by
  unfold txW at e
  by_cases h1 : a = []
  · rw [if_pos h1] at e
    by_cases h2 : b = []
    · rw [h1, h2]
    · rw [if_neg h2] at e
      exact absurd e.symm (jn_mi h2)
  · rw [if_neg h1] at e
    by_cases h2 : b = []
    · rw [if_pos h2] at e
      exact absurd e (jn_mi h1)
    · rw [if_neg h2] at e
      refine rows_inj (smR_ok ha) (smR_ok hb) ?_
      rw [← rows_sp h1, ← rows_sp h2, e]
theorem weaA_iff {z : Str} {ws : List (Nat × Flt)} : weaA z = some ws ↔ okW ws ∧ z = txW ws := by
  unfold weaA
  by_cases h : ∃ ws, okW ws ∧ z = txW ws
  · rw [dif_pos h]
    have s := Classical.choose_spec h
    constructor
    · intro e; cases e; exact s
    · intro e
      congr 1
      exact txW_inj s.1 e.1 (by rw [← s.2, ← e.2])
  · rw [dif_neg h]
    constructor
    · intro e; cases e
    · intro e; exact absurd ⟨ws, e⟩ h
theorem wd_len {f : Flt} (h : okFt f) : (wdF f).length ≤ 12 := by
  cases f with
  | fine => exact h.elim
  | cut => (show Str.length _ ≤ 12; decide +kernel)
  | bad => (show Str.length _ ≤ 12; decide +kernel)
  | bit i =>
    have : i ≤ 46 := h
    have h9 := nTx_9 (n := i) (by omega)
    have hb : ("bit" : Str).length = 3 := by kernel_rfl
    show ("bit" ++ nTx i : Str).length ≤ 12
    rw [TL.len_tl, TL.tl_append, List.length_append, ← TL.len_tl, ← TL.len_tl]
    omega
theorem row_len {p : Nat × Flt} (h1 : p.1 ≤ 9999) (h2 : okFt p.2) : (rowT p).length ≤ 22 := by
  have a := nTx_9 (n := p.1) (by omega)
  have b := wd_len h2
  have c : (":" : Str).length = 1 := by kernel_rfl
  unfold rowT
  rw [TL.len_tl, TL.tl_append, TL.tl_append, List.length_append, List.length_append, ← TL.len_tl, ← TL.len_tl, ← TL.len_tl]
  omega
theorem txW_len {ws : List (Nat × Flt)} (h : okW ws) : (txW ws).length ≤ 1000 := by
  unfold txW
  split
  · show Str.length _ ≤ _
    decide +kernel
  · have h1 := jn_len (ws.map rowT)
    have h2 := sum_le (ws.map rowT) 22 fun w hw => by
      obtain ⟨p, hp, rfl⟩ := List.mem_map.mp hw
      obtain ⟨a, b⟩ := h.each p hp
      exact row_len a b
    have h3 := h.len
    simp only [List.length_map] at h2
    omega
end Fk
/-! ## flash: making -/
namespace Fk
open PySem PySem.Spec PyProof.Rows L2
section
variable {S : List AV} {l : Nat} {F : Fsh}
end
end Fk
/-! ## draws, frames -/
namespace Fk
open PySem PySem.Spec PyProof.Rows L2
/-- what is kept: all but the objects of L -/
structure Fr (L : List Nat) (S S' : List AV) : Prop where
  len : S.length ≤ S'.length
  keep : ∀ i, i ∉ L → i < S.length → S'[i]? = S[i]?
theorem Fr.refl (L : List Nat) (S : List AV) : Fr L S S := ⟨Nat.le_refl _, fun _ _ _ => rfl⟩
theorem Fr.tr {L : List Nat} {S S1 S2 : List AV} (a : Fr L S S1) (b : Fr L S1 S2) : Fr L S S2 := ⟨Nat.le_trans a.len b.len, fun i hi h => by rw [b.keep i hi (Nat.lt_of_lt_of_le h a.len), a.keep i hi h]⟩
theorem Fr.mono {L L' : List Nat} {S S1 : List AV} (a : Fr L S S1) (h : ∀ i ∈ L, i ∈ L') : Fr L' S S1 := ⟨a.len, fun i hi => a.keep i fun z => hi (h i z)⟩
theorem Fr.oth {L : List Nat} {S S' : List AV} {i : Nat} {y : AV} (u : Fr L S S') (h : S[i]? = some y) (hi : i ∉ L) : S'[i]? = some y := by rw [u.keep i hi (lt_at h), h]
theorem Up.fr {S S' : List AV} {l : Nat} {x : AV} (u : Up S l x S') : Fr [l] S S' := ⟨u.len, fun i hi => u.keep i (by simpa using hi)⟩
theorem Fr.app (L : List Nat) (S T : List AV) : Fr L S (S ++ T) := ⟨by simp, fun i _ h => by rw [List.getElem?_append_left h]⟩
theorem x_choice {a b c n : Int} {l : Nat} {S : List AV} (hS : S[l]? = some (.lst true [.int a, .int b, .int c])) (hb : 0 ≤ b) (hb2 : b < 2 ^ 40) (hn : 0 < n) (hn2 : n < 2 ^ 63) : ∃ r a' b' c', 0 ≤ r ∧ r < n ∧ 0 ≤ b' ∧ b' < 2 ^ 40 ∧ m__law_choice [.loc l, .int n] S = .ok (.int r) (S.set l (.lst true [.int a', .int b', .int c'])) := by
  have hn3 : n < 18446744073709551616 := by omega
  unfold m__law_choice
  by_cases h : 0 < a
  · refine ⟨a % n, a / n, b, c, Int.emod_nonneg _ (by omega), Int.emod_lt_of_pos _ hn, hb, hb2, ?_⟩
    simp [h, hS, hn, hn3, fnM, ixA, deref, itA, seqA, atI_nn, ixN_nn, oGt, imm, oMod, oFdv, locOf, getPl, setPl, setZ, setIx, asI]
  · have h1 : ∀ z : Int, 0 ≤ z % 2147483647 ∧ z % 2147483647 < 2147483647 := fun z => ⟨Int.emod_nonneg _ (by omega), Int.emod_lt_of_pos _ (by omega)⟩
    have h2 : ∀ z : Int, 0 ≤ z % 2147483629 ∧ z % 2147483629 < 2147483629 := fun z => ⟨Int.emod_nonneg _ (by omega), Int.emod_lt_of_pos _ (by omega)⟩
    have cm : ∀ x y : Int, 0 ≤ x → x < 2147483647 → cMul x y = true := fun x y p q => by
      unfold cMul
      simp
      omega
    have cm2 : ∀ x y : Int, 0 ≤ y → y < 2147483647 → cMul x y = true := fun x y p q => by
      unfold cMul
      simp
      omega
    obtain ⟨b1, eb1⟩ : ∃ z, z = (b * 48271 + 29 + (c + 1)) % 2147483647 := ⟨_, rfl⟩
    obtain ⟨z1, ez1⟩ : ∃ z, z = (b1 * b1 + 39373 * b1 + 7) % 2147483629 := ⟨_, rfl⟩
    have p1 := h1 (b * 48271 + 29 + (c + 1))
    have p2 := h2 (b1 * b1 + 39373 * b1 + 7)
    rw [← eb1] at p1
    rw [← ez1] at p2
    refine ⟨(z1 * z1 + 50021 * z1) % 2147483587 / 8 % n, a, b1, c + 1, Int.emod_nonneg _ (by omega), Int.emod_lt_of_pos _ hn, p1.1, by omega, ?_⟩
    have c1 := cm2 b 48271 (by omega) (by omega)
    have c2 := cm b1 b1 p1.1 p1.2
    have c3 := cm 39373 b1 (by omega) (by omega)
    have c4 := cm z1 z1 p2.1 (by omega)
    have c5 := cm 50021 z1 (by omega) (by omega)
    simp [h, hS, hn, hn3, fnM, ixA, deref, itA, seqA, atI_nn, ixN_nn, oGt, imm, oMod, oFdv, locOf, getPl, setPl, setZ, setIx, asI, oAdd, oMul, setS_self, c1, c2, c3, c4, c5, ← eb1, ← ez1]
/-- the draws' row at l -/
def Dr (S : List AV) (l : Nat) : Prop := ∃ a b c : Int, S[l]? = some (.lst true [.int a, .int b, .int c]) ∧ 0 ≤ b ∧ b < 2 ^ 40
theorem Dr.fr {L : List Nat} {S S' : List AV} {l : Nat} (h : Dr S l) (f : Fr L S S') (hl : l ∉ L) : Dr S' l := by
  obtain ⟨a, b, c, e, r⟩ := h
  exact ⟨a, b, c, f.oth e hl, r⟩
theorem Dr.lt {S : List AV} {l : Nat} (h : Dr S l) : l < S.length := by
  obtain ⟨a, b, c, e, r⟩ := h
  exact lt_at e
theorem w_choice {S : List AV} {l : Nat} {n : Int} {Q : AV → List AV → Prop} {E : Str → List AV → Prop} (h : Dr S l) (hn : 0 < n) (hn2 : n < 2 ^ 40) (k : ∀ (r : Nat) (S' : List AV), (r : Int) < n → Dr S' l → Fr [l] S S' → Q (.int r) S') : WpR (m__law_choice [.loc l, .int n] S) Q E := by
  obtain ⟨a, b, c, e, h0, h1⟩ := h
  obtain ⟨r, a', b', c', p1, p2, p3, p4, p5⟩ := x_choice e h0 h1 hn (by omega)
  obtain ⟨r, rfl⟩ := Int.eq_ofNat_of_zero_le p1
  have u : Up S l (.lst true [.int a', .int b', .int c']) _ := Up.set (lt_at e)
  exact wp_of p5 (k r _ p2 ⟨a', b', c', u.at_, p3, p4⟩ u.fr)
theorem x_cell {ns : List Int} {k : Nat} {S : List AV} : ∃ c : Int, m__law_cell_at [.scr (ns.map AV.int), .int k] S = .ok (.int c) S := by
  by_cases h : k < ns.length
  · refine ⟨ns[k], ?_⟩
    have h2 : (k : Int) < ns.length := by omega
    have e : (ns.map AV.int)[k]? = some (.int ns[k]) := by simp [h]
    have g3 : ixA S (.scr (ns.map AV.int)) (.int k) = some (.int ns[k]) := by simp [ixA, deref, itA, seqA, atI_nn, h]
    simp (implicitDefEqProofs := false) [m__law_cell_at, fnM, fLen, deref, lenA, oLt, h2, g3, imm]
    try omega
  · refine ⟨0, ?_⟩
    have h2 : ¬ (k : Int) < ns.length := by omega
    simp (implicitDefEqProofs := false) [m__law_cell_at, fnM, fLen, deref, lenA, oLt, h2]
    try omega
theorem x_state {ns : List Int} {k : Nat} {S : List AV} : ∃ z : AV, m__law_state [.scr (ns.map AV.int), .int k] S = .ok (.loc S.length) (S ++ [z]) ∧ Dr (S ++ [z]) S.length := by
  obtain ⟨c, e⟩ := x_cell (ns := ns) (k := k) (S := S)
  have hm : 0 ≤ c % 2147483629 ∧ c % 2147483629 < 2147483629 := ⟨Int.emod_nonneg _ (by omega), Int.emod_lt_of_pos _ (by omega)⟩
  refine ⟨.lst true [.int (max 0 (c - 10 ^ 18)), .int (c % 2147483629 + 1), .int 0], ?_, _, _, _, by simp; exact ⟨rfl, rfl, rfl⟩, by omega, by omega⟩
  simp (implicitDefEqProofs := false) [m__law_state, fnM, e, oPow, cPow, oSub, fMax2, oMod, oAdd, ownA]
  split <;> omega
theorem w_state {ns : List Int} {k : Nat} {S : List AV} {Q : AV → List AV → Prop} {E : Str → List AV → Prop} (h : ∀ S' : List AV, Dr S' S.length → Fr [] S S' → Q (.loc S.length) S') : WpR (m__law_state [.scr (ns.map AV.int), .int k] S) Q E := by
  obtain ⟨z, e, d⟩ := x_state (ns := ns) (k := k) (S := S)
  exact wp_of e (h _ d (Fr.app _ _ _))
end Fk
/-! ## dicts by numbers, plainly -/
namespace Fk
open PySem PySem.Spec PyProof.Rows L2
@[simp] theorem g_N (i : Nat) (d : AV) (r : List Sl) (s : List AV) : gN i d ⟨r, s⟩ = some ⟨setSl r i (.im d), s⟩ := rfl
@[simp] theorem g_nil (st : Ss) : gNil' [] st = some st := rfl
@[simp] theorem g_cons (t : Tg) (u : List AV → Ss → Option Ss) (d : AV) (ds : List AV) (st : Ss) : gCons' t u (d :: ds) st = (t d st).bind fun s1 => u ds s1 := rfl
@[simp] theorem g_T (n : Nat) (u : List AV → Ss → Option Ss) (xs : List AV) (st : Ss) (h : xs.length = n) : gT n u (.tup xs) st = u xs st := by
  unfold gT
  simp [h]
@[simp] theorem nis_non : oNis .non .non = some (.bl false) := rfl
@[simp] theorem is_non : oIs .non .non = some (.bl true) := rfl
section
variable {α : Type} (e : α → AV)
def dk (ps : List (Nat × α)) : List Key := ps.map fun p => .inl (p.1 : Int)
def dv (ps : List (Nat × α)) : List AV := ps.map fun p => e p.2
def upN : List (Nat × α) → Nat → α → List (Nat × α)
  | [], k, v => [(k, v)]
  | p :: ps, k, v => if p.1 = k then (k, v) :: ps else p :: upN ps k v
def lkN (ps : List (Nat × α)) (k : Nat) : Option α := (ps.find? fun p => decide (p.1 = k)).map (·.2)
theorem key_eq (a b : Nat) : ((.inl (a : Int) : Key) = .inl (b : Int)) ↔ a = b := ⟨fun h => by injection h with h; omega, fun h => by rw [h]⟩
theorem get_dk : ∀ (ps : List (Nat × α)) (k : Nat), getK (dk ps) (dv e ps) (.inl (k : Int)) = (lkN ps k).map e
  | [], k => rfl
  | p :: ps, k => by
    have ih := get_dk ps k
    simp only [dk, dv, lkN, List.map_cons, getK, key_eq, List.find?_cons] at ih ⊢
    by_cases h : p.1 = k
    · simp [h]
    · rw [if_neg h, ih]
      simp [h]
theorem has_dk : ∀ (ps : List (Nat × α)) (k : Nat), hasK (dk ps) (.inl (k : Int)) = (lkN ps k).isSome
  | [], k => rfl
  | p :: ps, k => by
    have ih := has_dk ps k
    simp only [dk, lkN, hasK, List.map_cons, List.any_cons, key_eq, List.find?_cons] at ih ⊢
    by_cases h : p.1 = k
    · simp [h]
    · rw [ih]
      simp [h]
theorem upN_keys : ∀ (ps : List (Nat × α)) (k : Nat) (v : α), (lkN ps k).isSome = true → (upN ps k v).map (·.1) = ps.map (·.1)
  | [], k, v, h => by cases h
  | p :: ps, k, v, h => by
    simp only [upN]
    by_cases c : p.1 = k
    · simp [c]
    · rw [if_neg c, List.map_cons, upN_keys ps k v (by simpa [lkN, List.find?_cons, c] using h)]
      rfl
theorem upN_new : ∀ (ps : List (Nat × α)) (k : Nat) (v : α), lkN ps k = none → upN ps k v = ps ++ [(k, v)]
  | [], k, v, h => rfl
  | p :: ps, k, v, h => by
    simp only [upN]
    by_cases c : p.1 = k
    · simp [lkN, List.find?_cons, c] at h
    · rw [if_neg c, upN_new ps k v (by simpa [lkN, List.find?_cons, c] using h)]
      rfl
theorem upd_no : ∀ (ps : List (Nat × α)) (k : Nat) (d : AV), k ∉ ps.map (·.1) → updA (.inl (k : Int)) d (dk ps) (dv e ps) = dv e ps
  | [], k, d, _ => rfl
  | p :: ps, k, d, nd => by
    have h : ¬ p.1 = k ∧ k ∉ ps.map (·.1) := by
      simp only [List.map_cons, List.mem_cons, not_or] at nd
      exact ⟨fun z => nd.1 z.symm, nd.2⟩
    have ih := upd_no ps k d h.2
    simp only [dk, dv, List.map_cons, updA, key_eq] at ih ⊢
    rw [if_neg h.1, ih]
theorem upd_dk : ∀ (ps : List (Nat × α)) (k : Nat) (v : α), (ps.map (·.1)).Nodup → (lkN ps k).isSome = true → updA (.inl (k : Int)) (e v) (dk ps) (dv e ps) = dv e (upN ps k v)
  | [], k, v, _, h => by cases h
  | p :: ps, k, v, nd, h => by
    obtain ⟨n1, n2⟩ := List.nodup_cons.mp nd
    by_cases c : p.1 = k
    · have e2 := upd_no e ps k (e v) (by rw [← c]; exact n1)
      simp only [dk, dv, List.map_cons, updA, upN, key_eq, if_pos c] at e2 ⊢
      rw [e2]
    · have ih := upd_dk ps k v n2 (by simpa [lkN, List.find?_cons, c] using h)
      simp only [dk, dv, List.map_cons, updA, upN, key_eq, if_neg c] at ih ⊢
      rw [ih]
theorem put_dk (ps : List (Nat × α)) (k : Nat) (v : α) (nd : (ps.map (·.1)).Nodup) : putKA (dk ps) (dv e ps) (.inl (k : Int)) (e v) = (dk (upN ps k v), dv e (upN ps k v)) := by
  unfold putKA
  rw [has_dk]
  cases h : lkN ps k with
  | none =>
    rw [upN_new ps k v h]
    simp [dk, dv]
  | some w =>
    have hs : (lkN ps k).isSome = true := by rw [h]; rfl
    rw [upd_dk e ps k v nd hs]
    have ek : dk (upN ps k v) = dk ps := by
      have := upN_keys ps k v hs
      unfold dk
      have e1 : ∀ qs : List (Nat × α), (qs.map fun p => (.inl (p.1 : Int) : Key)) = (qs.map (·.1)).map fun (n : Nat) => (.inl (n : Int) : Key) := fun qs => by simp
      rw [e1, e1 ps, this]
    rw [ek]
    rfl
theorem nd_upN (ps : List (Nat × α)) (k : Nat) (v : α) (nd : (ps.map (·.1)).Nodup) : ((upN ps k v).map (·.1)).Nodup := by
  cases h : lkN ps k with
  | some w => rw [upN_keys ps k v (by rw [h]; rfl)]; exact nd
  | none =>
    rw [upN_new ps k v h, List.map_append, List.nodup_append]
    refine ⟨nd, by simp, fun a ha b hb => ?_⟩
    have : b = k := by simpa using hb
    subst this
    rintro rfl
    obtain ⟨p, hp, rfl⟩ := List.mem_map.mp ha
    simp only [lkN, Option.map_eq_none_iff, List.find?_eq_none] at h
    exact h p hp (by simp)
theorem len_upN (ps : List (Nat × α)) (k : Nat) (v : α) : (upN ps k v).length ≤ ps.length + 1 := by
  induction ps with
  | nil => simp [upN]
  | cons p ps ih =>
    simp only [upN]
    split <;> simp
    exact ih
theorem mem_upN {ps : List (Nat × α)} {k : Nat} {v : α} {q : Nat × α} (h : q ∈ upN ps k v) : q = (k, v) ∨ q ∈ ps := by
  induction ps with
  | nil => simpa [upN] using h
  | cons p ps ih =>
    simp only [upN] at h
    split at h
    · rcases List.mem_cons.mp h with h | h
      · exact .inl h
      · exact .inr (by simp [h])
    · rcases List.mem_cons.mp h with h | h
      · exact .inr (by simp [h])
      · exact (ih h).imp id fun z => by simp [z]
theorem lk_mem {ps : List (Nat × α)} {k : Nat} {v : α} (h : lkN ps k = some v) : (k, v) ∈ ps := by
  simp only [lkN, Option.map_eq_some_iff] at h
  obtain ⟨p, h1, rfl⟩ := h
  have := List.find?_some h1
  have h2 := List.mem_of_find?_eq_some h1
  have e : p.1 = k := by simpa using this
  rw [← e]
  exact h2
theorem lk_of {ps : List (Nat × α)} {k : Nat} (h : k ∈ ps.map (·.1)) : ∃ v, lkN ps k = some v := by
  cases e : lkN ps k with
  | some v => exact ⟨v, rfl⟩
  | none =>
    obtain ⟨p, hp, rfl⟩ := List.mem_map.mp h
    simp only [lkN, Option.map_eq_none_iff, List.find?_eq_none] at e
    exact (e p hp (by simp)).elim
theorem keysI_dk (ps : List (Nat × α)) : keysI (dk ps) = some (ps.map fun p => (p.1 : Int)) := by
  have := keysI_map (ps.map fun p => (p.1 : Int))
  rw [List.map_map] at this
  exact this
/-- the sorted rows of a dict -/
def srN (ps : List (Nat × α)) : List (Nat × α) := (srtI (ps.map fun p => (p.1 : Int))).filterMap fun k => (lkN ps k.toNat).map fun v => (k.toNat, v)
theorem srN_eq (ps : List (Nat × α)) (d : α) : srN ps = (srtI (ps.map fun p => (p.1 : Int))).map fun k => (k.toNat, (lkN ps k.toNat).getD d) := by
  unfold srN
  have h : ∀ k ∈ srtI (ps.map fun p => (p.1 : Int)), k.toNat ∈ ps.map (·.1) := fun k hk => by
    have := (srtI_perm _).mem_iff.mp hk
    obtain ⟨p, hp, rfl⟩ := List.mem_map.mp this
    exact List.mem_map.mpr ⟨p, hp, by simp⟩
  generalize srtI (ps.map fun p => (p.1 : Int)) = ks at h
  induction ks with
  | nil => rfl
  | cons k ks ih =>
    obtain ⟨v, hv⟩ := lk_of (h k (by simp))
    rw [List.filterMap_cons, hv, List.map_cons, hv]
    simp only [Option.map_some, Option.getD_some]
    rw [ih fun k hk => h k (by simp [hk])]
theorem srN_mem {ps : List (Nat × α)} {q : Nat × α} (h : q ∈ srN ps) : q ∈ ps := by
  simp only [srN, List.mem_filterMap, Option.map_eq_some_iff] at h
  obtain ⟨k, _, v, hv, rfl⟩ := h
  exact lk_mem hv
theorem srN_len (ps : List (Nat × α)) : (srN ps).length = ps.length := by
  cases ps with
  | nil => rfl
  | cons p ps => rw [srN_eq (p :: ps) p.2, List.length_map, (srtI_perm _).length_eq, List.length_map]
theorem srN_rise (ps : List (Nat × α)) (nd : (ps.map (·.1)).Nodup) : ((srN ps).map (·.1)).Pairwise (· < ·) := by
  cases ps with
  | nil => simp [srN, srtI]
  | cons p ps =>
    rw [srN_eq (p :: ps) p.2, List.map_map]
    generalize hq : p :: ps = qs at nd
    have h1 := srtI_srt (qs.map fun p => (p.1 : Int))
    have h2 : (srtI (qs.map fun p => (p.1 : Int))).Nodup := (srtI_perm _).nodup_iff.mpr (by
      rw [List.Nodup, List.pairwise_map] at nd ⊢
      exact nd.imp fun h => by omega)
    have h3 : ∀ k ∈ srtI (qs.map fun p => (p.1 : Int)), 0 ≤ k := fun k hk => by
      have := (srtI_perm _).mem_iff.mp hk
      obtain ⟨p, hp, rfl⟩ := List.mem_map.mp this
      omega
    rw [List.pairwise_map]
    exact (List.pairwise_and_iff.mpr ⟨h1, h2⟩).imp_of_mem fun ha hb ⟨a, b⟩ => by
      have := h3 _ ha
      have := h3 _ hb
      simp only [Function.comp]
      omega
end
theorem rng_mem {n : Nat} {j : Nat} {d : AV} (h : ((List.range n).map iA)[j]? = some d) : d = .int j ∧ j < n := by
  rw [List.getElem?_map] at h
  cases e : (List.range n)[j]? with
  | none => rw [e] at h; cases h
  | some m =>
    rw [e] at h
    have := List.getElem?_eq_some_iff.mp e
    obtain ⟨hl, hm⟩ := this
    simp at hl hm
    subst hm
    cases h
    exact ⟨rfl, hl⟩
end Fk
/-! ## plans, fields, weathers drawn -/
namespace Fk
open PySem PySem.Spec PyProof.Rows L2
structure Pln where
  b : Nat
  p : Nat
  q : Nat
  s : Bool
  c : Bool
def Pln.av (P : Pln) : AV := .tup [.int P.b, .int P.p, .int P.q, .bl P.s, .bl P.c]
theorem ix_l (S : List AV) (o : Bool) (xs : List AV) (r : Nat) : ixA S (.lst o xs) (.int r) = xs[r]? := by simp [ixA, deref, itA, seqA, atI_nat]
theorem ix_t (S : List AV) (xs : List AV) (r : Nat) : ixA S (.tup xs) (.int r) = xs[r]? := by simp [ixA, deref, itA, seqA, atI_nat]
section
variable {S : List AV} {l : Nat} {Q : AV → List AV → Prop} {E : Str → List AV → Prop}
end
end Fk
-- base: k14
/-! ## fields of any kind drawn; seals (k14's) -/
namespace Fk
open PySem PySem.Spec PyProof.Rows L2
section
variable {S : List AV} {l : Nat} {Q : AV → List AV → Prop} {E : Str → List AV → Prop}
end
end Fk
-- base: k05
/-! ## plain data, how much they weigh -/
namespace Fk
open PySem PySem.Spec PyProof.Rows L2
mutual
def wt : AV → Nat
  | .tup xs => wts xs + 3
  | .lst _ xs => wts xs + 3
  | .str z => 10 * z.length + 2
  | _ => 129
def wts : List AV → Nat
  | [] => 0
  | x :: xs => wt x + 2 + wts xs
end
mutual
def dpt : AV → Nat
  | .tup xs => dpts xs + 1
  | .lst _ xs => dpts xs + 1
  | _ => 0
def dpts : List AV → Nat
  | [] => 0
  | x :: xs => max (dpt x) (dpts xs)
end
mutual
/-- plain data without dicts, nothing owned -/
def gd : AV → Bool
  | .non => true
  | .bl _ => true
  | .int i => decide (i.natAbs < 2 ^ 128)
  | .str z => PyData.strOk z
  | .tup xs => gds xs
  | .lst o xs => !o && gds xs
  | _ => false
def gds : List AV → Bool
  | [] => true
  | x :: xs => gd x && gds xs
end
mutual
theorem sh_gd : ∀ (x : AV) (k : Nat), gd x = true → dpt x ≤ k → Sh k (wt x) x
  | .non, k, _, _ => sh_non.mono (Nat.le_refl _) (by simp [wt])
  | .bl b, k, _, _ => (sh_bl b).mono (Nat.le_refl _) (by simp [wt])
  | .int i, k, h, _ => by
    have : i.natAbs < 2 ^ 128 := by simpa [gd] using h
    exact (sh_int this).mono (Nat.le_refl _) (by simp [wt])
  | .str z, k, h, _ => by
    have : PyData.strOk z = true := by simpa [gd] using h
    simpa [wt] using sh_str (k := k) this
  | .tup xs, k, h, hd => by
    have h1 : gds xs = true := by simpa [gd] using h
    have h2 : dpts xs + 1 ≤ k := by simpa [dpt] using hd
    obtain ⟨j, rfl⟩ : ∃ j, k = j + 1 := ⟨k - 1, by omega⟩
    have := sh_tup (shs_gd xs j h1 (by omega))
    simpa [wt] using this
  | .lst o xs, k, h, hd => by
    have h1 : o = false ∧ gds xs = true := by simpa [gd] using h
    have h2 : dpts xs + 1 ≤ k := by simpa [dpt] using hd
    obtain ⟨j, rfl⟩ : ∃ j, k = j + 1 := ⟨k - 1, by omega⟩
    have := sh_lst (o := o) (shs_gd xs j h1.2 (by omega))
    simpa [wt] using this
  | .dct _ _ _, _, h, _ => by simp [gd] at h
  | .scr _, _, h, _ => by simp [gd] at h
  | .nst _, _, h, _ => by simp [gd] at h
  | .ndc _ _, _, h, _ => by simp [gd] at h
  | .ins _ _ _, _, h, _ => by simp [gd] at h
  | .loc _, _, h, _ => by simp [gd] at h
  | .ded, _, h, _ => by simp [gd] at h
  | .set _, _, h, _ => by simp [gd] at h
  | .tud _, _, h, _ => by simp [gd] at h
theorem shs_gd : ∀ (xs : List AV) (k : Nat), gds xs = true → dpts xs ≤ k → Shs k (wts xs) xs
  | [], k, _, _ => by simpa [wts] using shs_nil (k := k)
  | x :: xs, k, h, hd => by
    have h1 : gd x = true ∧ gds xs = true := by simpa [gds] using h
    have h2 : max (dpt x) (dpts xs) ≤ k := by simpa [dpts] using hd
    have := shs_cons (sh_gd x k h1.1 (by omega)) (shs_gd xs k h1.2 (by omega))
    simpa [wts] using this
end
/-- a thing -/
structure Td (k n : Nat) (x : AV) : Prop where
  g : gd x = true
  d : dpt x ≤ k
  w : wt x ≤ n
structure Tds (k n : Nat) (xs : List AV) : Prop where
  g : gds xs = true
  d : dpts xs ≤ k
  w : wts xs ≤ n
section
variable {x : AV} {xs ys : List AV} {k n m : Nat}
theorem Td.sh (h : Td k n x) : Sh k n x := (sh_gd x k h.g h.d).mono (Nat.le_refl _) h.w
theorem Td.mono {k' n' : Nat} (h : Td k n x) (hk : k ≤ k') (hn : n ≤ n') : Td k' n' x := ⟨h.g, Nat.le_trans h.d hk, Nat.le_trans h.w hn⟩
theorem Td.imm (h : Td k n x) : imm x = true := by
  have := h.g
  cases x <;> simp_all [gd]
theorem Td.okT (h : Td k n x) : okT x = true := by
  have := h.g
  cases x <;> simp_all [gd, Fk.okT]
theorem Td.tup (h : Td k n (.tup xs)) : 1 ≤ k ∧ 3 ≤ n ∧ Tds (k - 1) (n - 3) xs := by
  have h1 : gds xs = true := by simpa [gd] using h.g
  have h2 : dpts xs + 1 ≤ k := by simpa [dpt] using h.d
  have h3 : wts xs + 3 ≤ n := by simpa [wt] using h.w
  exact ⟨by omega, by omega, h1, by omega, by omega⟩
theorem Tds.tup (h : Tds k n xs) : Td (k + 1) (n + 3) (.tup xs) := ⟨by simpa [gd] using h.g, by have := h.d; simpa [dpt] using this, by have := h.w; simpa [wt] using this⟩
theorem Tds.lst (h : Tds k n xs) : Td (k + 1) (n + 3) (.lst false xs) := ⟨by simpa [gd] using h.g, by have := h.d; simpa [dpt] using this, by have := h.w; simpa [wt] using this⟩
theorem gds_app : ∀ (xs ys : List AV), gds (xs ++ ys) = (gds xs && gds ys)
  | [], ys => by simp [gds]
  | x :: xs, ys => by simp [gds, gds_app xs ys, Bool.and_assoc]
theorem dpts_app : ∀ (xs ys : List AV), dpts (xs ++ ys) = max (dpts xs) (dpts ys)
  | [], ys => by simp [dpts]
  | x :: xs, ys => by simp only [List.cons_append, dpts, dpts_app xs ys]; omega
theorem wts_app : ∀ (xs ys : List AV), wts (xs ++ ys) = wts xs + wts ys
  | [], ys => by simp [wts]
  | x :: xs, ys => by simp [wts, wts_app xs ys]; omega
theorem Tds.app (h : Tds k n xs) (g : Tds k m ys) : Tds k (n + m) (xs ++ ys) := ⟨by rw [gds_app, h.g, g.g]; rfl, by rw [dpts_app]; have := h.d; have := g.d; omega, by rw [wts_app]; have := h.w; have := g.w; omega⟩
theorem Tds.nil : Tds k 0 [] := ⟨rfl, by simp [dpts], by simp [wts]⟩
theorem Tds.cons (h : Td k n x) (g : Tds k m xs) : Tds k (n + 2 + m) (x :: xs) := ⟨by simp [gds, h.g, g.g], by have := h.d; have := g.d; simp [dpts]; omega, by have := h.w; have := g.w; simp [wts]; omega⟩
theorem Tds.mono {k' n' : Nat} (h : Tds k n xs) (hk : k ≤ k') (hn : n ≤ n') : Tds k' n' xs := ⟨h.g, Nat.le_trans h.d hk, Nat.le_trans h.w hn⟩
theorem Tds.take (h : Tds k n xs) (i : Nat) : Tds k n (xs.take i) := by
  have h1 := h.g
  have h2 := h.d
  have h3 := h.w
  rw [← List.take_append_drop i xs] at h1 h2 h3
  rw [gds_app] at h1
  rw [dpts_app] at h2
  rw [wts_app] at h3
  exact ⟨(Bool.and_eq_true_iff.mp h1).1, by omega, by omega⟩
theorem Tds.drop (h : Tds k n xs) (i : Nat) : Tds k n (xs.drop i) := by
  have h1 := h.g
  have h2 := h.d
  have h3 := h.w
  rw [← List.take_append_drop i xs] at h1 h2 h3
  rw [gds_app] at h1
  rw [dpts_app] at h2
  rw [wts_app] at h3
  exact ⟨(Bool.and_eq_true_iff.mp h1).2, by omega, by omega⟩
theorem Tds.mem : ∀ {xs : List AV}, Tds k n xs → ∀ x ∈ xs, Td k n x
  | y :: ys, h, x, hx => by
    have h1 : gd y = true ∧ gds ys = true := by simpa [gds] using h.g
    have h2 : max (dpt y) (dpts ys) ≤ k := by simpa [dpts] using h.d
    have h3 : wt y + 2 + wts ys ≤ n := by simpa [wts] using h.w
    rcases List.mem_cons.mp hx with rfl | hx
    · exact ⟨h1.1, by omega, by omega⟩
    · exact Tds.mem (xs := ys) ⟨h1.2, by omega, by omega⟩ x hx
/-- one in the midst, apart from the others -/
theorem Tds.split {i : Nat} (h : Tds k n xs) (hi : xs[i]? = some x) : ∃ a b c, a + (b + 2 + c) ≤ n ∧ Tds k a (xs.take i) ∧ Td k b x ∧ Tds k c (xs.drop (i + 1)) := by
  obtain ⟨hl, e⟩ := List.getElem?_eq_some_iff.mp hi
  have e1 : xs = xs.take i ++ (x :: xs.drop (i + 1)) := by
    conv => lhs; rw [← List.take_append_drop i xs]
    rw [List.drop_eq_getElem_cons hl, e]
  have h1 := h.g
  have h2 := h.d
  have h3 := h.w
  rw [e1] at h1 h2 h3
  rw [gds_app] at h1
  rw [dpts_app] at h2
  rw [wts_app] at h3
  simp only [gds, dpts, wts, Bool.and_eq_true] at h1 h2 h3
  exact ⟨wts (xs.take i), wt x, wts (xs.drop (i + 1)), by omega, ⟨h1.1, by omega, Nat.le_refl _⟩, ⟨h1.2.1, by omega, Nat.le_refl _⟩, h1.2.2, by omega, Nat.le_refl _⟩
end
end Fk
-- base: k05
/-! ## fields known of anything -/
namespace Fk
open PySem PySem.Spec PyProof.Rows L2
/-- a whole number within bounds -/
def wI (x : AV) (m : Int) : Bool := match x with
  | .int i => decide (0 ≤ i) && decide (i ≤ m)
  | _ => false
def isI (x : AV) : Bool := match x with
  | .int _ => true
  | _ => false
section
variable {S : List AV} {x : AV} {xs : List AV} {k n : Nat}
theorem x_is_wholeA (h : okT x = true) : m_is_whole [x] S = .ok (.bl (isI x)) S := by
  unfold m_is_whole
  rw [fnM_ret]
  cases x with
  | non | bl | int | str | tup | lst | dct => simp (implicitDefEqProofs := false) [okT, isT, isI, asB, oNot]
  | _ => cases h
theorem x_withinA (h : okT x = true) (m : Int) : m_is_within [x, .int 0, .int m] S = .ok (.bl (wI x m)) S := by
  cases x with
  | int i =>
    rw [x_is_within]
    rfl
  | non | bl | str | tup | lst | dct =>
    have w := x_is_wholeA (S := S) h
    unfold m_is_within
    rw [fnM_ret]
    simp (implicitDefEqProofs := false) [w, isI, wI, asB]
  | _ => cases h
def iv : AV → Int
  | .int i => i
  | _ => 0
theorem wI_int {m : Int} (h : wI x m = true) : x = .int (iv x) := by
  cases x <;> first | rfl | cases h
theorem ln_tup (xs : List AV) : ∀ S, fLen S [.tup xs] = some (.int xs.length) := fun S => by simp [fLen, deref, lenA]
theorem eqs (a b : Str) : oEq (.str a) (.str b) = some (.bl (decide (a = b))) := by simp [oEq, eqA]
theorem nes (a b : Str) : oNe (.str a) (.str b) = some (.bl (!decide (a = b))) := by simp [oNe, eqA]
theorem eqi (a b : Int) : oEq (.int a) (.int b) = some (.bl (decide (a = b))) := by simp [oEq, eqA]
theorem nei (a b : Int) : oNe (.int a) (.int b) = some (.bl (!decide (a = b))) := by simp [oNe, eqA]
end
end Fk
-- base: k05
/-! ## fields known of anything, by the law -/
namespace Fk
open PySem PySem.Spec PyProof.Rows L2
section
variable {S : List AV} {x : AV} {xs : List AV} {k n : Nat}
end
end Fk
-- base: k05
/-! ## things drawn -/
namespace Fk
open PySem PySem.Spec PyProof.Rows L2
def tdB (k n : Nat) (x : AV) : Bool := gd x && (decide (dpt x ≤ k) && decide (wt x ≤ n))
theorem tdB_ok {k n : Nat} {x : AV} (h : tdB k n x = true) : Td k n x := by
  unfold tdB at h
  simp only [Bool.and_eq_true, decide_eq_true_eq] at h
  exact ⟨h.1, h.2.1, h.2.2⟩
def isMtD (x : AV) : Prop := x = .dct false [] [] ∨ x = .dct false [.inl 0] [.int 1]
theorem imm_isMt {d : AV} (h : isMtD d) : imm d = true := by rcases h with rfl | rfl <;> rfl
section
variable {S : List AV} {l : Nat} {Q : AV → List AV → Prop} {E : Str → List AV → Prop}
end
end Fk
-- base: k05
/-! ## law k05 -/
namespace Fk
open PySem PySem.Spec PyProof.Rows L2
theorem add_lstV (xs ys : List AV) (h : xs.length + ys.length ≤ 1000) : oAdd (.lst false xs) (.lst false ys) = some (.lst false (xs ++ ys)) := by
  have e : oAdd (.lst false xs) (.lst false ys) = if xs.length + ys.length ≤ 16777216 then some (.lst false (xs ++ ys)) else none := rfl
  rw [e, if_pos (by omega)]
def Tgh (x : AV) : Prop := Td 6 100000 x ∨ isMtD x
theorem rp_mt {x : AV} (h : isMtD x) : ∃ t : Str, ∀ S, fRepr S [x] = some (.str t) := by
  rcases h with rfl | rfl
  · exact ⟨"{}", fun _ => by kernel_rfl⟩
  · exact ⟨"{0: 1}", fun _ => by kernel_rfl⟩
theorem Tgh.rp {x : AV} (h : Tgh x) : ∃ t : Str, ∀ S, fRepr S [x] = some (.str t) := by
  rcases h with h | h
  · exact ⟨_, fun S => fRepr_ok h.sh (by omega) (by omega)⟩
  · exact rp_mt h
theorem Tgh.imm {x : AV} (h : Tgh x) : imm x = true := h.elim Td.imm imm_isMt
section
variable {S : List AV} {l : Nat} {Q : AV → List AV → Prop} {E : Str → List AV → Prop}
end
end Fk
-- base: k09
/-! ## weathers known of anything -/
namespace Fk
open PySem PySem.Spec PyProof.Rows L2
/-- a fault, a row, a weather -/
def isFl : AV → Bool
  | .tup [.str z] => decide (z = "cut") || decide (z = "bad")
  | .tup [.str z, y] => decide (z = "bit") && wI y 46
  | _ => false
def isR2 : AV → Bool
  | .tup [_, _] => true
  | _ => false
def r0 : AV → AV
  | .tup (a :: _) => a
  | _ => .non
def r1 : AV → AV
  | .tup (_ :: f :: _) => f
  | _ => .non
def rowW (x : AV) : Bool := isR2 x && (wI (r0 x) 9999 && isFl (r1 x))
def upI : List Int → Bool
  | a :: b :: r => decide (a < b) && upI (b :: r)
  | _ => true
def isW : AV → Bool
  | .tup xs => decide (xs.length ≤ 40) && (xs.all rowW && upI (xs.map fun x => iv (r0 x)))
  | _ => false
def cutB : AV → Str → Bool
  | .tup [.str y], z => decide (y = z)
  | _, _ => false
def bitB : AV → Bool
  | .tup [.str z, y] => decide (z = "bit") && wI y 46
  | _ => false
theorem upI_pw : ∀ {ns : List Int}, upI ns = true ↔ ns.Pairwise (· < ·)
  | [] => by simp [upI]
  | [a] => by simp [upI]
  | a :: b :: r => by
    simp only [upI, Bool.and_eq_true, decide_eq_true_eq, upI_pw (ns := b :: r)]
    constructor
    · rintro ⟨h1, h2⟩
      refine List.pairwise_cons.mpr ⟨fun z hz => ?_, h2⟩
      rcases List.mem_cons.mp hz with rfl | hz
      · exact h1
      · have := (List.pairwise_cons.mp h2).1 z hz; omega
    · intro h
      obtain ⟨h1, h2⟩ := List.pairwise_cons.mp h
      exact ⟨h1 b (by simp), h2⟩
theorem upI_zip : ∀ ns : List Int, upI ns = (ns.zip (ns.drop 1)).all fun p => decide (p.1 < p.2)
  | [] => rfl
  | [a] => rfl
  | a :: b :: r => by
    show (decide (a < b) && upI (b :: r)) = _
    rw [upI_zip (b :: r)]
    rfl
section
variable {S : List AV} {x : AV} {xs : List AV} {k n : Nat}
theorem x_risesA {ns : List Int} (hl : ns.length ≤ 1000) : m_rises [.lst false (ns.map AV.int)] S = .ok (.bl (upI ns)) S := by
  have ez : zipA [.lst false (ns.map AV.int), .lst false ((ns.map AV.int).drop 1)] = some ((ns.zip (ns.drop 1)).map fun p => AV.tup [.int p.1, .int p.2]) := by
    show some (zipL _ _) = _
    rw [← List.map_drop, zipL_ints]
  have es := sl_one false (ns.map AV.int)
  have zl : (ns.zip (ns.drop 1)).length ≤ 1000 := by simp; omega
  rw [upI_zip]
  generalize (ns.map AV.int).drop 1 = ys at es ez
  generalize ns.map AV.int = xs at es ez ⊢
  generalize ns.zip (ns.drop 1) = zs at ez zl
  refine wp_eq ?_
  unfold m_rises
  refine wpF ?_
  simp (implicitDefEqProofs := false) [-k_sSeq, Ss.wipe, -k_sTry, oPart, asI, es, ez, Ss.wipe, wipeSl]
  refine wpB (wpL (fun _ => true) (fun d => match d with
    | .tup [.int a, .int b] => .bl (decide (a < b))
    | _ => .non) (fun d hd => ?_) (by simp; omega) ?_)
  · obtain ⟨p, hp, rfl⟩ := List.mem_map.mp hd
    refine ⟨_, rfl, ?_⟩
    simp (implicitDefEqProofs := false) [-k_sSeq, Ss.wipe, -k_sTry, oLt, Ss.wipe, wipeSl]
  · have c1 : (((zs.map fun p => AV.tup [.int p.1, .int p.2]).filter fun _ => true).map fun d => (match d with
      | .tup [.int a, .int b] => AV.bl (decide (a < b))
      | _ => .non)) = (zs.map fun p => decide (p.1 < p.2)).map AV.bl := by
      rw [filter_tt, List.map_map, List.map_map]
      rfl
    rw [c1]
    have fa := fun S' => f_all S' false (zs.map fun p => decide (p.1 < p.2))
    have e2 : ((zs.map fun p => decide (p.1 < p.2)).all id) = zs.all fun p => decide (p.1 < p.2) := by rw [List.all_map]; rfl
    rw [e2] at fa
    generalize (zs.map fun p => decide (p.1 < p.2)).map AV.bl = L at fa ⊢
    simp (implicitDefEqProofs := false) [-k_sSeq, Ss.wipe, -k_sTry, fa]
/-- == with ("cut",), ("bad",) -/
theorem eq_t1' (h : Td k n x) (hk : k ≤ 50) (z : Str) (hz : PyData.strOk z = true) : oEq x (.tup [.str z]) = some (.bl (cutB x z)) := by
  have o1 := h.sh.okA (by omega)
  have o2 : okA (.tup [.str z]) = true := (sh_tup (shs_cons (sh_str (k := 0) hz) shs_nil)).okA (by omega)
  have e : eqA x (.tup [.str z]) = if okA x && okA (.tup [.str z]) then some (PyData.eqv (dat x) (dat (.tup [.str z]))) else none := by
    cases x <;> rfl
  unfold oEq
  rw [e, o1, o2]
  simp only [Bool.and_self, if_pos, Option.map_some]
  congr 2
  have g := h.g
  cases x with
  | tup xs =>
    match xs with
    | [] => simp [cutB, dat, dats, PyData.eqv, PyData.eqvAll]
    | [.str y] =>
      simp only [cutB, dat, dats, PyData.eqv, PyData.eqvAll, Bool.and_true]
      by_cases c : y = z
      · subst c; simp
      · simp [c]
    | [.non] => simp [cutB, dat, dats, PyData.eqv, PyData.eqvAll]
    | [.bl _] => simp [cutB, dat, dats, PyData.eqv, PyData.eqvAll]
    | [.int _] => simp [cutB, dat, dats, PyData.eqv, PyData.eqvAll]
    | [.tup _] => simp [cutB, dat, dats, PyData.eqv, PyData.eqvAll]
    | [.lst _ _] => simp [cutB, dat, dats, PyData.eqv, PyData.eqvAll]
    | a :: b :: r => cases a <;> simp [cutB, dat, dats, PyData.eqv, PyData.eqvAll]
    | [.dct _ _ _] => simp [gd, gds] at g
    | [.scr _] => simp [gd, gds] at g
    | [.nst _] => simp [gd, gds] at g
    | [.ndc _ _] => simp [gd, gds] at g
    | [.ins _ _ _] => simp [gd, gds] at g
    | [.loc _] => simp [gd, gds] at g
    | [.ded] => simp [gd, gds] at g
    | [.set _] => simp [gd, gds] at g
    | [.tud _] => simp [gd, gds] at g
  | _ => first | (simp [gd] at g; done) | simp [cutB, dat, dats, PyData.eqv]
theorem isFl_cut (h : cutB x "cut" = true ∨ cutB x "bad" = true) : isFl x = true := by
  unfold cutB at h
  split at h
  · rename_i y
    simpa [isFl] using h
  · simp at h
/-- what is no ("cut",), no ("bad",) -/
theorem isFl_2 (h1 : cutB x "cut" = false) (h2 : cutB x "bad" = false) : isFl x = bitB x := by
  cases x with
  | tup xs =>
    match xs with
    | [] => rfl
    | [a] =>
      cases a with
      | str y =>
        have h1' : decide (y = "cut") = false := h1
        have h2' : decide (y = "bad") = false := h2
        show (decide (y = "cut") || decide (y = "bad")) = false
        rw [h1', h2']
        rfl
      | _ => rfl
    | [a, b] => cases a <;> rfl
    | a :: b :: c :: r => cases a <;> rfl
  | _ => rfl
theorem sub47 : oSub (.int 47) (.int 1) = some (.int 46) := rfl
theorem x_is_faultA (h : Td k n x) (hk : k ≤ 50) : m_is_fault [x] S = .ok (.bl (isFl x)) S := by
  have ok := h.okT
  have im := h.imm
  have q1 := eq_t1' h hk "cut" (by decide +kernel)
  have q2 := eq_t1' h hk "bad" (by decide +kernel)
  cases c1 : cutB x "cut" with
  | true =>
    rw [c1] at q1
    rw [isFl_cut (.inl c1)]
    unfold m_is_fault
    rw [fnM_ret]
    simp (implicitDefEqProofs := false) [q1, asB]
  | false =>
    cases c2 : cutB x "bad" with
    | true =>
      rw [c1] at q1
      rw [c2] at q2
      rw [isFl_cut (.inr c2)]
      unfold m_is_fault
      rw [fnM_ret]
      simp (implicitDefEqProofs := false) [q1, q2, asB]
    | false =>
      rw [c1] at q1
      rw [c2] at q2
      rw [isFl_2 c1 c2]
      cases x with
      | tup xs =>
        obtain ⟨_, _, T⟩ := h.tup
        by_cases hl : xs.length = 2
        · obtain ⟨a, y, rfl⟩ : ∃ a b, xs = [a, b] := by
            match xs, hl with
            | [a, b], _ => exact ⟨a, b, rfl⟩
          have ta := T.mem a (by simp)
          have ty := T.mem y (by simp)
          have n2 : oNe (.int 2) (.int 2) = some (.bl false) := by kernel_rfl
          have lX : ∀ S', fLen S' [.tup [a, y]] = some (.int 2) := fun _ => rfl
          have i0 : ∀ S', ixA S' (.tup [a, y]) (.int 0) = some a := fun S' => ix_t S' _ 0
          have i1 : ∀ S', ixA S' (.tup [a, y]) (.int 1) = some y := fun S' => ix_t S' _ 1
          have ima := ta.imm
          have imy := ty.imm
          have oka := ta.okT
          have w := x_withinA (S := S) ty.okT 46
          have it : isT "tuple" (.tup [a, y]) = true := rfl
          by_cases hs : isT "str" a = true
          · obtain ⟨z, rfl⟩ : ∃ z, a = .str z := by
              cases a <;> first | exact ⟨_, rfl⟩ | (simp [isT] at hs)
            have nz := nes z "bit"
            have oks : okT (.str z) = true := rfl
            have eb : bitB (.tup [.str z, y]) = (decide (z = "bit") && wI y 46) := rfl
            rw [eb]
            unfold m_is_fault
            rw [fnM_ret]
            generalize AV.tup [.str z, y] = X at *
            cases c3 : decide (z = "bit") with
            | true =>
              rw [c3] at nz
              simp (implicitDefEqProofs := false) [q1, q2, ok, it, lX, n2, i0, i1, nz, asB, i_str, imy, sub47, w, oks]
            | false =>
              rw [c3] at nz
              simp (implicitDefEqProofs := false) [q1, q2, ok, it, lX, n2, i0, i1, nz, asB, i_str, imy, sub47, w, oks]
          · have hs' : isT "str" a = false := by simpa using hs
            have eb : bitB (.tup [a, y]) = false := by
              cases a <;> first | rfl | (simp [isT] at hs)
            rw [eb]
            unfold m_is_fault
            rw [fnM_ret]
            generalize AV.tup [a, y] = X at *
            simp (implicitDefEqProofs := false) [q1, q2, ok, it, lX, n2, i0, i1, asB, ima, oka, hs']
        · have ln := ln_tup xs
          have nl := nei xs.length 2
          rw [decide_eq_false (by omega)] at nl
          have it : isT "tuple" (.tup xs) = true := rfl
          have e : bitB (.tup xs) = false := by
            match xs, hl with
            | [], _ => rfl
            | [a], _ => cases a <;> rfl
            | [_, _], h => exact absurd rfl h
            | a :: _ :: _ :: _, _ => cases a <;> rfl
          rw [e]
          unfold m_is_fault
          rw [fnM_ret]
          generalize AV.tup xs = X at *
          simp (implicitDefEqProofs := false) [q1, q2, ok, it, ln, nl, asB]
      | _ =>
        first
          | (have := h.g; simp [gd] at this; done)
          | (unfold m_is_fault
             rw [fnM_ret]
             simp (implicitDefEqProofs := false) [q1, q2, okT, isT, asB, bitB])
end
end Fk
-- base: k09
/-! ## weathers known of anything, by the program and by the law -/
namespace Fk
open PySem PySem.Spec PyProof.Rows L2
theorem inA_eq (x a b : AV) (hx : okA x = true) (hab : okA (.tup [a, b]) = true) : oIn x (.tup [a, b]) = some (.bl (PyData.eqv (dat a) (dat x) || PyData.eqv (dat b) (dat x))) := by
  have e : inA x (.tup [a, b]) = if okA x && okA (.tup [a, b]) then some ((dats [a, b]).any fun w => PyData.eqv w (dat x)) else none := by
    cases x <;> rfl
  unfold oIn
  rw [e, hx, hab]
  simp [dats]
section
variable {S : List AV} {x : AV} {xs : List AV} {k n : Nat}
/-! rows -/
theorem isR2_of (h : Td k n x) : okT x = true ∧ imm x = true ∧ (isR2 x = true → ∃ a f, x = .tup [a, f] ∧ Td k n a ∧ Td k n f) ∧ (isR2 x = false → isT "tuple" x = false ∨ ∃ ys, x = .tup ys ∧ ys.length ≠ 2) := by
  refine ⟨h.okT, h.imm, fun e => ?_, fun e => ?_⟩
  · cases x with
    | tup ys =>
      match ys, e with
      | [a, f], _ =>
        obtain ⟨_, _, T⟩ := h.tup
        exact ⟨a, f, rfl, (T.mem a (by simp)).mono (by omega) (by omega), (T.mem f (by simp)).mono (by omega) (by omega)⟩
    | _ => cases e
  · cases x with
    | tup ys =>
      refine .inr ⟨ys, rfl, fun hl => ?_⟩
      match ys, hl with
      | [a, f], _ => cases e
    | _ => exact .inl rfl
def bR (p : AV → Bool) (x : AV) : AV := .bl (p x)
theorem all_bR (p : AV → Bool) (xs : List AV) (S : List AV) : fAll S [.lst false ((xs.filter fun _ => true).map (bR p))] = some (.bl (xs.all p)) := by
  have e : (xs.filter fun _ => true).map (bR p) = (xs.map p).map AV.bl := by
    rw [filter_tt, List.map_map]
    rfl
  rw [e, f_all, List.all_map]
  rfl
theorem isW_f1 (h : xs.all isR2 = false) : isW (.tup xs) = false := by
  show (decide (xs.length ≤ 40) && (xs.all rowW && _)) = false
  have : xs.all rowW = false := by
    rw [Bool.eq_false_iff]
    intro q
    rw [Bool.eq_false_iff] at h
    refine h (List.all_eq_true.mpr fun y hy => ?_)
    have := List.all_eq_true.mp q y hy
    unfold rowW at this
    exact (Bool.and_eq_true_iff.mp this).1
  rw [this, Bool.false_and, Bool.and_false]
def rowV (x : AV) : Bool := wI (r0 x) 9999 && isFl (r1 x)
theorem all_rowV (h : xs.all isR2 = true) : xs.all rowW = xs.all rowV := by
  rw [Bool.eq_iff_iff, List.all_eq_true, List.all_eq_true]
  have h2 := List.all_eq_true.mp h
  constructor
  · intro q y hy
    have := q y hy
    unfold rowW at this
    rw [h2 y hy, Bool.true_and] at this
    exact this
  · intro q y hy
    unfold rowW
    rw [h2 y hy, Bool.true_and]
    exact q y hy
theorem gt40 (n : Nat) : oGt (.int n) (.int 40) = some (.bl (!decide (n ≤ 40))) := by
  show some (AV.bl (decide ((40 : Int) < n))) = _
  congr 2
  by_cases h : n ≤ 40
  · simp [h]; omega
  · simp [h]; omega
theorem x_is_weatherA (h : Td k n x) (hk : k ≤ 50) : m_is_weather [x] S = .ok (.bl (isW x)) S := by
  have ok := h.okT
  have im := h.imm
  by_cases ht : isT "tuple" x = true
  · obtain ⟨xs, rfl⟩ : ∃ xs, x = .tup xs := by
      cases x <;> first | exact ⟨_, rfl⟩ | (simp [isT] at ht)
    obtain ⟨_, _, T⟩ := h.tup
    have ln := ln_tup xs
    have g := gt40 xs.length
    by_cases hl : xs.length ≤ 40
    rotate_left
    · rw [decide_eq_false hl] at g
      have e : isW (.tup xs) = false := by
        show (decide (xs.length ≤ 40) && _) = false
        rw [decide_eq_false hl, Bool.false_and]
      rw [e]
      unfold m_is_weather
      rw [fnM_ret]
      generalize AV.tup xs = X at *
      simp (implicitDefEqProofs := false) [ok, ht, ln, g, asB]
    rw [decide_eq_true hl] at g
    have hT : ∀ d ∈ xs, Td k n d := fun d hd => (T.mem d hd).mono (by omega) (by omega)
    have itm : itemsOf (.tup xs) = some xs := rfl
    have a1 := all_bR isR2 xs
    have a2 := all_bR rowV xs
    have n2 : oEq (.int 2) (.int 2) = some (.bl true) := by kernel_rfl
    refine wp_eq ?_
    unfold m_is_weather
    refine wpF ?_
    have eW : isW (.tup xs) = (decide (xs.length ≤ 40) && (xs.all rowW && upI (xs.map fun x => iv (r0 x)))) := rfl
    have eF := isW_f1 (xs := xs)
    generalize hX : AV.tup xs = X at ln itm ok ht im eW eF
    refine wpS ?_
    simp (implicitDefEqProofs := false) [-k_sSeq, Ss.wipe, -k_sTry, ok, ht, ln, g, asB]
    refine wpS ?_
    simp (implicitDefEqProofs := false) [-k_sSeq, Ss.wipe, -k_sTry, itm]
    refine wpB (wpL (fun _ => true) (bR isR2) (fun d hd => ?_) (by omega) ?_)
    · obtain ⟨okd, imd, h1, h2⟩ := isR2_of (hT d hd)
      refine ⟨_, rfl, ?_⟩
      cases c : isR2 d with
      | true =>
        obtain ⟨a, f, rfl, _, _⟩ := h1 c
        have lX : ∀ S', fLen S' [.tup [a, f]] = some (.int 2) := fun _ => rfl
        have it : isT "tuple" (.tup [a, f]) = true := rfl
        have eb : bR isR2 (.tup [a, f]) = .bl true := rfl
        rw [eb]
        generalize AV.tup [a, f] = Y at *
        simp (implicitDefEqProofs := false) [-k_sSeq, Ss.wipe, -k_sTry, okd, it, lX, n2, Ss.wipe, wipeSl, asB]
      | false =>
        have eb : bR isR2 d = .bl false := by unfold bR; rw [c]
        rw [eb]
        rcases h2 c with z | ⟨ys, rfl, hy⟩
        · simp (implicitDefEqProofs := false) [-k_sSeq, Ss.wipe, -k_sTry, okd, z, Ss.wipe, wipeSl, asB]
        · have ly := ln_tup ys
          have ny := eqi ys.length 2
          rw [decide_eq_false (by omega)] at ny
          have it : isT "tuple" (.tup ys) = true := rfl
          generalize AV.tup ys = Y at *
          simp (implicitDefEqProofs := false) [-k_sSeq, Ss.wipe, -k_sTry, okd, it, ly, ny, Ss.wipe, wipeSl, asB]
    generalize (xs.filter fun _ => true).map (bR isR2) = L1 at a1 ⊢
    cases cr : xs.all isR2 with
    | false =>
      rw [cr] at a1
      rw [eF cr]
      simp (implicitDefEqProofs := false) [-k_sSeq, Ss.wipe, -k_sTry, a1]
    | true =>
      rw [cr] at a1
      have hr := List.all_eq_true.mp cr
      rw [all_rowV cr, decide_eq_true hl, Bool.true_and] at eW
      simp (implicitDefEqProofs := false) [-k_sSeq, Ss.wipe, -k_sTry, a1]
      refine wpS ?_
      simp (implicitDefEqProofs := false) [-k_sSeq, Ss.wipe, -k_sTry, itm]
      refine wpB (wpL (fun _ => true) (bR rowV) (fun d hd => ?_) (by omega) ?_)
      · obtain ⟨okd, imd, h1, h2⟩ := isR2_of (hT d hd)
        obtain ⟨a, f, rfl, ta, tf⟩ := h1 (hr d hd)
        have w := x_withinA (S := S) ta.okT 9999
        have wf := x_is_faultA (S := S) tf hk
        have eb : bR rowV (.tup [a, f]) = .bl (wI a 9999 && isFl f) := rfl
        rw [eb]
        have ima := ta.imm
        have imf := tf.imm
        cases c1 : wI a 9999 with
        | true =>
          rw [c1] at w
          exact ⟨_, rfl, by simp (implicitDefEqProofs := false) [gT, gCons', gNil', gN, w, wf, ima, imf, Ss.wipe, wipeSl, asB]⟩
        | false =>
          rw [c1] at w
          exact ⟨_, rfl, by simp (implicitDefEqProofs := false) [gT, gCons', gNil', gN, w, wf, ima, imf, Ss.wipe, wipeSl, asB]⟩
      generalize (xs.filter fun _ => true).map (bR rowV) = L2 at a2 ⊢
      cases cv : xs.all rowV with
      | false =>
        rw [cv] at a2
        rw [cv, Bool.false_and] at eW
        rw [eW]
        simp (implicitDefEqProofs := false) [-k_sSeq, Ss.wipe, -k_sTry, a2]
      | true =>
        rw [cv] at a2
        rw [cv, Bool.true_and] at eW
        rw [eW]
        have hv := List.all_eq_true.mp cv
        have hi : ∀ d ∈ xs, r0 d = .int (iv (r0 d)) := fun d hd => by
          have := hv d hd
          unfold rowV at this
          exact wI_int (Bool.and_eq_true_iff.mp this).1
        have xr := x_risesA (S := S) (ns := xs.map fun x => iv (r0 x)) (by simp; omega)
        have em : (xs.filter fun _ => true).map r0 = (xs.map fun x => iv (r0 x)).map AV.int := by
          rw [filter_tt, List.map_map]
          exact List.map_congr_left fun d hd => hi d hd
        simp (implicitDefEqProofs := false) [-k_sSeq, Ss.wipe, -k_sTry, a2, itm]
        refine wpB (wpL (fun _ => true) r0 (fun d hd => ?_) (by omega) ?_)
        · obtain ⟨okd, imd, h1, h2⟩ := isR2_of (hT d hd)
          obtain ⟨a, f, rfl, ta, tf⟩ := h1 (hr d hd)
          have ima := ta.imm
          exact ⟨_, rfl, by simp (implicitDefEqProofs := false) [gT, gCons', gNil', gN, ima, Ss.wipe, wipeSl, r0]⟩
        · rw [em]
          generalize (xs.map fun x => iv (r0 x)).map AV.int = L3 at xr ⊢
          simp (implicitDefEqProofs := false) [-k_sSeq, Ss.wipe, -k_sTry, xr]
  · have ht' : isT "tuple" x = false := by simpa using ht
    have e : isW x = false := by
      cases x <;> first | rfl | (simp [isT] at ht)
    rw [e]
    unfold m_is_weather
    rw [fnM_ret]
    simp (implicitDefEqProofs := false) [ok, ht', asB]
end
end Fk
-- base: k09
/-! ## weathers known of anything, by the law -/
namespace Fk
open PySem PySem.Spec PyProof.Rows L2
section
variable {S : List AV} {x : AV} {xs : List AV} {k n : Nat}
end
end Fk
-- base: k09
/-! ## law k09 -/
namespace Fk
open PySem PySem.Spec PyProof.Rows L2
theorem tds_all {k n : Nat} : ∀ {xs : List AV}, (∀ x ∈ xs, Td k n x) → Tds k (xs.length * (n + 2)) xs
  | [], _ => (Tds.nil : Tds k 0 []).mono (Nat.le_refl _) (Nat.zero_le _)
  | x :: xs, h => (Tds.cons (h x (by simp)) (tds_all fun y hy => h y (by simp [hy]))).mono (by omega) (by rw [List.length_cons, Nat.add_mul]; omega)
theorem td_int9 {i : Int} (h : i.natAbs < 2 ^ 128) : Td 0 129 (.int i) := ⟨by simpa [gd] using h, by simp [dpt], by simp [wt]⟩
theorem td_flt {f : Flt} (h : okFt f) : Td 1 208 f.av := by
  cases f with
  | fine => exact h.elim
  | cut => exact tdB_ok (by decide +kernel)
  | bad => exact tdB_ok (by decide +kernel)
  | bit i =>
    have hi : i ≤ 46 := h
    exact ((Tds.cons (tdB_ok (k := 0) (n := 72) (by decide +kernel)) (Tds.cons (td_int9 (i := (i : Int)) (by omega)) Tds.nil)).tup).mono (by omega) (by omega)
theorem td_wAs {ws : List (Nat × Flt)} (h : okW ws) : Td 3 17000 (.tup (wAs ws)) := by
  have a : ∀ x ∈ wAs ws, Td 2 344 x := fun x hx => by
    obtain ⟨p, hp, rfl⟩ := List.mem_map.mp hx
    obtain ⟨h1, h2⟩ := h.each p hp
    exact ((Tds.cons ((td_int9 (i := (p.1 : Int)) (by omega)).mono (k' := 1) (by omega) (Nat.le_refl _)) (Tds.cons (td_flt h2) Tds.nil)).tup).mono (by omega) (by omega)
  have l : (wAs ws).length = ws.length := by simp [wAs]
  have := h.len
  exact (tds_all a).tup.mono (by omega) (by omega)
structure okB9 (ps : List (Nat × Flt)) : Prop where
  nd : (ps.map (·.1)).Nodup
  each : ∀ p ∈ ps, p.1 ≤ 9999 ∧ okFt p.2
theorem okB9.put {ps : List (Nat × Flt)} (h : okB9 ps) {k : Nat} {f : Flt} (hk : k ≤ 9999) (hf : okFt f) : okB9 (upN ps k f) := ⟨nd_upN _ _ _ h.nd, fun q hq => (mem_upN hq).elim (fun z => by rw [z]; exact ⟨hk, hf⟩) (h.each q)⟩
theorem okB9.w {ps : List (Nat × Flt)} (h : okB9 ps) (hn : ps.length ≤ 40) : okW (srN ps) := ⟨by rw [srN_len]; exact hn, fun p hp => h.each p (srN_mem hp), srN_rise _ h.nd⟩
def flM (ps : List (Nat × Flt)) : AV := .dct true (dk ps) (dv Flt.av ps)
section
variable {S : List AV} {l : Nat} {Q : AV → List AV → Prop} {E : Str → List AV → Prop}
theorem ix_flM (ps : List (Nat × Flt)) {k : Nat} {f : Flt} (h : lkN ps k = some f) : ixA S (flM ps) (.int k) = some f.av := by
  simp [ixA, flM, deref, itA, seqA, dicA, keyA, get_dk, h]
theorem srt_flM {ps : List (Nat × Flt)} (h : ps.length < 64) : fL true fSrt2 S [flM ps] = some (.lst true ((srtI (ps.map fun p => (p.1 : Int))).map .int)) := by
  simp [fL, fSrt2, fSrt, flM, keysI_dk, h]
theorem pick9 {r : Nat} (h : r < 4) (a : Nat) (ha : a ≤ 46) : ∃ f : Flt, ([.tup [.str "cut"], .tup [.str "bad"], .tup [.str "bit", .int a], .tup [.str "bit", .int 46]] : List AV)[r]? = some f.av ∧ okFt f := by
  have : r = 0 ∨ r = 1 ∨ r = 2 ∨ r = 3 := by omega
  rcases this with rfl | rfl | rfl | rfl
  · exact ⟨.cut, rfl, trivial⟩
  · exact ⟨.bad, rfl, trivial⟩
  · exact ⟨.bit a, rfl, ha⟩
  · exact ⟨.bit 46, rfl, Nat.le_refl _⟩
end
end Fk
-- base: k60
/-! ## texts walked: shapes, numbers -/
namespace Fk
open PySem PySem.Spec PyProof.Rows L2
@[simp] theorem k_eTz (ma : M (List AV)) (r0 : List Sl) (s0 : List AV) : eTz ma (Ss.mk r0 s0) = (ma (Ss.mk r0 s0)).bind fun ds s1 => ofO (fTz ds) s1 := id rfl
@[simp] theorem k_eJs0 (acc : Str) (r0 : List Sl) (s0 : List AV) : eJs [] acc (Ss.mk r0 s0) = .ok (.str acc) (Ss.mk r0 s0) := id rfl
theorem wpLX {α : Type} {e : α → AV} {t : Tg} {tt : M Bool} {te : M AV} {vs : List Nat} {st : Ss} {Q : List AV → Ss → Prop} {E : Str → Ss → Prop} {xs : List α} (g : α → AV)
    (h : ∀ x ∈ xs, ∃ s0, t (e x) st = some s0 ∧ WpR (tt s0) (fun b s1 => b = true ∧ WpR (te s1) (fun y s2 => y = g x ∧ s2.wipe vs = st) noE) noE)
    (hl : xs.length ≤ 16777216) (hQ : Q (xs.map g) st) : WpR (compM t tt te vs (xs.map e) [] st) Q E := by
  have key : ∀ (xs : List α) (acc : List AV), (∀ x ∈ xs, ∃ s0, t (e x) st = some s0 ∧ WpR (tt s0) (fun b s1 => b = true ∧ WpR (te s1) (fun y s2 => y = g x ∧ s2.wipe vs = st) noE) noE) →
      acc.length + xs.length ≤ 16777216 → compM t tt te vs (xs.map e) acc st = .ok (acc ++ xs.map g) st := by
    intro xs
    induction xs with
    | nil => intro acc _ _; simp [compM]
    | cons d ds ih =>
      intro acc h hl
      have hl2 : acc.length + (ds.length + 1) ≤ 16777216 := hl
      obtain ⟨s0, e1, w⟩ := h d (by simp)
      obtain ⟨b, s1, e2, rfl, h4⟩ := wp_ex w
      rw [List.map_cons]
      unfold compM
      rw [e1]
      simp only [e2]
      obtain ⟨x, s2, e5, rfl, e6⟩ := wp_ex h4
      simp only [e5]
      rw [if_pos (by omega), e6, ih (acc ++ [g d]) (fun d hd => h d (by simp [hd])) (by simp; omega)]
      simp
  rw [key xs [] h (by simpa using hl)]
  exact ⟨hQ⟩
theorem leN (a b : Nat) : oLe (.int a) (.int b) = some (.bl (decide (a ≤ b))) := by
  by_cases h : a ≤ b
  · have : (a : Int) ≤ b := by omega
    simp [oLe, h]
  · have : ¬ (a : Int) ≤ b := by omega
    simp [oLe, h]
theorem eqN (a b : Nat) : oEq (.int a) (.int b) = some (.bl (decide (a = b))) := by
  rw [eqi]
  congr 2
  by_cases h : a = b
  · subst h; simp
  · rw [decide_eq_false h, decide_eq_false (by omega)]
theorem neN (a b : Nat) : oNe (.int a) (.int b) = some (.bl (!decide (a = b))) := by
  rw [nei]
  congr 3
  by_cases h : a = b
  · subst h; simp
  · rw [decide_eq_false h, decide_eq_false (by omega)]
theorem lnT (S : List AV) (xs : List AV) : fLen S [.tup xs] = some (.int xs.length) := by simp [fLen, deref, lenA]
theorem lnL (S : List AV) (o : Bool) (xs : List AV) : fLen S [.lst o xs] = some (.int xs.length) := by simp [fLen, deref, lenA]
theorem lnS (S : List AV) {z : Str} (h : z.length ≤ 1000000) : fLen S [.str z] = some (.int z.length) := by
  have : z.length ≤ 16777216 := by omega
  simp [fLen, deref, lenA, this]
/-! flat things are known -/
theorem strOk_iff {z : Str} : PyData.strOk z = true ↔ ∀ c ∈ TL.tl z, c < 0x110000 := by
  unfold PyData.strOk
  rw [← Array.all_toList, List.all_eq_true]
  constructor
  · intro h c hc; exact of_decide_eq_true (h c hc)
  · intro h c hc; exact decide_eq_true (h c hc)
theorem td_strX {z : Str} (h : PyData.strOk z = true) : Td 0 (10 * z.length + 2) (.str z) := ⟨by simpa [gd] using h, by simp [dpt], by simp [wt]⟩
theorem td_nat {n : Nat} (h : n < 1000000000) : Td 0 129 (iA n) := td_int9 (i := (n : Int)) (by omega)
theorem td_nats {ns : List Nat} (h : ∀ n ∈ ns, n < 1000000000) : Tds 0 (ns.length * 131) (ns.map iA) := by
  have := tds_all (k := 0) (n := 129) (xs := ns.map iA) fun x hx => by
    obtain ⟨n, hn, rfl⟩ := List.mem_map.mp hx
    exact td_nat (h n hn)
  simpa using this
theorem ne_nilT {a : AV} {xs : List AV} {k n : Nat} (h : Td k n (.tup (a :: xs))) (hk : k ≤ 50) : oEq (.tup (a :: xs)) (.tup []) = some (.bl false) := by
  have o1 := h.sh.okA (by omega)
  have e : oEq (.tup (a :: xs)) (.tup []) = (if okA (.tup (a :: xs)) && okA (.tup []) then some (PyData.eqv (dat (.tup (a :: xs))) (dat (.tup []))) else none).map AV.bl := rfl
  have o2 : okA (.tup []) = true := rfl
  rw [e, o1, o2]
  simp [dat, dats, PyData.eqv, PyData.eqvAll]
theorem eq_nilL {xs : List AV} {k n : Nat} (h : Td k n (.lst false xs)) (hk : k ≤ 50) : oEq (.lst false xs) (.lst false []) = some (.bl (decide (xs = []))) := by
  have o1 := h.sh.okA (by omega)
  have e : oEq (.lst false xs) (.lst false []) = (if okA (.lst false xs) && okA (.lst false []) then some (PyData.eqv (dat (.lst false xs)) (dat (.lst false []))) else none).map AV.bl := rfl
  have o2 : okA (.lst false []) = true := rfl
  rw [e, o1, o2]
  cases xs <;> simp [dat, dats, PyData.eqv, PyData.eqvAll]
theorem in2 {z : Str} (h : PyData.strOk z = true) (a b : Str) (ha : PyData.strOk a = true) (hb : PyData.strOk b = true) : oIn (.str z) (.tup [.str a, .str b]) = some (.bl (decide (z = a) || decide (z = b))) := by
  have o1 := (td_strX h).sh.okA (by omega)
  have o2 : okA (.tup [.str a, .str b]) = true := (Tds.cons (td_strX ha) (Tds.cons (td_strX hb) Tds.nil)).tup.sh.okA (by omega)
  rw [inA_eq _ _ _ o1 o2]
  have e1 : ∀ w : Str, PyData.eqv (dat (.str w)) (dat (.str z)) = decide (z = w) := fun w => by
    by_cases h : z = w
    · subst h; simp [dat, PyData.eqv]
    · have h2 : ¬ w = z := fun e => h e.symm
      simp [dat, PyData.eqv, h, h2]
  rw [e1, e1]
theorem sl_oneT (xs : List AV) : slA (.tup xs) (some 1) none = some (.tup (xs.drop 1)) := by
  have := sl_one false xs
  have e : slA (.lst false xs) (some 1) none = some (.lst false (cutA xs (some 1) none)) := rfl
  rw [e] at this
  have e2 : cutA xs (some 1) none = xs.drop 1 := by simpa using this
  show some (AV.tup (cutA xs (some 1) none)) = _
  rw [e2]
section
variable {S : List AV}
theorem x_placeX (n : Nat) : m_is_place [.int n] S = .ok (.bl (decide (n ≤ 15))) S := by
  have w := x_is_within (S := S) (a := (n : Int)) (lo := 0) (hi := 15)
  have e : (decide ((0 : Int) ≤ n) && decide ((n : Int) ≤ 15)) = decide (n ≤ 15) := by
    by_cases c : n ≤ 15
    · rw [decide_eq_true c, decide_eq_true (by omega), decide_eq_true (by omega)]; rfl
    · rw [decide_eq_false c, decide_eq_false (show ¬ (n : Int) ≤ 15 by omega), Bool.and_false]
  rw [e] at w
  unfold m_is_place
  rw [fnM_ret]
  simp (implicitDefEqProofs := false) [w]
theorem x_dataX (n : Nat) : m_is_within [.int n, .int 0, .int 63] S = .ok (.bl (decide (n ≤ 63))) S := by
  have w := x_is_within (S := S) (a := (n : Int)) (lo := 0) (hi := 63)
  have e : (decide ((0 : Int) ≤ n) && decide ((n : Int) ≤ 63)) = decide (n ≤ 63) := by
    by_cases c : n ≤ 63
    · rw [decide_eq_true c, decide_eq_true (by omega), decide_eq_true (by omega)]; rfl
    · rw [decide_eq_false c, decide_eq_false (show ¬ (n : Int) ≤ 63 by omega), Bool.and_false]
  rw [e] at w
  exact w
def rowB : List Nat → Bool
  | [p, d] => decide (p ≤ 15) && decide (d ≤ 63)
  | _ => false
theorem rowB_no {ns : List Nat} (h : ¬ ns.length = 2) : rowB ns = false := by
  match ns, h with
  | [], _ => rfl
  | [_], _ => rfl
  | [_, _], h => exact absurd rfl h
  | _ :: _ :: _ :: _, _ => rfl
theorem x_rowX (ns : List Nat) : m_is_row [.tup (ns.map iA)] S = .ok (.bl (rowB ns)) S := by
  have ln := fun S' => lnT S' (ns.map iA)
  rw [List.length_map] at ln
  have n2 := neN ns.length 2
  have e2 : ((2 : Nat) : Int) = 2 := rfl
  rw [e2] at n2
  by_cases h : ns.length = 2
  · rw [decide_eq_true h] at n2
    obtain ⟨p, d, rfl⟩ : ∃ p d, ns = [p, d] := by
      match ns, h with
      | [a, b], _ => exact ⟨a, b, rfl⟩
    have t0 : ∀ S', ixA S' (.tup ([p, d].map iA)) (.int 0) = some (.int p) := fun S' => ix_t S' _ 0
    have t1 : ∀ S', ixA S' (.tup ([p, d].map iA)) (.int 1) = some (.int d) := fun S' => ix_t S' _ 1
    have w0 := x_placeX (S := S) p
    have w1 := x_dataX (S := S) d
    have to : okT (.tup ([p, d].map iA)) = true := rfl
    have ti : isT "tuple" (.tup ([p, d].map iA)) = true := rfl
    have rb : rowB [p, d] = (decide (p ≤ 15) && decide (d ≤ 63)) := rfl
    rw [rb]
    generalize decide (p ≤ 15) = b1 at w0 ⊢
    generalize decide (d ≤ 63) = b2 at w1 ⊢
    generalize AV.tup ([p, d].map iA) = Z at ln t0 t1 to ti ⊢
    generalize [p, d].length = L at ln n2
    unfold m_is_row
    rw [fnM_ret]
    cases b1 <;> simp (implicitDefEqProofs := false) [to, ti, ln, n2, t0, t1, w0, w1, asB]
  · rw [decide_eq_false h] at n2
    rw [rowB_no h]
    have to : okT (.tup (ns.map iA)) = true := rfl
    have ti : isT "tuple" (.tup (ns.map iA)) = true := rfl
    generalize AV.tup (ns.map iA) = Z at ln to ti ⊢
    unfold m_is_row
    rw [fnM_ret]
    simp (implicitDefEqProofs := false) [to, ti, ln, n2, asB]
/-! rows -/
def addAll : List Int → List (Nat × Nat) → List Int
  | ks, [] => ks
  | ks, r :: rs => addAll (addK ks (r.1 : Int)) rs
theorem addAll_len : ∀ (rs : List (Nat × Nat)) (ks : List Int), (addAll ks rs).length ≤ ks.length + rs.length ∧ ((addAll ks rs).length = ks.length + rs.length ↔ (rs.map (·.1)).Nodup ∧ ∀ r ∈ rs, (r.1 : Int) ∉ ks)
  | [], ks => by simp [addAll]
  | r :: rs, ks => by
    unfold addAll
    by_cases h : (r.1 : Int) ∈ ks
    · have e : addK ks (r.1 : Int) = ks := by unfold addK; rw [if_pos h]
      rw [e]
      obtain ⟨h1, h2⟩ := addAll_len rs ks
      refine ⟨by simp; omega, ⟨fun z => by simp at z; omega, fun z => absurd h (z.2 r (by simp))⟩⟩
    · have e : addK ks (r.1 : Int) = ks ++ [(r.1 : Int)] := by unfold addK; rw [if_neg h]
      rw [e]
      obtain ⟨h1, h2⟩ := addAll_len rs (ks ++ [(r.1 : Int)])
      have e3 : (ks ++ [(r.1 : Int)]).length + rs.length = ks.length + (r :: rs).length := by simp; omega
      rw [e3] at h1 h2
      refine ⟨h1, h2.trans ?_⟩
      simp only [List.map_cons, List.nodup_cons, List.mem_map, List.mem_cons, forall_eq_or_imp, List.mem_append, List.mem_singleton, not_or, not_exists, not_and]
      constructor
      · rintro ⟨a, b⟩
        exact ⟨⟨fun x hx e => (b x hx).2.1 (by omega), a⟩, h, fun x hx => (b x hx).1⟩
      · rintro ⟨⟨a, b⟩, c, d⟩
        exact ⟨b, fun x hx => ⟨d x hx, fun e => a x hx (by omega), List.not_mem_nil⟩⟩
theorem compS_X : ∀ (rows : List (Nat × Nat)) (ks : List Int), ks.length + rows.length ≤ 900 → ∀ (A B : Sl), compS (gT 2 (gCons' (gN 2) (gCons' (gN 3) gNil'))) tTrue (eVar 2) [2, 3] (rows.map rwX) ks ⟨[A, B, .no, .no], S⟩ = .ok (addAll ks rows) ⟨[A, B, .no, .no], S⟩
  | [], ks, _, A, B => by simp [compS, addAll]
  | x :: xs, ks, hl, A, B => by
    have hl2 : ks.length < 1000 := by simp at hl; omega
    have la : (addK ks (x.1 : Int)).length ≤ ks.length + 1 := by
      unfold addK
      split <;> simp
    have ih := compS_X xs (addK ks (x.1 : Int)) (by simp at hl; omega) A B
    rw [List.map_cons]
    unfold compS
    have e1 : gT 2 (gCons' (gN 2) (gCons' (gN 3) gNil')) (rwX x) ⟨[A, B, .no, .no], S⟩ = some ⟨[A, B, .im (.int x.1), .im (.int x.2)], S⟩ := rfl
    have e2 : (tTrue : M Bool) ⟨[A, B, .im (.int x.1), .im (.int x.2)], S⟩ = .ok true ⟨[A, B, .im (.int x.1), .im (.int x.2)], S⟩ := rfl
    have e3 : eVar 2 ⟨[A, B, .im (.int x.1), .im (.int x.2)], S⟩ = .ok (.int x.1) ⟨[A, B, .im (.int x.1), .im (.int x.2)], S⟩ := rfl
    have e4 : (⟨[A, B, .im (.int x.1), .im (.int x.2)], S⟩ : Ss).wipe [2, 3] = ⟨[A, B, .no, .no], S⟩ := rfl
    simp only [e1, e2, e3, e4, ih, if_pos hl2, addAll]
def rowsB (rows : List (Nat × Nat)) : Bool := (decide (1 ≤ rows.length) && decide (rows.length ≤ 4)) && ((rows.all fun r => rowB [r.1, r.2]) && decide ((addAll [] rows).length = rows.length))
theorem rowsB_iff {rows : List (Nat × Nat)} : rowsB rows = true ↔ okRX rows := by
  have h := (addAll_len rows []).2
  simp only [List.length_nil, Nat.zero_add, List.not_mem_nil, not_false_eq_true, implies_true, and_true] at h
  simp only [rowsB, Bool.and_eq_true, decide_eq_true_eq, List.all_eq_true, rowB, h]
  constructor
  · rintro ⟨⟨a, b⟩, c, d⟩
    exact ⟨a, b, c, d⟩
  · rintro ⟨a, b, c, d⟩
    exact ⟨⟨a, b⟩, c, d⟩
theorem x_rowsX (rows : List (Nat × Nat)) : m_are_rows [.tup (rows.map rwX)] S = .ok (.bl (rowsB rows)) S := by
  have ln := fun S' => lnT S' (rows.map rwX)
  rw [List.length_map] at ln
  have it : itemsOf (.tup (rows.map rwX)) = some (rows.map rwX) := rfl
  have to : okT (.tup (rows.map rwX)) = true := rfl
  have ti : isT "tuple" (.tup (rows.map rwX)) = true := rfl
  have l1 := leN 1 rows.length
  have l4 := leN rows.length 4
  have e1 : ((1 : Nat) : Int) = 1 := rfl
  have e4 : ((4 : Nat) : Int) = 4 := rfl
  rw [e1] at l1
  rw [e4] at l4
  refine wp_eq ?_
  unfold m_are_rows
  refine wpF ?_
  by_cases c1 : 1 ≤ rows.length
  · rw [decide_eq_true c1] at l1
    by_cases c4 : rows.length ≤ 4
    · rw [decide_eq_true c4] at l4
      have xr : ∀ x ∈ rows, m_is_row [rwX x] S = .ok (.bl (rowB [x.1, x.2])) S := fun x hx => x_rowX (S := S) [x.1, x.2]
      have cs := compS_X (S := S) rows [] (by simp; omega)
      have eq := eqN (addAll [] rows).length rows.length
      have lk : (addAll [] rows).length < 1000 := by
        have := (addAll_len rows []).1
        simp at this
        omega
      have fa := f_all S false (rows.map fun r => rowB [r.1, r.2])
      have e5 : (rows.map fun r => rowB [r.1, r.2]).all id = rows.all fun r => rowB [r.1, r.2] := by rw [List.all_map]; rfl
      rw [e5, List.map_map] at fa
      have rb : rowsB rows = ((rows.all fun r => rowB [r.1, r.2]) && decide ((addAll [] rows).length = rows.length)) := by
        unfold rowsB
        rw [decide_eq_true c1, decide_eq_true c4]
        rfl
      rw [rb]
      generalize hT : AV.tup (rows.map rwX) = T at ln it to ti
      refine wpS ?_
      simp (implicitDefEqProofs := false) [-k_sSeq, Ss.wipe, -k_sTry, to, ti, ln, l1, l4]
      simp (implicitDefEqProofs := false) [-k_sSeq, Ss.wipe, -k_sTry, it]
      refine wpB (wpLX (fun r => .bl (rowB [r.1, r.2])) (fun x hx => ?_) (by omega) ?_)
      · refine ⟨_, rfl, ?_⟩
        simp (implicitDefEqProofs := false) [-k_sSeq, Ss.wipe, -k_sTry, xr x hx]
      have fa2 : fAll S [.lst false (rows.map fun r => AV.bl (rowB [r.1, r.2]))] = some (.bl (rows.all fun r => rowB [r.1, r.2])) := fa
      generalize rows.all (fun r => rowB [r.1, r.2]) = ba at fa2 ⊢
      generalize rows.map (fun r => AV.bl (rowB [r.1, r.2])) = BB at fa2 ⊢
      cases ba with
      | false => simp (implicitDefEqProofs := false) [-k_sSeq, Ss.wipe, -k_sTry, fa2]
      | true => simp (implicitDefEqProofs := false) [-k_sSeq, Ss.wipe, -k_sTry, fa2, it, cs, eq, ln, lk]
    · rw [decide_eq_false c4] at l4
      have rb : rowsB rows = false := by
        unfold rowsB
        rw [decide_eq_false c4, Bool.and_false, Bool.false_and]
      rw [rb]
      generalize AV.tup (rows.map rwX) = T at ln it to ti
      refine wpS ?_
      simp (implicitDefEqProofs := false) [-k_sSeq, Ss.wipe, -k_sTry, to, ti, ln, l1, l4]
  · rw [decide_eq_false c1] at l1
    have rb : rowsB rows = false := by
      unfold rowsB
      rw [decide_eq_false c1, Bool.false_and, Bool.false_and]
    rw [rb]
    generalize AV.tup (rows.map rwX) = T at ln it to ti
    refine wpS ?_
    simp (implicitDefEqProofs := false) [-k_sSeq, Ss.wipe, -k_sTry, to, ti, ln, l1]
end
end Fk
-- base: k60
/-! ## texts walked: numbers, orders read -/
namespace Fk
open PySem PySem.Spec PyProof.Rows L2
theorem numL_big : ∀ (k n : Nat), 10 ^ k ≤ n → k < (TL.numL n).length
  | 0, n, _ => List.length_pos_iff.mpr (TL.numL_ne n)
  | k + 1, n, h => by
    have h10 : 10 ≤ n := by
      have : 10 ^ 1 ≤ 10 ^ (k + 1) := Nat.pow_le_pow_right (by omega) (by omega)
      omega
    rw [TL.numL_step h10, List.length_append]
    have := numL_big k (n / 10) (by
      rw [Nat.le_div_iff_mul_le (by omega), ← Nat.pow_succ]
      exact h)
    simp
    exact this
theorem nTx_lt {n : Nat} (h : (nTx n).length ≤ 9) : n < 1000000000 := by
  rw [nTx_len] at h
  rcases Nat.lt_or_ge n 1000000000 with c | c
  · exact c
  · have := numL_big 9 n (by omega)
    omega
theorem numA_lt {z : Str} {n : Nat} (h : numA z = some n) : n < 1000000000 := by
  obtain ⟨h1, h2⟩ := numA_iff.mp h
  exact nTx_lt (by rw [← h1]; exact h2)
theorem numsA_lt {ws : List Str} {ns : List Nat} (h : numsA ws = some ns) : ∀ n ∈ ns, n < 1000000000 := fun n hn => by
  obtain ⟨h1, h2⟩ := numsA_iff.mp h
  exact nTx_lt (h2 _ (by rw [h1]; exact List.mem_map.mpr ⟨n, hn, rfl⟩))
def oNA : Option Nat → AV
  | none => .non
  | some n => .int n
def digB (c : Nat) : Bool := decide (48 ≤ c) && decide (c ≤ 57)
theorem tl_figs : TL.tl ("0123456789" : Str) = [48, 49, 50, 51, 52, 53, 54, 55, 56, 57] := by kernel_rfl
theorem inD (c : Nat) : oInS (.str ⟨#[c]⟩) (.str "0123456789") = some (.bl (digB c)) := by
  have e : oInS (.str ⟨#[c]⟩) (.str "0123456789") = some (.bl (decide (c ∈ TL.tl ("0123456789" : Str)))) := rfl
  rw [e, tl_figs]
  congr 2
  rw [Bool.eq_iff_iff]
  simp [digB]
  omega
theorem dig_all {z : Str} : (TL.tl z).all digB = true ↔ NumText.AllDigits (TL.tl z) := by
  rw [List.all_eq_true]
  constructor
  · intro h c hc
    have := h c hc
    simpa [digB] using this
  · intro h c hc
    have := h c hc
    simpa [digB] using this
theorem tl_0 : TL.tl ("0" : Str) = [48] := by kernel_rfl
section
variable {S : List AV}
theorem x_numberX {z : Str} (hz : z.length ≤ 1000000) : m_number_in [.str z] S = .ok (oNA (numA z)) S := by
  have ln := fun S' => lnS S' hz
  have l1 := leN 1 z.length
  have l9 := leN z.length 9
  have e1 : ((1 : Nat) : Int) = 1 := rfl
  have e9 : ((9 : Nat) : Int) = 9 := rfl
  rw [e1] at l1
  rw [e9] at l9
  have it : itemsS (.str z) = some ((TL.tl z).map fun c => .str ⟨#[c]⟩) := rfl
  refine wp_eq ?_
  unfold m_number_in
  refine wpF ?_
  by_cases c1 : 1 ≤ z.length
  · rw [decide_eq_true c1] at l1
    by_cases c9 : z.length ≤ 9
    · rw [decide_eq_true c9] at l9
      have fa := f_all S false ((TL.tl z).map digB)
      have ea : ((TL.tl z).map digB).all id = (TL.tl z).all digB := by rw [List.all_map]; rfl
      rw [ea, List.map_map] at fa
      have fa2 : fAll S [.lst false ((TL.tl z).map fun c => AV.bl (digB c))] = some (.bl ((TL.tl z).all digB)) := fa
      have tl9 : (TL.tl z).length ≤ 9 := by rw [← TL.len_tl]; exact c9
      refine wpS ?_
      simp (implicitDefEqProofs := false) [-k_sSeq, Ss.wipe, -k_sTry, ln, l1, l9, it]
      refine wpB (wpLX (fun c => .bl (digB c)) (fun c hc => ?_) (by omega) ?_)
      · refine ⟨_, rfl, ?_⟩
        simp (implicitDefEqProofs := false) [-k_sSeq, Ss.wipe, -k_sTry, inD]
      cases hd : (TL.tl z).all digB with
      | false =>
        rw [hd] at fa2
        have en : numA z = none := numA_dig fun h => by
          rw [dig_all.mpr h] at hd
          cases hd
        rw [en]
        generalize (TL.tl z).map (fun c => AV.bl (digB c)) = BB at fa2 ⊢
        simp (implicitDefEqProofs := false) [-k_sSeq, Ss.wipe, -k_sTry, fa2, oNA]
      | true =>
        rw [hd] at fa2
        have had := dig_all.mp hd
        obtain ⟨c, r, er⟩ : ∃ c r, TL.tl z = c :: r := by
          cases h : TL.tl z with
          | nil => rw [TL.len_tl, h] at c1; simp at c1
          | cons c r => exact ⟨c, r, rfl⟩
        have i0 : ∀ S', ixA S' (.str z) (.int 0) = some (.str ⟨#[c]⟩) := fun S' => by
          have h1 : z.length ≤ 16777216 := by omega
          have h2 : z.cps.toList = c :: r := er
          have a0 : atI (c :: r) 0 = some c := atI_nat (xs := c :: r) (k := 0)
          simp [ixA, deref, itA, seqA, dicA, h1, h2, a0]
        have n0 := nes ⟨#[c]⟩ "0"
        have q0 := eqs z "0"
        have d0 : decide ((⟨#[c]⟩ : Str) = "0") = decide (c = 48) := by
          rw [Bool.eq_iff_iff, decide_eq_true_eq, decide_eq_true_eq]
          constructor
          · intro e
            have := congrArg TL.tl e
            rw [tl_0] at this
            simpa [TL.tl] using this
          · rintro rfl
            exact TL.ext_tl (by rw [tl_0])
        rw [d0] at n0
        generalize (TL.tl z).map (fun c => AV.bl (digB c)) = BB at fa2 ⊢
        by_cases h48 : c = 48
        · rw [decide_eq_true h48] at n0
          by_cases hz0 : z = "0"
          · rw [decide_eq_true hz0] at q0
            obtain ⟨n, en, ez⟩ := numA_yes (z := z) c1 c9 had (.inr (by rw [hz0, tl_0]))
            have fi : fIntS S [.str z] = some (.int n) := by
              have h640 : z.length ≤ 640 := by omega
              have hi : PySem.intText? z = some (n : Int) := by
                rw [ez]
                exact TL.int_num (by rw [← nTx_len, ← ez]; omega)
              simp [fIntS, h640, hi]
            rw [en]
            simp (implicitDefEqProofs := false) [-k_sSeq, Ss.wipe, -k_sTry, fa2, i0, n0, q0, fi, oNA]
          · rw [decide_eq_false hz0] at q0
            have en : numA z = none := numA_nul (by rw [er, h48]; rfl) fun e => hz0 (TL.ext_tl (by rw [e, tl_0]))
            rw [en]
            simp (implicitDefEqProofs := false) [-k_sSeq, Ss.wipe, -k_sTry, fa2, i0, n0, q0, oNA]
        · rw [decide_eq_false h48] at n0
          obtain ⟨n, en, ez⟩ := numA_yes (z := z) c1 c9 had (.inl (by rw [er]; simpa using h48))
          have fi : fIntS S [.str z] = some (.int n) := by
            have h640 : z.length ≤ 640 := by omega
            have hi : PySem.intText? z = some (n : Int) := by
              rw [ez]
              exact TL.int_num (by rw [← nTx_len, ← ez]; omega)
            simp [fIntS, h640, hi]
          rw [en]
          simp (implicitDefEqProofs := false) [-k_sSeq, Ss.wipe, -k_sTry, fa2, i0, n0, fi, oNA]
    · rw [decide_eq_false c9] at l9
      rw [numA_len (z := z) (by omega)]
      refine wpS ?_
      simp (implicitDefEqProofs := false) [-k_sSeq, Ss.wipe, -k_sTry, ln, l1, l9, oNA]
  · rw [decide_eq_false c1] at l1
    rw [numA_len (z := z) (by omega)]
    refine wpS ?_
    simp (implicitDefEqProofs := false) [-k_sSeq, Ss.wipe, -k_sTry, ln, l1, oNA]
def oNsA : Option (List Nat) → AV
  | none => .non
  | some ns => .tup (ns.map iA)
theorem td_oNA (w : Str) : Td 0 129 (oNA (numA w)) := by
  cases h : numA w with
  | none => exact tdB_ok (by decide +kernel)
  | some n => exact td_nat (numA_lt h)
theorem numsA_any : ∀ (ws : List Str), ((dats (ws.map fun w => oNA (numA w))).any fun z => PyData.eqv z (dat .non)) = decide (numsA ws = none)
  | [] => by simp [dats, numsA]
  | w :: ws => by
    have ih := numsA_any ws
    simp only [List.map_cons, dats, List.any_cons, ih]
    have e : numsA (w :: ws) = (match numA w, numsA ws with
      | some n, some ns => some (n :: ns)
      | _, _ => none) := rfl
    rw [e]
    cases numA w with
    | none => simp [oNA, dat, PyData.eqv]
    | some n => cases numsA ws <;> simp [oNA, dat, PyData.eqv]
theorem numsA_map : ∀ {ws : List Str} {ns : List Nat}, numsA ws = some ns → ws.map (fun w => oNA (numA w)) = ns.map iA
  | [], ns, e => by cases e; rfl
  | w :: ws, ns, e => by
    unfold numsA at e
    split at e
    · rename_i n ms e1 e2
      cases e
      rw [List.map_cons, List.map_cons, e1, numsA_map e2]
      rfl
    · cases e
theorem x_numbersX {ws : List Str} (h : ∀ w ∈ ws, w.length ≤ 1000000) (hl : ws.length ≤ 1000000) : m_numbers_in [.lst false (ws.map AV.str)] S = .ok (oNsA (numsA ws)) S := by
  have xn := fun w hw => x_numberX (S := S) (h w hw)
  have T : Td 1 (ws.length * 131 + 3) (.lst false (ws.map fun w => oNA (numA w))) := by
    have := tds_all (k := 0) (n := 129) (xs := ws.map fun w => oNA (numA w)) fun x hx => by
      obtain ⟨w, _, rfl⟩ := List.mem_map.mp hx
      exact td_oNA w
    rw [List.length_map] at this
    exact this.lst
  have o1 := T.sh.okA (by omega)
  have ni : oIn .non (.lst false (ws.map fun w => oNA (numA w))) = some (.bl (decide (numsA ws = none))) := by
    have e : oIn .non (.lst false (ws.map fun w => oNA (numA w))) = (if okA .non && okA (.lst false (ws.map fun w => oNA (numA w))) then some ((dats (ws.map fun w => oNA (numA w))).any fun z => PyData.eqv z (dat .non)) else none).map AV.bl := rfl
    have o2 : okA .non = true := rfl
    rw [e, o1, o2, numsA_any]
    rfl
  have ft : fTup S [.lst false (ws.map fun w => oNA (numA w))] = some (.tup (ws.map fun w => oNA (numA w))) := rfl
  refine wp_eq ?_
  unfold m_numbers_in
  refine wpF ?_
  refine wpS ?_
  simp (implicitDefEqProofs := false) [-k_sSeq, Ss.wipe, -k_sTry]
  refine wpB (wpLX (fun w => oNA (numA w)) (fun w hw => ?_) (by omega) ?_)
  · refine ⟨_, rfl, ?_⟩
    simp (implicitDefEqProofs := false) [-k_sSeq, Ss.wipe, -k_sTry, xn w hw]
  cases hn : numsA ws with
  | none =>
    rw [hn] at ni
    generalize ws.map (fun w => oNA (numA w)) = L at ni ft ⊢
    simp (implicitDefEqProofs := false) [-k_sSeq, Ss.wipe, -k_sTry, ni, oNsA]
  | some ns =>
    rw [hn] at ni
    rw [numsA_map hn] at ni ft ⊢
    have ni2 : oIn .non (.lst false (ns.map iA)) = some (.bl false) := by rw [ni]; rfl
    have ns2 : oNsA (some ns) = .tup (ns.map iA) := rfl
    rw [ns2]
    generalize ns.map iA = L at ni2 ft ⊢
    simp (implicitDefEqProofs := false) [-k_sSeq, Ss.wipe, -k_sTry, ni2, ft]
/-! shapes -/
def shapeB (w : Str) (ns : List Nat) : Bool :=
  if w = "mend" then decide (ns = []) else if w = "write" then rowB ns else match ns with
    | [p] => (decide (w = "read") || decide (w = "trim")) && decide (p ≤ 15)
    | _ => false
theorem shapeB_no {w : Str} {ns : List Nat} (h1 : w ≠ "mend") (h2 : w ≠ "write") (h : ¬ ns.length = 1) : shapeB w ns = false := by
  unfold shapeB
  rw [if_neg h1, if_neg h2]
  match ns, h with
  | [], _ => rfl
  | [_], h => exact absurd rfl h
  | _ :: _ :: _, _ => rfl
theorem shape_AB {w : Str} {ns : List Nat} (h : w ≠ "group") : shapeB w ns = (shapeA w ns).isSome := by
  unfold shapeB shapeA
  by_cases h1 : w = "mend"
  · rw [if_pos h1, if_pos h1]
    by_cases c : ns = []
    · rw [if_pos c, decide_eq_true c]; rfl
    · rw [if_neg c, decide_eq_false c]; rfl
  rw [if_neg h1, if_neg h1]
  by_cases h2 : w = "write"
  · rw [if_pos h2, if_pos h2]
    match ns with
    | [] => rfl
    | [_] => rfl
    | [p, d] =>
      show (decide (p ≤ 15) && decide (d ≤ 63)) = (if p ≤ 15 ∧ d ≤ 63 then some (Ox.wr p d) else none).isSome
      by_cases c1 : p ≤ 15 <;> by_cases c2 : d ≤ 63 <;> simp [c1, c2]
    | _ :: _ :: _ :: _ => rfl
  rw [if_neg h2, if_neg h2, if_neg h]
  match ns with
  | [] => rfl
  | [p] =>
    show ((decide (w = "read") || decide (w = "trim")) && decide (p ≤ 15)) = (if p ≤ 15 then (if w = "read" then some (Ox.rd p) else if w = "trim" then some (Ox.tr p) else none) else none).isSome
    by_cases c1 : p ≤ 15
    · rw [if_pos c1, decide_eq_true c1, Bool.and_true]
      by_cases c2 : w = "read"
      · rw [if_pos c2, decide_eq_true c2]; rfl
      · rw [if_neg c2, decide_eq_false c2]
        by_cases c3 : w = "trim"
        · rw [if_pos c3, decide_eq_true c3]; rfl
        · rw [if_neg c3, decide_eq_false c3]; rfl
    · rw [if_neg c1, decide_eq_false c1, Bool.and_false]; rfl
  | _ :: _ :: _ => rfl
def wnA (w : Str) (ns : List Nat) : AV := .tup (.str w :: ns.map iA)
theorem wnA_of {o : Ox} (h : o.kd ≠ "group") : wnA o.kd o.ns = o.av := by
  cases o <;> first | rfl | exact absurd rfl h
theorem x_shapeX {w : Str} {ns : List Nat} (hw : PyData.strOk w = true) (hn : ∀ n ∈ ns, n < 1000000000) (hg : w ≠ "group") : m_has_shape [wnA w ns] S = .ok (.bl (shapeB w ns)) S := by
  have T := (Tds.cons (td_strX hw) (td_nats hn)).tup
  have TL := (td_nats hn).lst
  have to : okT (wnA w ns) = true := rfl
  have ti : isT "tuple" (wnA w ns) = true := rfl
  have nt : oEq (wnA w ns) (.tup []) = some (.bl false) := ne_nilT T (by omega)
  have i0 : ∀ S', ixA S' (wnA w ns) (.int 0) = some (.str w) := fun S' => ix_t S' _ 0
  have os : okT (.str w) = true := rfl
  have is : isT "str" (.str w) = true := rfl
  have ht : gSt 1 2 (wnA w ns) ⟨[.im (wnA w ns), .no, .no], S⟩ = some ⟨[.im (wnA w ns), .im (.str w), .im (.lst false (ns.map iA))], S⟩ := rfl
  have qm := eqs w "mend"
  have qw := eqs w "write"
  have qg := eqs w "group"
  rw [decide_eq_false hg] at qg
  have qn := eq_nilL TL (by omega)
  have ln := fun S' => lnL S' false (ns.map iA)
  rw [List.length_map] at ln
  have n1 := neN ns.length 1
  have e1 : ((1 : Nat) : Int) = 1 := rfl
  rw [e1] at n1
  have sl : slA (wnA w ns) (some 1) none = some (.tup (ns.map iA)) := sl_oneT _
  have xr := x_rowX (S := S) ns
  by_cases c1 : w = "mend"
  · rw [decide_eq_true c1] at qm
    have eb : shapeB w ns = decide (ns.map iA = []) := by
      unfold shapeB
      rw [if_pos c1]
      cases ns <;> rfl
    rw [eb]
    generalize decide (ns.map iA = []) = b at qn ⊢
    generalize AV.lst false (ns.map iA) = L at *
    generalize wnA w ns = Z at *
    unfold m_has_shape
    rw [fnM_ret]
    simp (implicitDefEqProofs := false) [to, ti, nt, i0, os, is, ht, qm, qn, asB]
  rw [decide_eq_false c1] at qm
  by_cases c2 : w = "write"
  · rw [decide_eq_true c2] at qw
    have eb : shapeB w ns = rowB ns := by
      unfold shapeB
      rw [if_neg c1, if_pos c2]
    rw [eb]
    generalize AV.lst false (ns.map iA) = L at *
    generalize AV.tup (ns.map iA) = L2 at *
    generalize wnA w ns = Z at *
    unfold m_has_shape
    rw [fnM_ret]
    simp (implicitDefEqProofs := false) [to, ti, nt, i0, os, is, ht, qm, qw, sl, xr, asB, oPart, asI]
  rw [decide_eq_false c2] at qw
  by_cases c3 : ns.length = 1
  · rw [decide_eq_true c3] at n1
    obtain ⟨p, rfl⟩ : ∃ p, ns = [p] := by
      match ns, c3 with
      | [p], _ => exact ⟨p, rfl⟩
    have eb : shapeB w [p] = ((decide (w = "read") || decide (w = "trim")) && decide (p ≤ 15)) := by
      unfold shapeB
      rw [if_neg c1, if_neg c2]
    rw [eb]
    have ir := in2 hw "read" "trim" (by decide +kernel) (by decide +kernel)
    have ip : ∀ S', ixA S' (.lst false ([p].map iA)) (.int 0) = some (.int p) := fun S' => ix_l S' _ _ 0
    have xp := x_placeX (S := S) p
    generalize (decide (w = "read") || decide (w = "trim")) = b1 at ir ⊢
    generalize decide (p ≤ 15) = b2 at xp ⊢
    generalize [p].length = N at ln n1
    generalize AV.lst false ([p].map iA) = L at *
    generalize wnA w [p] = Z at *
    unfold m_has_shape
    rw [fnM_ret]
    cases b1 <;> simp (implicitDefEqProofs := false) [to, ti, nt, i0, os, is, ht, qm, qw, qg, ln, n1, ir, ip, xp, asB]
  · rw [decide_eq_false c3] at n1
    rw [shapeB_no c1 c2 c3]
    generalize AV.lst false (ns.map iA) = L at *
    generalize wnA w ns = Z at *
    unfold m_has_shape
    rw [fnM_ret]
    simp (implicitDefEqProofs := false) [to, ti, nt, i0, os, is, ht, qm, qw, ln, n1, asB]
def grA (rows : List (Nat × Nat)) : AV := .tup [.str "group", .tup (rows.map rwX)]
theorem td_rows {rows : List (Nat × Nat)} (h : ∀ n ∈ flat rows, n < 1000000000) : Tds 1 (rows.length * 267) (rows.map rwX) := by
  have hm : ∀ r ∈ rows, r.1 < 1000000000 ∧ r.2 < 1000000000 := by
    induction rows with
    | nil => intro r hr; cases hr
    | cons q qs ih =>
      intro r hr
      rcases List.mem_cons.mp hr with rfl | hr
      · exact ⟨h _ (by simp [flat]), h _ (by simp [flat])⟩
      · exact ih (fun n hn => h n (by simp [flat, hn])) r hr
  have := tds_all (k := 1) (n := 265) (xs := rows.map rwX) fun x hx => by
    obtain ⟨r, hr, rfl⟩ := List.mem_map.mp hx
    obtain ⟨h1, h2⟩ := hm r hr
    exact (Tds.cons (td_nat h1) (Tds.cons (td_nat h2) Tds.nil)).tup.mono (by omega) (by omega)
  rw [List.length_map] at this
  exact this
theorem x_shapeG {rows : List (Nat × Nat)} (hn : ∀ n ∈ flat rows, n < 1000000000) : m_has_shape [grA rows] S = .ok (.bl (rowsB rows)) S := by
  have TR := td_rows hn
  have T2 : Tds 2 _ [.str "group", .tup (rows.map rwX)] := Tds.cons (k := 2) ((td_strX (z := "group") (by decide +kernel)).mono (Nat.zero_le _) (Nat.le_refl _)) (Tds.cons TR.tup Tds.nil)
  have T := T2.tup
  have to : okT (grA rows) = true := rfl
  have ti : isT "tuple" (grA rows) = true := rfl
  have nt : oEq (grA rows) (.tup []) = some (.bl false) := ne_nilT T (by omega)
  have i0 : ∀ S', ixA S' (grA rows) (.int 0) = some (.str "group") := fun S' => ix_t S' _ 0
  have os : okT (.str "group") = true := rfl
  have is : isT "str" (.str "group") = true := rfl
  have ht : gSt 1 2 (grA rows) ⟨[.im (grA rows), .no, .no], S⟩ = some ⟨[.im (grA rows), .im (.str "group"), .im (.lst false [.tup (rows.map rwX)])], S⟩ := rfl
  have qm : oEq (.str "group") (.str "mend") = some (.bl false) := by kernel_rfl
  have qw : oEq (.str "group") (.str "write") = some (.bl false) := by kernel_rfl
  have qg : oEq (.str "group") (.str "group") = some (.bl true) := by kernel_rfl
  have ln := fun S' => lnL S' false [.tup (rows.map rwX)]
  have n1 : oNe (.int (([.tup (rows.map rwX)] : List AV).length : Nat)) (.int 1) = some (.bl false) := rfl
  have i1 : ∀ S', ixA S' (.lst false [.tup (rows.map rwX)]) (.int 0) = some (.tup (rows.map rwX)) := fun S' => ix_l S' _ _ 0
  have xr := x_rowsX (S := S) rows
  have imr : imm (.tup (rows.map rwX)) = true := rfl
  generalize rowsB rows = b at xr ⊢
  generalize ([.tup (rows.map rwX)] : List AV).length = N at ln n1
  generalize AV.lst false [.tup (rows.map rwX)] = L at *
  generalize AV.tup (rows.map rwX) = R at *
  generalize grA rows = Z at *
  unfold m_has_shape
  rw [fnM_ret]
  simp (implicitDefEqProofs := false) [to, ti, nt, i0, os, is, ht, qm, qw, qg, ln, n1, i1, imr, xr, asB]
end
end Fk
-- base: k60
/-! ## texts walked: orders and weathers read -/
namespace Fk
open PySem PySem.Spec PyProof.Rows L2
theorem mem_joinL {s c : Nat} : ∀ {ps : List (List Nat)} {p : List Nat}, p ∈ ps → c ∈ p → c ∈ TL.joinL [s] ps
  | [p], q, h, hc => by
    obtain rfl : q = p := by simpa using h
    exact hc
  | p :: r :: ps, q, h, hc => by
    show c ∈ p ++ ([s] ++ TL.joinL [s] (r :: ps))
    rcases List.mem_cons.mp h with rfl | h
    · exact List.mem_append.mpr (.inl hc)
    · exact List.mem_append.mpr (.inr (List.mem_append.mpr (.inr (mem_joinL h hc))))
theorem sp_chars {z w : Str} {c : Nat} (h : w ∈ spS z) (hc : c ∈ TL.tl w) : c ∈ TL.tl z := by
  have e := jn_sp z
  rw [← e, jn_tl]
  exact mem_joinL (List.mem_map.mpr ⟨w, h, rfl⟩) hc
theorem sp_ok {z : Str} (h : PyData.strOk z = true) : ∀ w ∈ spS z, PyData.strOk w = true := fun w hw => strOk_iff.mpr fun c hc => strOk_iff.mp h c (sp_chars hw hc)
theorem nTx_ok (n : Nat) : PyData.strOk (nTx n) = true := strOk_iff.mpr fun c hc => by
  rw [tl_nTx] at hc
  have := TL.numL_digits n c hc
  omega
/-- what a text gives -/
def oOx : Option Ox → AV
  | none => .non
  | some o => o.av
def zpA : List Nat → AV := fun ns => .tup ((prs ns).map rwX)
theorem evs_zip : ∀ (ns : List Nat), zipP (evs (ns.map iA)) (evs ((ns.map iA).drop 1)) = (prs ns).map rwX
  | [] => rfl
  | [a] => rfl
  | [a, b] => rfl
  | a :: b :: c :: r => by
    have ih := evs_zip (c :: r)
    show zipP (iA a :: evs ((c :: r).map iA)) (evs (iA b :: iA c :: r.map iA)) = _
    have e1 : evs (iA b :: iA c :: r.map iA) = iA b :: evs (((c :: r).map iA).drop 1) := rfl
    rw [e1]
    show AV.tup [iA a, iA b] :: zipP _ _ = _
    rw [ih]
    rfl
theorem prs_mem : ∀ {ns : List Nat} {n : Nat}, n ∈ flat (prs ns) → n ∈ ns
  | [], n, h => by cases h
  | [a], n, h => by cases h
  | a :: b :: r, n, h => by
    simp only [prs, flat, List.mem_cons] at h
    rcases h with h | h | h
    · simp [h]
    · simp [h]
    · simp [prs_mem h]
theorem md2 (n : Nat) : oMod (.int n) (.int 2) = some (.int ((n % 2 : Nat) : Int)) := by
  have : (2 : Int) ≠ 0 := by omega
  simp [oMod]
section
variable {S : List AV}
theorem x_order_in {z : Str} (hz : z.length ≤ 100000) (hok : PyData.strOk z = true) : m_order_in [.str z] S = .ok (oOx (ordA z)) S := by
  have sl := sp_len z
  have so := sp_ok hok
  have sp : spA (.str z) (.str " ") = some (.lst false ((spS z).map .str)) := by
    have h1 : z.length ≤ 16777214 := by omega
    have h2 : ((" " : Str).length == 0) = false := by kernel_rfl
    have e : spA (.str z) (.str " ") = if ((" " : Str).length == 0) = false ∧ z.length ≤ 16777214 then some (.lst false ((Txt.split z " ").map .str)) else none := rfl
    rw [e, if_pos ⟨h2, h1⟩]
    rfl
  have ne := sp_ne z
  have eo : ordA z = match spS z with | w :: ws => (numsA ws).bind (shapeA w) | [] => none := rfl
  rw [eo]
  generalize spS z = ps at sl so sp ne
  cases ps with
  | nil => exact absurd rfl ne
  | cons w ws =>
    have hw := so w (by simp)
    have xn := x_numbersX (S := S) (ws := ws) (fun v hv => by have := sl.2 v (by simp [hv]); omega) (by have := sl.1; simp at this; omega)
    have gs : gSu 1 2 (.lst false ((w :: ws).map .str)) ⟨[.im (.str z), .no, .no, .no, .no], S⟩ = some ⟨[.im (.str z), .im (.str w), .im (.lst false (ws.map .str)), .no, .no], S⟩ := rfl
    have wl : ws.length ≤ 100001 := by have := sl.1; simp at this; omega
    generalize AV.lst false ((w :: ws).map .str) = L at sp gs
    have imL : imm (.lst false (ws.map AV.str)) = true := rfl
    generalize AV.lst false (ws.map AV.str) = L2 at xn gs imL
    show _ = Res.ok (oOx ((numsA ws).bind (shapeA w))) S
    cases hn : numsA ws with
    | none =>
      rw [hn] at xn
      have xn2 : m_numbers_in [L2] S = .ok .non S := xn
      have i1 : oIs .non .non = some (.bl true) := rfl
      show _ = Res.ok AV.non S
      unfold m_order_in
      rw [fnM_ret]
      simp (implicitDefEqProofs := false) [sp, gs, xn2, i1, imL, asB]
    | some ns =>
      rw [hn] at xn
      have hlt := numsA_lt hn
      have nl : ns.length ≤ 100001 := by
        have := congrArg List.length (numsA_iff.mp hn).1
        simp at this
        omega
      have xn2 : m_numbers_in [L2] S = .ok (.tup (ns.map iA)) S := xn
      have i1 : oIs (.tup (ns.map iA)) .non = some (.bl false) := rfl
      have ad : oAdd (.tup [.str w]) (.tup (ns.map iA)) = some (wnA w ns) := by
        have e : oAdd (.tup [.str w]) (.tup (ns.map iA)) = if [AV.str w].length + (ns.map iA).length ≤ 16777216 then some (.tup ([.str w] ++ ns.map iA)) else none := rfl
        rw [e, if_pos (by simp; omega)]
        rfl
      have qg := eqs w "group"
      have imN : imm (.tup (ns.map iA)) = true := rfl
      show _ = Res.ok (oOx (shapeA w ns)) S
      by_cases hg : w = "group"
      · rw [decide_eq_true hg] at qg
        subst hg
        have ln := fun S' => lnT S' (ns.map iA)
        rw [List.length_map] at ln
        have m2 := md2 ns.length
        have q2 := eqN (ns.length % 2) 0
        have e0 : ((0 : Nat) : Int) = 0 := rfl
        rw [e0] at q2
        have e9 : ((ns.length % 2 : Nat) : Int) = (ns.length : Int) % 2 := by omega
        rw [e9] at q2 m2
        have im1 : imm (wnA "group" ns) = true := rfl
        by_cases c : ns.length % 2 = 0
        · rw [decide_eq_true c] at q2
          have s0 : stpA 0 (.tup (ns.map iA)) = some (.tup (evs (ns.map iA))) := rfl
          have s1 : stpA 1 (.tup (ns.map iA)) = some (.tup (evs ((ns.map iA).drop 1))) := rfl
          have tz : fTz [.tup (evs (ns.map iA)), .tup (evs ((ns.map iA).drop 1))] = some (zpA ns) := by
            show some (AV.tup (zipP _ _)) = _
            rw [evs_zip]
            rfl
          have xs := x_shapeG (S := S) (rows := prs ns) fun n h => hlt n (prs_mem h)
          have ga : AV.tup [.str "group", zpA ns] = grA (prs ns) := rfl
          have es : oOx (shapeA "group" ns) = if rowsB (prs ns) = true then grA (prs ns) else .non := by
            have e2 : ¬ ("group" : Str) = "mend" := by decide +kernel
            have e3 : ¬ ("group" : Str) = "write" := by decide +kernel
            unfold shapeA
            rw [if_neg e2, if_neg e3, if_pos rfl]
            by_cases h : rowsB (prs ns) = true
            · rw [if_pos h, if_pos ⟨c, rowsB_iff.mp h⟩]; rfl
            · rw [if_neg h, if_neg fun h2 => h (rowsB_iff.mpr h2.2)]; rfl
          have img : imm (grA (prs ns)) = true := rfl
          rw [es]
          generalize rowsB (prs ns) = b at xs ⊢
          generalize grA (prs ns) = G at xs ga img ⊢
          generalize zpA ns = Z at tz ga
          generalize AV.tup (evs (ns.map iA)) = A0 at s0 tz
          generalize AV.tup (evs ((ns.map iA).drop 1)) = A1 at s1 tz
          generalize wnA "group" ns = W at ad im1
          generalize AV.tup (ns.map iA) = N at *
          unfold m_order_in
          rw [fnM_ret]
          cases b <;> simp (implicitDefEqProofs := false) [sp, gs, xn2, i1, imL, imN, ad, qg, ln, m2, q2, s0, s1, tz, ga, xs, img, im1, asB]
        · rw [decide_eq_false c] at q2
          have xs : m_has_shape [.tup []] S = .ok (.bl false) S := by kernel_rfl
          have es : oOx (shapeA "group" ns) = .non := by
            have e2 : ¬ ("group" : Str) = "mend" := by decide +kernel
            have e3 : ¬ ("group" : Str) = "write" := by decide +kernel
            unfold shapeA
            rw [if_neg e2, if_neg e3, if_pos rfl, if_neg fun h => c h.1]
            rfl
          rw [es]
          generalize wnA "group" ns = W at ad im1
          generalize AV.tup (ns.map iA) = N at *
          unfold m_order_in
          rw [fnM_ret]
          simp (implicitDefEqProofs := false) [sp, gs, xn2, i1, imL, imN, ad, qg, ln, m2, q2, xs, im1, asB]
      · rw [decide_eq_false hg] at qg
        have xs := x_shapeX (S := S) hw hlt hg
        have im1 : imm (wnA w ns) = true := rfl
        have es : oOx (shapeA w ns) = if shapeB w ns = true then wnA w ns else .non := by
          rw [shape_AB hg]
          cases h : shapeA w ns with
          | none => rfl
          | some o =>
            obtain ⟨h1, h2, h3⟩ := of_shape h
            show o.av = wnA w ns
            rw [h2, h3]
            exact (wnA_of (by rw [← h2]; exact hg)).symm
        rw [es]
        generalize shapeB w ns = b at xs ⊢
        generalize wnA w ns = W at ad im1 xs ⊢
        generalize AV.tup (ns.map iA) = N at *
        unfold m_order_in
        rw [fnM_ret]
        cases b <;> simp (implicitDefEqProofs := false) [sp, gs, xn2, i1, imL, imN, ad, qg, xs, im1, asB]
theorem isN_ox : ∀ o : Ox, isN o.av = false
  | .md => rfl
  | .rd _ => rfl
  | .tr _ => rfl
  | .wr _ _ => rfl
  | .gr _ => rfl
theorem imm_ox : ∀ o : Ox, imm o.av = true
  | .md => rfl
  | .rd _ => rfl
  | .tr _ => rfl
  | .wr _ _ => rfl
  | .gr _ => rfl
theorem x_read_order {z : Str} (hz : z.length ≤ 100000) (hok : PyData.strOk z = true) : m_read_order [.str z] S = match ordA z with | some o => .ok o.av S | none => .err "NoText" S := by
  have x := x_order_in (S := S) hz hok
  have to : okT (.str z) = true := rfl
  have ti : isT "str" (.str z) = true := rfl
  cases h : ordA z with
  | none =>
    rw [h] at x
    have x2 : m_order_in [.str z] S = .ok .non S := x
    have i1 : oIs .non .non = some (.bl true) := rfl
    unfold m_read_order
    rw [fnM_ret]
    simp (implicitDefEqProofs := false) [to, ti, x2, i1, asB]
  | some o =>
    rw [h] at x
    have x2 : m_order_in [.str z] S = .ok o.av S := x
    have i1 : oIs o.av .non = some (.bl false) := by
      have e : oIs o.av .non = some (.bl (isN o.av)) := by cases o <;> rfl
      rw [e, isN_ox]
    have im := imm_ox o
    show _ = Res.ok o.av S
    generalize o.av = Z at x2 i1 im ⊢
    unfold m_read_order
    rw [fnM_ret]
    simp (implicitDefEqProofs := false) [to, ti, x2, i1, im, asB]
/-! ### weathers -/
def oRw : Option (Nat × Flt) → AV
  | none => .non
  | some p => .tup [.int p.1, p.2.av]
theorem par_chars {z : Str} {c : Nat} (h : c ∈ TL.tl (Txt.partition z ":").2.2 ∨ c ∈ TL.tl (Txt.partition z ":").1) : c ∈ TL.tl z ∨ (Txt.partition z ":").2.1 = "" := by
  rcases part_co z with e | e
  · exact .inr e
  · refine .inl ?_
    rw [e, TL.tl_append, TL.tl_append]
    rcases h with h | h
    · exact List.mem_append.mpr (.inr h)
    · exact List.mem_append.mpr (.inl (List.mem_append.mpr (.inl h)))
theorem par_lens {z : Str} : (Txt.partition z ":").1.length ≤ z.length ∧ (Txt.partition z ":").2.2.length ≤ z.length := by
  have e := TL.partition_par z ":" (by rw [tl_co]; simp)
  rcases part_co z with e2 | e2
  · cases hp : TL.par (TL.tl (":" : Str)) [] (TL.tl z) with
    | none =>
      rw [hp] at e
      rw [e]
      exact ⟨Nat.le_refl _, Nat.zero_le _⟩
    | some ab =>
      rw [hp] at e
      rw [e] at e2
      exact absurd e2 (by show ¬ (":" : Str) = ""; decide +kernel)
  · have l := congrArg Str.length e2
    rw [TL.len_tl (_ ++ _), TL.tl_append, TL.tl_append, List.length_append, List.length_append, ← TL.len_tl, ← TL.len_tl (Txt.partition z ":").2.2] at l
    omega
theorem x_fault_in {z : Str} (hz : z.length ≤ 100000) (hok : PyData.strOk z = true) : m_fault_in [.str z] S = .ok (oRw (faultA z)) S := by
  obtain ⟨l1, l2⟩ := par_lens (z := z)
  have hp : ptA (.str z) (.str ":") = some (.tup [.str (Txt.partition z ":").1, .str (Txt.partition z ":").2.1, .str (Txt.partition z ":").2.2]) := by
    have h1 : z.length ≤ 16777216 := by omega
    have h2 : ((":" : Str).length == 0) = false := by kernel_rfl
    have e : ptA (.str z) (.str ":") = if ((":" : Str).length == 0) = false ∧ z.length ≤ 16777216 then some (.tup [.str (Txt.partition z ":").1, .str (Txt.partition z ":").2.1, .str (Txt.partition z ":").2.2]) else none := rfl
    rw [e, if_pos ⟨h2, h1⟩]
  have fo : (Txt.partition z ":").2.1 ≠ "" → PyData.strOk (Txt.partition z ":").2.2 = true := fun h => strOk_iff.mpr fun c hc => (par_chars (.inl hc)).elim (strOk_iff.mp hok c) (fun e => absurd e h)
  have ef : faultA z = match numA (Txt.partition z ":").1 with
    | none => none
    | some n => if (Txt.partition z ":").2.1 = "" then none else (fltA (Txt.partition z ":").2.2).map fun f => (n, f) := rfl
  rw [ef]
  generalize (Txt.partition z ":").1 = s at *
  generalize (Txt.partition z ":").2.1 = g at *
  generalize (Txt.partition z ":").2.2 = f at *
  have xn := x_numberX (S := S) (z := s) (by omega)
  have gt : gT 3 (gCons' (gN 1) (gCons' (gN 2) (gCons' (gN 3) gNil'))) (.tup [.str s, .str g, .str f]) ⟨[.im (.str z), .no, .no, .no, .no, .no], S⟩ = some ⟨[.im (.str z), .im (.str s), .im (.str g), .im (.str f), .no, .no], S⟩ := rfl
  generalize AV.tup [.str s, .str g, .str f] = P at hp gt
  have qg := eqs g ""
  cases hn : numA s with
  | none =>
    rw [hn] at xn
    have xn2 : m_number_in [.str s] S = .ok .non S := xn
    have i1 : oIs .non .non = some (.bl true) := rfl
    show _ = Res.ok AV.non S
    unfold m_fault_in
    rw [fnM_ret]
    simp (implicitDefEqProofs := false) [hp, gt, xn2, i1, asB]
  | some n =>
    rw [hn] at xn
    have xn2 : m_number_in [.str s] S = .ok (.int n) S := xn
    have i1 : oIs (.int n) .non = some (.bl false) := rfl
    by_cases hg : g = ""
    · rw [decide_eq_true hg] at qg
      have e : (match some n with
        | none => none
        | some n => if g = "" then none else (fltA f).map fun f => (n, f)) = (none : Option (Nat × Flt)) := if_pos hg
      rw [e]
      show _ = Res.ok AV.non S
      unfold m_fault_in
      rw [fnM_ret]
      simp (implicitDefEqProofs := false) [hp, gt, xn2, i1, qg, asB]
    · rw [decide_eq_false hg] at qg
      have e : (match some n with
        | none => none
        | some n => if g = "" then none else (fltA f).map fun f => (n, f)) = (fltA f).map fun f => (n, f) := if_neg hg
      rw [e]
      have hf := fo hg
      have ir := in2 hf "cut" "bad" (by decide +kernel) (by decide +kernel)
      by_cases c1 : f = "cut"
      · rw [decide_eq_true c1, Bool.true_or] at ir
        have e2 : fltA f = some .cut := by unfold fltA; rw [if_pos c1]
        rw [e2]
        have r : oRw ((some Flt.cut).map fun f => (n, f)) = .tup [.int n, .tup [.str f]] := by rw [c1]; rfl
        rw [r]
        unfold m_fault_in
        rw [fnM_ret]
        simp (implicitDefEqProofs := false) [hp, gt, xn2, i1, qg, ir, asB]
      by_cases c2 : f = "bad"
      · rw [decide_eq_true c2, Bool.or_true] at ir
        have e2 : fltA f = some .bad := by unfold fltA; rw [if_neg c1, if_pos c2]
        rw [e2]
        have r : oRw ((some Flt.bad).map fun f => (n, f)) = .tup [.int n, .tup [.str f]] := by rw [c2]; rfl
        rw [r]
        unfold m_fault_in
        rw [fnM_ret]
        simp (implicitDefEqProofs := false) [hp, gt, xn2, i1, qg, ir, asB]
      rw [decide_eq_false c1, decide_eq_false c2, Bool.or_false] at ir
      have sw : swA (.str f) (.str "bit") = some (.bl (Txt.startswith f "bit")) := rfl
      by_cases c3 : Txt.startswith f "bit" = true
      · rw [c3] at sw
        have e2 : fltA f = (numA (restB f)).map Flt.bit := by unfold fltA; rw [if_neg c1, if_neg c2, if_pos c3]
        rw [e2]
        have sl : slA (.str f) (some 3) none = some (.str (restB f)) := by
          have h1 : f.length ≤ 16777216 := by omega
          have e : slA (.str f) (some 3) none = if f.length ≤ 16777216 then some (.str (cutS f (some 3) none)) else none := rfl
          rw [e, if_pos h1]
          rfl
        have ln : ∀ S', fLen S' [.str "bit"] = some (.int 3) := fun S' => by kernel_rfl
        have rl : (restB f).length ≤ f.length := by
          rw [TL.len_tl, rest_tl, List.length_drop, ← TL.len_tl]
          omega
        have xb := x_numberX (S := S) (z := restB f) (by omega)
        generalize restB f = b at sl xb ⊢
        cases hb : numA b with
        | none =>
          rw [hb] at xb
          have xb2 : m_number_in [.str b] S = .ok .non S := xb
          have i2 : oIs .non .non = some (.bl true) := rfl
          show _ = Res.ok AV.non S
          unfold m_fault_in
          rw [fnM_ret]
          simp (implicitDefEqProofs := false) [hp, gt, xn2, i1, qg, ir, sw, ln, sl, xb2, i2, asB, oPart, asI]
        | some k =>
          rw [hb] at xb
          have xb2 : m_number_in [.str b] S = .ok (.int k) S := xb
          have i2 : oIs (.int k) .non = some (.bl false) := rfl
          show _ = Res.ok (AV.tup [.int n, .tup [.str "bit", .int k]]) S
          unfold m_fault_in
          rw [fnM_ret]
          simp (implicitDefEqProofs := false) [hp, gt, xn2, i1, qg, ir, sw, ln, sl, xb2, i2, asB, oPart, asI]
      · have c3' : Txt.startswith f "bit" = false := by simpa using c3
        rw [c3'] at sw
        have e2 : fltA f = none := by unfold fltA; rw [if_neg c1, if_neg c2, if_neg c3]
        rw [e2]
        have i2 : oIs .non .non = some (.bl true) := rfl
        show _ = Res.ok AV.non S
        unfold m_fault_in
        rw [fnM_ret]
        simp (implicitDefEqProofs := false) [hp, gt, xn2, i1, qg, ir, sw, i2, asB]
end
end Fk
-- base: k60
/-! ## texts walked: weathers read -/
namespace Fk
open PySem PySem.Spec PyProof.Rows L2
theorem faults_any : ∀ (ws : List Str), ((dats (ws.map fun w => oRw (faultA w))).any fun z => PyData.eqv z (dat .non)) = (ws.any fun w => (faultA w).isNone)
  | [] => by simp [dats]
  | w :: ws => by
    have ih := faults_any ws
    simp only [List.map_cons, dats, List.any_cons, ih]
    congr 1
    cases faultA w with
    | none => simp [oRw, dat, PyData.eqv]
    | some p => simp [oRw, dat, PyData.eqv]
theorem faults_all : ∀ {ws : List Str}, (ws.any fun w => (faultA w).isNone) = false → ∃ ps : List (Nat × Flt), ws.map faultA = ps.map some
  | [], _ => ⟨[], rfl⟩
  | w :: ws, h => by
    simp only [List.any_cons, Bool.or_eq_false_iff] at h
    obtain ⟨ps, e⟩ := faults_all h.2
    cases c : faultA w with
    | none => rw [c] at h; simp at h
    | some p => exact ⟨p :: ps, by rw [List.map_cons, List.map_cons, c, e]⟩
theorem oRw_map {ws : List Str} {ps : List (Nat × Flt)} (e : ws.map faultA = ps.map some) : ws.map (fun w => oRw (faultA w)) = wAs ps := by
  have h : ws.map (fun w => oRw (faultA w)) = (ws.map faultA).map oRw := by rw [List.map_map]; rfl
  rw [h, e, List.map_map]
  rfl
theorem td_smF {f : Flt} (h : smF f) : Td 1 208 f.av := by
  cases f with
  | fine => exact h.elim
  | cut => exact tdB_ok (by decide +kernel)
  | bad => exact tdB_ok (by decide +kernel)
  | bit i =>
    have hi := nTx_lt (show (nTx i).length ≤ 9 from h)
    exact ((Tds.cons (tdB_ok (k := 0) (n := 72) (by decide +kernel)) (Tds.cons (td_int9 (i := (i : Int)) (by omega)) Tds.nil)).tup).mono (by omega) (by omega)
theorem td_smR {p : Nat × Flt} (h : smR p) : Td 2 344 (.tup [.int p.1, p.2.av]) := by
  have hi := nTx_lt h.1
  exact ((Tds.cons ((td_int9 (i := (p.1 : Int)) (by omega)).mono (k' := 1) (by omega) (Nat.le_refl _)) (Tds.cons (td_smF h.2) Tds.nil)).tup).mono (by omega) (by omega)
theorem td_wAsX {ws : List (Nat × Flt)} (h : ∀ p ∈ ws, smR p) : Td 3 (ws.length * 346 + 3) (.tup (wAs ws)) := by
  have := tds_all (k := 2) (n := 344) (xs := wAs ws) fun x hx => by
    obtain ⟨p, hp, rfl⟩ := List.mem_map.mp hx
    exact td_smR (h p hp)
  have l : (wAs ws).length = ws.length := by simp [wAs]
  rw [l] at this
  exact this.tup
theorem isFl_ok {f : Flt} (h : smF f) : isFl f.av = true ↔ okFt f := by
  cases f with
  | fine => exact h.elim
  | cut => exact ⟨fun _ => trivial, fun _ => by kernel_rfl⟩
  | bad => exact ⟨fun _ => trivial, fun _ => by kernel_rfl⟩
  | bit i =>
    show (decide (("bit" : Str) = "bit") && (decide ((0 : Int) ≤ i) && decide ((i : Int) ≤ 46))) = true ↔ i ≤ 46
    simp
    omega
theorem isW_ok {ws : List (Nat × Flt)} (h : ∀ p ∈ ws, smR p) : isW (.tup (wAs ws)) = true ↔ okW ws := by
  have e1 : (wAs ws).length = ws.length := by simp [wAs]
  have e2 : (wAs ws).map (fun x => iv (r0 x)) = ws.map fun p => (p.1 : Int) := by
    unfold wAs
    rw [List.map_map]
    rfl
  have e3 : (wAs ws).all rowW = true ↔ ∀ p ∈ ws, p.1 ≤ 9999 ∧ okFt p.2 := by
    unfold wAs
    rw [List.all_map, List.all_eq_true]
    constructor
    · intro g p hp
      have := g p hp
      have g2 : (true && ((decide ((0 : Int) ≤ p.1) && decide ((p.1 : Int) ≤ 9999)) && isFl p.2.av)) = true := this
      simp only [Bool.true_and, Bool.and_eq_true, decide_eq_true_eq] at g2
      exact ⟨by omega, (isFl_ok (h p hp).2).mp g2.2⟩
    · intro g p hp
      obtain ⟨a, b⟩ := g p hp
      show (true && ((decide ((0 : Int) ≤ p.1) && decide ((p.1 : Int) ≤ 9999)) && isFl p.2.av)) = true
      rw [(isFl_ok (h p hp).2).mpr b, decide_eq_true (by omega), decide_eq_true (by omega)]
      rfl
  have e4 : upI (ws.map fun p => (p.1 : Int)) = true ↔ (ws.map (·.1)).Pairwise (· < ·) := by
    rw [upI_pw, List.pairwise_map, List.pairwise_map]
    constructor
    · intro g; exact g.imp fun z => by omega
    · intro g; exact g.imp fun z => by omega
  show (decide ((wAs ws).length ≤ 40) && ((wAs ws).all rowW && upI ((wAs ws).map fun x => iv (r0 x)))) = true ↔ _
  rw [e1, e2, Bool.and_eq_true, Bool.and_eq_true, decide_eq_true_eq, e3, e4]
  constructor
  · rintro ⟨a, b, c⟩; exact ⟨a, b, c⟩
  · rintro ⟨a, b, c⟩; exact ⟨a, b, c⟩
section
variable {S : List AV}
theorem x_read_weather {z : Str} (hz : z.length ≤ 100000) (hok : PyData.strOk z = true) : m_read_weather [.str z] S = match weaA z with | some ws => .ok (.tup (wAs ws)) S | none => .err "NoText" S := by
  have to : okT (.str z) = true := rfl
  have ti : isT "str" (.str z) = true := rfl
  have nm := nes z "-"
  by_cases c0 : z = "-"
  · rw [decide_eq_true c0] at nm
    have ew : weaA z = some [] := weaA_iff.mpr ⟨⟨by simp, by simp, by simp⟩, by rw [c0]; rfl⟩
    have ni : oIn .non (.tup []) = some (.bl false) := by kernel_rfl
    have xw : m_is_weather [.tup []] S = .ok (.bl true) S := by kernel_rfl
    rw [ew]
    show _ = Res.ok (AV.tup []) S
    unfold m_read_weather
    rw [fnM_ret]
    simp (implicitDefEqProofs := false) [to, ti, nm, ni, xw, asB]
  rw [decide_eq_false c0] at nm
  have sl := sp_len z
  have so := sp_ok hok
  have sp : spA (.str z) (.str " ") = some (.lst false ((spS z).map .str)) := by
    have h1 : z.length ≤ 16777214 := by omega
    have h2 : ((" " : Str).length == 0) = false := by kernel_rfl
    have e : spA (.str z) (.str " ") = if ((" " : Str).length == 0) = false ∧ z.length ≤ 16777214 then some (.lst false ((Txt.split z " ").map .str)) else none := rfl
    rw [e, if_pos ⟨h2, h1⟩]
    rfl
  have xf : ∀ w ∈ spS z, m_fault_in [.str w] S = .ok (oRw (faultA w)) S := fun w hw => x_fault_in (by have := sl.2 w hw; omega) (so w hw)
  have wl : (spS z).length ≤ 100001 := by have := sl.1; omega
  -- what a weather's text gives
  have back : ∀ ws, weaA z = some ws → ws ≠ [] ∧ okW ws ∧ spS z = ws.map rowT := fun ws e => by
    obtain ⟨h1, h2⟩ := weaA_iff.mp e
    have hne : ws ≠ [] := fun h => c0 (by rw [h2, h]; rfl)
    refine ⟨hne, h1, ?_⟩
    have : z = jnS (ws.map rowT) := by rw [h2]; exact if_neg hne
    rw [this]
    exact rows_sp hne
  have ne := sp_ne z
  have jz := jn_sp z
  generalize spS z = ps at *
  have ft : fTup S [.lst false (ps.map fun w => oRw (faultA w))] = some (.tup (ps.map fun w => oRw (faultA w))) := rfl
  have TT : ∀ x ∈ ps.map (fun w => oRw (faultA w)), Td 2 344 x := fun x hx => by
    obtain ⟨w, _, rfl⟩ := List.mem_map.mp hx
    cases h : faultA w with
    | none => exact tdB_ok (by decide +kernel)
    | some p => exact td_smR (faultA_iff.mp h).1
  have o1 : okA (.tup (ps.map fun w => oRw (faultA w))) = true := (tds_all TT).tup.sh.okA (by omega)
  have ni : oIn .non (.tup (ps.map fun w => oRw (faultA w))) = some (.bl (ps.any fun w => (faultA w).isNone)) := by
    have e : oIn .non (.tup (ps.map fun w => oRw (faultA w))) = (if okA .non && okA (.tup (ps.map fun w => oRw (faultA w))) then some ((dats (ps.map fun w => oRw (faultA w))).any fun z => PyData.eqv z (dat .non)) else none).map AV.bl := rfl
    have o2 : okA .non = true := rfl
    rw [e, o1, o2, faults_any]
    rfl
  have goal : WpR (m_read_weather [.str z] S) (fun d S' => S' = S ∧ ∃ ws, weaA z = some ws ∧ d = .tup (wAs ws)) (fun c S' => S' = S ∧ c = "NoText" ∧ weaA z = none) := by
    unfold m_read_weather
    refine wpF ?_
    refine wpS ?_
    simp (implicitDefEqProofs := false) [-k_sSeq, Ss.wipe, -k_sTry, to, ti]
    refine wpS ?_
    simp (implicitDefEqProofs := false) [-k_sSeq, Ss.wipe, -k_sTry, nm, sp]
    refine wpB (wpLX (fun w => oRw (faultA w)) (fun w hw => ?_) (by omega) ?_)
    · refine ⟨_, rfl, ?_⟩
      simp (implicitDefEqProofs := false) [-k_sSeq, Ss.wipe, -k_sTry, xf w hw]
    cases ca : ps.any fun w => (faultA w).isNone with
    | true =>
      have en : weaA z = none := by
        cases h : weaA z with
        | none => rfl
        | some ws =>
          obtain ⟨_, h1, h2⟩ := back ws h
          rw [h2] at ca
          obtain ⟨w, hw, h3⟩ := List.any_eq_true.mp ca
          obtain ⟨p, hp, rfl⟩ := List.mem_map.mp hw
          rw [faultA_iff.mpr ⟨smR_ok h1 p hp, rfl⟩] at h3
          cases h3
      rw [ca] at ni
      generalize ps.map (fun w => oRw (faultA w)) = L at ft ni ⊢
      simp (implicitDefEqProofs := false) [-k_sSeq, Ss.wipe, -k_sTry, ft]
      refine wpS ?_
      simp (implicitDefEqProofs := false) [-k_sSeq, Ss.wipe, -k_sTry, ni]
      exact en
    | false =>
      obtain ⟨qs, eq⟩ := faults_all ca
      obtain ⟨e1, e2⟩ := faults_iff.mp eq
      have eL := oRw_map eq
      rw [ca] at ni
      rw [eL] at ni ft ⊢
      have xw := x_is_weatherA (S := S) (td_wAsX e2) (by omega)
      have qne : qs ≠ [] := fun h => ne (by rw [e1, h]; rfl)
      have zq : z = txW qs := by
        rw [← jz, e1]
        exact (if_neg qne).symm
      have im : imm (.tup (wAs qs)) = true := rfl
      cases cw : isW (.tup (wAs qs)) with
      | true =>
        rw [cw] at xw
        have ok := (isW_ok e2).mp cw
        have ew : weaA z = some qs := weaA_iff.mpr ⟨ok, zq⟩
        generalize hL : wAs qs = L at ft ni xw im ⊢
        simp (implicitDefEqProofs := false) [-k_sSeq, Ss.wipe, -k_sTry, ft]
        refine wpS ?_
        simp (implicitDefEqProofs := false) [-k_sSeq, Ss.wipe, -k_sTry, ni, xw]
        exact ⟨qs, ew, by rw [hL]⟩
      | false =>
        rw [cw] at xw
        have en : weaA z = none := by
          cases h : weaA z with
          | none => rfl
          | some ws =>
            obtain ⟨_, h1, h2⟩ := back ws h
            have : ws.map rowT = qs.map rowT := by rw [← h2, e1]
            have e3 := rows_inj (smR_ok h1) e2 this
            rw [e3] at h1
            rw [(isW_ok e2).mpr h1] at cw
            cases cw
        generalize wAs qs = L at ft ni xw im ⊢
        simp (implicitDefEqProofs := false) [-k_sSeq, Ss.wipe, -k_sTry, ft]
        refine wpS ?_
        simp (implicitDefEqProofs := false) [-k_sSeq, Ss.wipe, -k_sTry, ni, xw]
        exact en
  cases e : m_read_weather [.str z] S with
  | bad => rw [e] at goal; exact goal.out.elim
  | ok d S' =>
    rw [e] at goal
    obtain ⟨rfl, ws, h, rfl⟩ := goal.out
    rw [h]
  | err c S' =>
    rw [e] at goal
    obtain ⟨rfl, rfl, h⟩ := goal.out
    rw [h]
end
end Fk
-- base: k60
/-! ## texts walked: orders and weathers written -/
namespace Fk
open PySem PySem.Spec PyProof.Rows L2
theorem lgN {n : Nat} (h : n < 1000000000) : lg (n : Int) = true := by
  unfold lg
  rw [decide_eq_true_eq]
  have e : (n : Int).natAbs = n := by omega
  rw [e]
  rcases Nat.eq_zero_or_pos n with z | z
  · subst z; decide
  · have : n.log2 < 30 := (Nat.log2_lt (by omega)).mpr (by omega)
    omega
theorem st_num (S : List AV) {n : Nat} (h : n < 1000000000) : fStr S [.int n] = some (.str (nTx n)) := by
  have e : fStr S [.int n] = if lg (n : Int) = true then some (.str (toString (n : Int))) else none := rfl
  rw [e, if_pos (lgN h)]
  rfl
theorem asSs_map : ∀ ws : List Str, asSs (ws.map .str) = some ws
  | [] => rfl
  | w :: ws => by
    show (asSs (ws.map .str)).map (w :: ·) = _
    rw [asSs_map ws]
    rfl
theorem jn_bl (o : Bool) {ws : List Str} (h : (ws.map (·.length)).sum + ws.length ≤ 10000000) : jnA (.str " ") (.lst o (ws.map .str)) = some (.str (jnS ws)) := by
  have e : jnA (.str " ") (.lst o (ws.map .str)) = (asSs (ws.map .str)).bind fun zs => if (zs.map (·.length)).sum + zs.length * (" " : Str).length ≤ 16777216 then some (.str (Txt.join " " zs)) else none := rfl
  rw [e, asSs_map]
  have h1 : (" " : Str).length = 1 := by kernel_rfl
  show (if (ws.map (·.length)).sum + ws.length * (" " : Str).length ≤ 16777216 then some (AV.str (Txt.join " " ws)) else none) = _
  rw [if_pos (by rw [h1]; omega)]
  rfl
theorem sum9 : ∀ {ws : List Str} {m : Nat}, (∀ w ∈ ws, w.length ≤ m) → (ws.map (·.length)).sum ≤ ws.length * m
  | [], m, _ => by simp
  | w :: ws, m, h => by
    have h1 := h w (by simp)
    have h2 := sum9 (ws := ws) (m := m) fun x hx => h x (by simp [hx])
    simp only [List.map_cons, List.sum_cons, List.length_cons]
    rw [Nat.add_mul]
    omega
theorem jn_small (o : Bool) {ws : List Str} (h : ∀ w ∈ ws, w.length ≤ 1000) (hl : ws.length ≤ 1000) : jnA (.str " ") (.lst o (ws.map .str)) = some (.str (jnS ws)) := jn_bl o (by
  have h1 := sum9 h
  have h2 : ws.length * 1000 ≤ 1000 * 1000 := Nat.mul_le_mul_right _ hl
  omega)
/-! the rows of a group, one behind the other -/
theorem compI_X {S : List AV} {A B C : Sl} (r : Nat × Nat) (acc : List AV) (h : acc.length ≤ 100) : compI (gN 4) (eVar 4) [4] [.int r.1, .int r.2] acc ⟨[A, B, C, .im (rwX r), .no], S⟩ = .ok (acc ++ [.int r.1, .int r.2]) ⟨[A, B, C, .im (rwX r), .no], S⟩ := by
  have h1 : acc.length < 16777216 := by omega
  have h2 : (acc ++ [AV.int r.1]).length < 16777216 := by simp; omega
  unfold compI
  have e1 : gN 4 (.int r.1) ⟨[A, B, C, .im (rwX r), .no], S⟩ = some ⟨[A, B, C, .im (rwX r), .im (.int r.1)], S⟩ := rfl
  have e2 : eVar 4 ⟨[A, B, C, .im (rwX r), .im (.int r.1)], S⟩ = .ok (.int r.1) ⟨[A, B, C, .im (rwX r), .im (.int r.1)], S⟩ := rfl
  have e3 : (⟨[A, B, C, .im (rwX r), .im (.int r.1)], S⟩ : Ss).wipe [4] = ⟨[A, B, C, .im (rwX r), .no], S⟩ := rfl
  simp only [e1, e2, if_pos h1, e3]
  unfold compI
  have e4 : gN 4 (.int r.2) ⟨[A, B, C, .im (rwX r), .no], S⟩ = some ⟨[A, B, C, .im (rwX r), .im (.int r.2)], S⟩ := rfl
  have e5 : eVar 4 ⟨[A, B, C, .im (rwX r), .im (.int r.2)], S⟩ = .ok (.int r.2) ⟨[A, B, C, .im (rwX r), .im (.int r.2)], S⟩ := rfl
  have e6 : (⟨[A, B, C, .im (rwX r), .im (.int r.2)], S⟩ : Ss).wipe [4] = ⟨[A, B, C, .im (rwX r), .no], S⟩ := rfl
  simp only [e4, e5, if_pos h2, e6]
  simp [compI]
theorem compO_X {S : List AV} {A B C : Sl} : ∀ (rows : List (Nat × Nat)) (acc : List AV), acc.length + 2 * rows.length ≤ 100 →
    compO (gN 3) (iOf (eVar 3)) (gN 4) (eVar 4) [3, 4] [4] (rows.map rwX) acc ⟨[A, B, C, .no, .no], S⟩ = .ok (acc ++ (flat rows).map iA) ⟨[A, B, C, .no, .no], S⟩
  | [], acc, _ => by simp [compO, flat]
  | r :: rs, acc, h => by
    simp only [List.length_cons] at h
    have ih := compO_X (S := S) (A := A) (B := B) (C := C) rs (acc ++ [.int r.1, .int r.2]) (by simp; omega)
    rw [List.map_cons]
    unfold compO
    have e1 : gN 3 (rwX r) ⟨[A, B, C, .no, .no], S⟩ = some ⟨[A, B, C, .im (rwX r), .no], S⟩ := rfl
    have e2 : iOf (eVar 3) ⟨[A, B, C, .im (rwX r), .no], S⟩ = .ok [.int r.1, .int r.2] ⟨[A, B, C, .im (rwX r), .no], S⟩ := rfl
    have e3 : (⟨[A, B, C, .im (rwX r), .no], S⟩ : Ss).wipe [4] = ⟨[A, B, C, .im (rwX r), .no], S⟩ := rfl
    have e4 : (⟨[A, B, C, .im (rwX r), .no], S⟩ : Ss).wipe [3, 4] = ⟨[A, B, C, .no, .no], S⟩ := rfl
    simp only [e1, e2, e3, compI_X r acc (by omega), e4, ih]
    simp [flat, iA]
theorem shape_okX {S : List AV} {o : Ox} (h : okOx o) : m_has_shape [o.av] S = .ok (.bl true) S := by
  have hs := shape_of h
  have lt : ∀ n ∈ o.ns, n < 1000000000 := fun n hn => by have := ns_small h n hn; omega
  by_cases hg : o.kd = "group"
  · cases o with
    | gr rows =>
      have x := x_shapeG (S := S) (rows := rows) lt
      rw [rowsB_iff.mpr h] at x
      exact x
    | md => exact absurd hg (by show ¬ ("mend" : Str) = "group"; decide +kernel)
    | rd p => exact absurd hg (by show ¬ ("read" : Str) = "group"; decide +kernel)
    | tr p => exact absurd hg (by show ¬ ("trim" : Str) = "group"; decide +kernel)
    | wr p d => exact absurd hg (by show ¬ ("write" : Str) = "group"; decide +kernel)
  · have ok : PyData.strOk o.kd = true := by
      have h : ∀ w ∈ (["mend", "read", "trim", "write", "group"] : List Str), PyData.strOk w = true := by decide +kernel
      exact h _ (kd_is o)
    have x := x_shapeX (S := S) ok lt hg
    rw [shape_AB hg, hs, wnA_of hg] at x
    exact x
section
variable {S : List AV}
theorem kd_small (o : Ox) (h : okOx o) : ∀ w ∈ o.kd :: o.ns.map nTx, w.length ≤ 1000 := fun w hw => by
  rcases List.mem_cons.mp hw with rfl | hw
  · have := kd_len o
    omega
  · obtain ⟨n, hn, rfl⟩ := List.mem_map.mp hw
    have := nTx_9 (n := n) (by have := ns_small h n hn; omega)
    omega
theorem x_written {o : Ox} (h : okOx o) : m_written [o.av] S = .ok (.str o.tx) S := by
  have lt : ∀ n ∈ o.ns, n < 1000000000 := fun n hn => by have := ns_small h n hn; omega
  have ln8 := ns_len h
  have jn := jn_small false (kd_small o h) (by simp; omega)
  have ad : oAdd (.lst false [.str o.kd]) (.lst false ((o.ns.map nTx).map .str)) = some (.lst false ((o.kd :: o.ns.map nTx).map .str)) := add_lstV [.str o.kd] _ (by simp; omega)
  have tx : jnS (o.kd :: o.ns.map nTx) = o.tx := rfl
  rw [tx] at jn
  have sm : (o.ns.map nTx).map AV.str = o.ns.map fun n => .str (nTx n) := by rw [List.map_map]; rfl
  rw [sm] at ad
  have sn := fun n hn => st_num S (lt n hn)
  refine wp_eq ?_
  unfold m_written
  refine wpF ?_
  by_cases hg : o.kd = "group"
  · cases o with
    | gr rows =>
      have rl := (h : okRX rows).l4
      have ht : gSt 1 2 (Ox.gr rows).av ⟨[.im (Ox.gr rows).av, .no, .no, .no, .no], S⟩ = some ⟨[.im (Ox.gr rows).av, .im (.str "group"), .im (.lst false [.tup (rows.map rwX)]), .no, .no], S⟩ := rfl
      have qg : oEq (.str "group") (.str "group") = some (.bl true) := by kernel_rfl
      have i1 : ∀ S', ixA S' (.lst false [.tup (rows.map rwX)]) (.int 0) = some (.tup (rows.map rwX)) := fun S' => ix_l S' _ _ 0
      have it : itemsOf (.tup (rows.map rwX)) = some (rows.map rwX) := rfl
      have imR : imm (.tup (rows.map rwX)) = true := rfl
      have co := fun A B C => compO_X (S := S) (A := A) (B := B) (C := C) rows [] (by simp; omega)
      have ns : (Ox.gr rows).ns = flat rows := rfl
      rw [ns] at sn ad ln8 jn
      have kd : (Ox.gr rows).kd = "group" := rfl
      rw [kd] at ad jn
      generalize AV.lst false ((("group" : Str) :: (flat rows).map nTx).map AV.str) = J at jn ad
      generalize AV.lst false [.tup (rows.map rwX)] = L at ht i1
      generalize hR : AV.tup (rows.map rwX) = R at i1 it imR
      generalize (Ox.gr rows).av = O at ht
      refine wpS ?_
      simp (implicitDefEqProofs := false) [-k_sSeq, Ss.wipe, -k_sTry, ht]
      refine wpS ?_
      simp (implicitDefEqProofs := false) [-k_sSeq, Ss.wipe, -k_sTry, qg, i1, imR, it, co]
      refine wpB (wpLX (fun n => .str (nTx n)) (fun n hn => ?_) (by omega) ?_)
      · refine ⟨_, rfl, ?_⟩
        simp (implicitDefEqProofs := false) [-k_sSeq, Ss.wipe, -k_sTry, iA, sn n hn]
      simp (implicitDefEqProofs := false) [-k_sSeq, Ss.wipe, -k_sTry, ad, jn]
    | md => exact absurd hg (by show ¬ ("mend" : Str) = "group"; decide +kernel)
    | rd p => exact absurd hg (by show ¬ ("read" : Str) = "group"; decide +kernel)
    | tr p => exact absurd hg (by show ¬ ("trim" : Str) = "group"; decide +kernel)
    | wr p d => exact absurd hg (by show ¬ ("write" : Str) = "group"; decide +kernel)
  · have ea := wnA_of hg
    have ht : gSt 1 2 (wnA o.kd o.ns) ⟨[.im (wnA o.kd o.ns), .no, .no, .no, .no], S⟩ = some ⟨[.im (wnA o.kd o.ns), .im (.str o.kd), .im (.lst false (o.ns.map iA)), .no, .no], S⟩ := rfl
    rw [ea] at ht
    have qg := eqs o.kd "group"
    rw [decide_eq_false hg] at qg
    generalize AV.lst false ((o.kd :: o.ns.map nTx).map AV.str) = J at jn ad
    generalize o.av = O at ht
    generalize o.tx = X at jn ⊢
    generalize o.kd = k at *
    refine wpS ?_
    simp (implicitDefEqProofs := false) [-k_sSeq, Ss.wipe, -k_sTry, ht]
    refine wpS ?_
    simp (implicitDefEqProofs := false) [-k_sSeq, Ss.wipe, -k_sTry, qg]
    refine wpB (wpLX (fun n => .str (nTx n)) (fun n hn => ?_) (by omega) ?_)
    · refine ⟨_, rfl, ?_⟩
      simp (implicitDefEqProofs := false) [-k_sSeq, Ss.wipe, -k_sTry, iA, sn n hn]
    simp (implicitDefEqProofs := false) [-k_sSeq, Ss.wipe, -k_sTry, ad, jn]
theorem x_order_text {o : Ox} (h : okOx o) : m_order_text [o.av] S = .ok (.str o.tx) S := by
  have h1 := shape_okX (S := S) h
  have h2 := x_written (S := S) h
  generalize o.av = O at h1 h2
  unfold m_order_text
  rw [fnM_ret]
  simp (implicitDefEqProofs := false) [h1, h2, asB]
end
end Fk
-- base: k60
/-! ## texts walked: weathers written, the law's texts -/
namespace Fk
open PySem PySem.Spec PyProof.Rows L2
def fkF : Flt → Str
  | .cut => "cut"
  | .bad => "bad"
  | .bit _ => "bit"
  | .fine => ""
def fnF : Flt → List Nat
  | .bit i => [i]
  | _ => []
def jn0 (ws : List Str) : Str := Txt.join "" ws
theorem fav_eq {f : Flt} (h : okFt f) : f.av = .tup (.str (fkF f) :: (fnF f).map iA) := by
  cases f <;> first | rfl | exact h.elim
theorem fn_lt {f : Flt} (h : okFt f) : ∀ n ∈ fnF f, n < 1000000000 := by
  intro n hn
  cases f with
  | bit i =>
    obtain rfl : n = i := by simpa [fnF] using hn
    have : n ≤ 46 := h
    omega
  | _ => cases hn
theorem fk_len (f : Flt) : (fkF f).length ≤ 3 := by
  have h : ∀ w ∈ (["cut", "bad", "bit", ""] : List Str), w.length ≤ 3 := by decide +kernel
  exact h _ (by cases f <;> simp [fkF])
theorem fn_len (f : Flt) : (fnF f).length ≤ 1 := by
  cases f <;> simp [fnF]
theorem tl_emp : TL.tl ("" : Str) = [] := by kernel_rfl
theorem tl_empty : TL.tl Str.empty = [] := by kernel_rfl
theorem jn0_tl (ws : List Str) : TL.tl (jn0 ws) = TL.joinL [] (ws.map TL.tl) := by
  unfold jn0
  rw [TL.join_eq, TL.tl_join, tl_emp]
theorem jn0_cons (w : Str) (ws : List Str) : jn0 (w :: ws) = w ++ jn0 ws := TL.ext_tl (by
  rw [jn0_tl, TL.tl_append, jn0_tl]
  cases ws with
  | nil => simp [TL.joinL]
  | cons v r =>
    show TL.tl w ++ ([] ++ _) = _
    simp)
theorem jn0_f {f : Flt} (h : okFt f) : wdF f = fkF f ++ jn0 ((fnF f).map nTx) := by
  have e : ∀ z : Str, z = z ++ jn0 [] := fun z => TL.ext_tl (by rw [TL.tl_append, jn0_tl]; simp [TL.joinL])
  cases f with
  | fine => exact h.elim
  | cut => exact e _
  | bad => exact e _
  | bit i =>
    show "bit" ++ nTx i = "bit" ++ jn0 [nTx i]
    rw [jn0_cons, ← e]
theorem jn_e (o : Bool) {ws : List Str} (h : ∀ w ∈ ws, w.length ≤ 1000) (hl : ws.length ≤ 1000) : jnA (.str "") (.lst o (ws.map .str)) = some (.str (jn0 ws)) := by
  have e : jnA (.str "") (.lst o (ws.map .str)) = (asSs (ws.map .str)).bind fun zs => if (zs.map (·.length)).sum + zs.length * ("" : Str).length ≤ 16777216 then some (.str (Txt.join "" zs)) else none := rfl
  rw [e, asSs_map]
  have h1 : ("" : Str).length = 0 := by kernel_rfl
  have h2 := sum9 h
  have h3 : ws.length * 1000 ≤ 1000 * 1000 := Nat.mul_le_mul_right _ hl
  show (if (ws.map (·.length)).sum + ws.length * ("" : Str).length ≤ 16777216 then some (AV.str (Txt.join "" ws)) else none) = _
  rw [if_pos (by rw [h1]; omega)]
  rfl
@[simp] theorem k_eJsC (m : M AV) (ms : List (M AV)) (acc : Str) (r0 : List Sl) (s0 : List AV) : eJs (m :: ms) acc (Ss.mk r0 s0) = (m (Ss.mk r0 s0)).bind fun x s1 => match x with
    | .str y => if (acc ++ y).length ≤ 16777216 then eJs ms (acc ++ y) s1 else .bad
    | _ => .bad := id rfl
theorem len_app (a b : Str) : (a ++ b).length = a.length + b.length := by
  rw [TL.len_tl, TL.tl_append, List.length_append, ← TL.len_tl, ← TL.len_tl]
theorem row_eq (p : Nat × Flt) (h : okFt p.2) : Str.empty ++ nTx p.1 ++ ":" ++ fkF p.2 ++ jn0 ((fnF p.2).map nTx) = rowT p := by
  unfold rowT
  rw [jn0_f h]
  refine TL.ext_tl ?_
  simp only [TL.tl_append, tl_empty, List.nil_append, List.append_assoc]
section
variable {S : List AV}
theorem x_need_wX {ws : List (Nat × Flt)} (h : okW ws) : m_need_weather [.tup (wAs ws)] S = .ok .non S := by
  have x := x_is_weather (S := S) h
  generalize AV.tup (wAs ws) = W at x
  unfold m_need_weather
  rw [fnM_ret]
  simp (implicitDefEqProofs := false) [x, asB]
def wtI (W : AV) (ws : List (Nat × Flt)) (S : List AV) (j : Nat) (st : Ss) : Prop := ∃ s2 s3 s4, st = ⟨[.im W, .ow (.lst true (((ws.take j).map rowT).map AV.str)), s2, s3, s4, .no], S⟩
theorem x_weather_text {ws : List (Nat × Flt)} (h : okW ws) : m_weather_text [.tup (wAs ws)] S = .ok (.str (txW ws)) S := by
  have nw := x_need_wX (S := S) h
  have it : itemsOf (.tup (wAs ws)) = some (wAs ws) := rfl
  have hl := h.len
  have rl : ∀ w ∈ ws.map rowT, w.length ≤ 1000 := fun w hw => by
    obtain ⟨p, hp, rfl⟩ := List.mem_map.mp hw
    obtain ⟨a, b⟩ := h.each p hp
    have := row_len a b
    omega
  have jn := jn_small false rl (by simp; omega)
  have tl := txW_len h
  refine wp_eq ?_
  unfold m_weather_text
  refine wpF ?_
  generalize hW : AV.tup (wAs ws) = W at nw it
  refine wpS ?_
  simp (implicitDefEqProofs := false) [-k_sSeq, Ss.wipe, -k_sTry, nw]
  refine wpS ?_
  simp (implicitDefEqProofs := false) [-k_sSeq, Ss.wipe, -k_sTry]
  refine wpS ?_
  simp (implicitDefEqProofs := false) [-k_sSeq, Ss.wipe, -k_sTry, it]
  refine wpO (wtI W ws S) ⟨_, _, _, rfl⟩ (fun j d st hd hI => ?_) fun st hI => ?_
  · obtain ⟨s2, s3, s4, rfl⟩ := hI
    have hj : j < ws.length := by
      have := (List.getElem?_eq_some_iff.mp hd).1
      simpa [wAs] using this
    have hd2 : d = .tup [.int ws[j].1, ws[j].2.av] := by
      have : (wAs ws)[j]? = some (.tup [.int ws[j].1, ws[j].2.av]) := by simp [wAs, hj]
      rw [this] at hd
      exact (Option.some.inj hd).symm
    have tk : (ws.take (j + 1)) = ws.take j ++ [ws[j]] := List.take_succ_eq_append_getElem hj
    obtain ⟨p1, p2⟩ := h.each ws[j] (List.getElem_mem hj)
    have rw_ := row_eq ws[j] p2
    have fv := fav_eq p2
    have fl := fn_lt p2
    have fl1 := fn_len ws[j].2
    have fk3 := fk_len ws[j].2
    rw [hd2, fv]
    clear hd
    have wt : ∀ s2 s3 s4, wtI W ws S (j + 1) ⟨[.im W, .ow (.lst true (((ws.take j).map rowT).map AV.str ++ [.str (rowT ws[j])])), s2, s3, s4, .no], S⟩ := fun s2 s3 s4 => ⟨s2, s3, s4, by rw [tk, List.map_append, List.map_append]; rfl⟩
    have al : (((ws.take j).map rowT).map AV.str).length < 16777216 := by simp; omega
    generalize ((ws.take j).map rowT).map AV.str = acc at wt al ⊢
    generalize rowT ws[j] = T at rw_ wt
    generalize fkF ws[j].2 = k at *
    generalize fnF ws[j].2 = ns at *
    generalize ws[j].1 = n at *
    have n9 := nTx_9 (n := n) (by omega)
    have fm1 : fmA (.int n) = some (.str (nTx n)) := by
      have e : fmA (.int n) = if lg (n : Int) = true then some (.str (toString (n : Int))) else none := rfl
      rw [e, if_pos (lgN (by omega))]
      rfl
    have fm2 : fmA (.str ":") = some (.str ":") := by kernel_rfl
    have fm3 : fmA (.str k) = some (.str k) := by
      have e : fmA (.str k) = if k.length ≤ 16777216 then some (.str k) else none := rfl
      rw [e, if_pos (by omega)]
    have lc : (":" : Str).length = 1 := by kernel_rfl
    have le : Str.empty.length = 0 := by kernel_rfl
    have q1 : (Str.empty ++ nTx n).length ≤ 16777216 := by rw [len_app]; omega
    have q2 : (Str.empty ++ nTx n ++ ":").length ≤ 16777216 := by rw [len_app, len_app]; omega
    have q3 : (Str.empty ++ nTx n ++ ":" ++ k).length ≤ 16777216 := by rw [len_app, len_app, len_app]; omega
    have sn := fun m hm => st_num S (fl m hm)
    have js := jn_e false (ws := ns.map nTx) (fun w hw => by
      obtain ⟨m, hm, rfl⟩ := List.mem_map.mp hw
      have := nTx_9 (fl m hm)
      omega) (by simp; omega)
    have jl : (jn0 (ns.map nTx)).length ≤ 9 := by
      match ns, fl1 with
      | [], _ =>
        show (jn0 []).length ≤ 9
        decide +kernel
      | [m], _ =>
        show (jn0 [nTx m]).length ≤ 9
        rw [jn0_cons, len_app]
        have : (jn0 []).length = 0 := by kernel_rfl
        have := nTx_9 (fl m (by simp))
        omega
      | _ :: _ :: _, h => simp at h
    have ad : oAdd (.str (Str.empty ++ nTx n ++ ":" ++ k)) (.str (jn0 (ns.map nTx))) = some (.str T) := by
      have e : ∀ a b : Str, oAdd (.str a) (.str b) = if a.length + b.length ≤ 16777216 then some (.str (a ++ b)) else none := fun a b => rfl
      rw [e, if_pos (by rw [len_app, len_app, len_app]; omega), rw_]
    have sm : (ns.map nTx).map AV.str = ns.map fun m => .str (nTx m) := by rw [List.map_map]; rfl
    rw [sm] at js
    have ht : gT 2 (gCons' (gN 2) (gCons' (gSt 3 4) gNil')) (.tup [.int n, .tup (.str k :: ns.map iA)]) ⟨[.im W, .ow (.lst true acc), s2, s3, s4, .no], S⟩ = some ⟨[.im W, .ow (.lst true acc), .im (.int n), .im (.str k), .im (.lst false (ns.map iA)), .no], S⟩ := rfl
    refine ⟨_, ht, ?_⟩
    simp (implicitDefEqProofs := false) [-k_sSeq, Ss.wipe, -k_sTry, fm1, fm2, fm3, q1, q2, q3]
    refine wpB (wpLX (fun m => .str (nTx m)) (fun m hm => ?_) (by omega) ?_)
    · refine ⟨_, rfl, ?_⟩
      simp (implicitDefEqProofs := false) [-k_sSeq, Ss.wipe, -k_sTry, iA, sn m hm]
    simp (implicitDefEqProofs := false) [-k_sSeq, Ss.wipe, -k_sTry, js, ad, ownL, putL, al]
    exact wt _ _ _
  · obtain ⟨s2, s3, s4, rfl⟩ := hI
    have tk : ws.take (wAs ws).length = ws := by
      have : (wAs ws).length = ws.length := by simp [wAs]
      rw [this, List.take_length]
    rw [tk]
    have te : jnS (ws.map rowT) = if ws = [] then ("" : Str) else txW ws := by
      by_cases c : ws = []
      · rw [if_pos c, c]; kernel_rfl
      · rw [if_neg c]; exact (if_neg c).symm
    by_cases c : ws = []
    · rw [if_pos c] at te
      have tx : txW ws = "-" := if_pos c
      rw [te] at jn
      have sb : strB (.str "") = some false := by kernel_rfl
      rw [tx]
      generalize (ws.map rowT).map AV.str = L at jn ⊢
      simp (implicitDefEqProofs := false) [-k_sSeq, Ss.wipe, -k_sTry, jn, sb]
    · rw [if_neg c] at te
      rw [te] at jn
      have tne : 1 ≤ (txW ws).length := by
        cases e : ws with
        | nil => exact absurd e c
        | cons p r =>
          rw [← e, ← te]
          cases h : (jnS (ws.map rowT)).length with
          | succ n => omega
          | zero =>
            have h2 := rows_sp c
            have h3 : jnS (ws.map rowT) = "" := TL.ext_tl (List.eq_nil_of_length_eq_zero (by rw [← TL.len_tl]; exact h))
            rw [h3] at h2
            have h4 : spS "" = ([("" : Str)] : List Str) := by kernel_rfl
            rw [h4, e] at h2
            simp only [List.map_cons, List.cons.injEq] at h2
            have := row_co p
            rw [← h2.1, tl_emp] at this
            cases this
      have sb : strB (.str (txW ws)) = some true := by
        have e : strB (.str (txW ws)) = if (txW ws).length ≤ 1000 then some (((txW ws).length : Int) != 0) else none := rfl
        rw [e, if_pos tl]
        congr 1
        have : ((txW ws).length : Int) ≠ 0 := by omega
        simp [bne_iff_ne, this]
        omega
      generalize (ws.map rowT).map AV.str = L at jn ⊢
      simp (implicitDefEqProofs := false) [-k_sSeq, Ss.wipe, -k_sTry, jn, sb]
end
end Fk
-- base: k60
/-! ## the law's own texts -/
namespace Fk
open PySem PySem.Spec PyProof.Rows L2
section
variable {S : List AV}
/-! weathers -/
theorem rowT_ok (p : Nat × Flt) : PyData.strOk (rowT p) = true := strOk_iff.mpr fun c hc => by
  unfold rowT at hc
  rw [TL.tl_append, TL.tl_append, tl_co] at hc
  have hb : ∀ l : List Nat, (l.all fun c => decide (c < 1000)) = true → ∀ c ∈ l, c < 0x110000 := fun l hl c hm => by
    have := of_decide_eq_true (List.all_eq_true.mp hl c hm)
    omega
  simp only [List.mem_append, List.mem_singleton] at hc
  rcases hc with (hc | hc) | hc
  · exact strOk_iff.mp (nTx_ok _) c hc
  · omega
  · cases h : p.2 with
    | fine => rw [h] at hc; exact hb _ (by kernel_rfl) c hc
    | cut => rw [h] at hc; exact hb _ (by kernel_rfl) c hc
    | bad => rw [h] at hc; exact hb _ (by kernel_rfl) c hc
    | bit i =>
      rw [h] at hc
      have hc2 : c ∈ TL.tl (("bit" : Str) ++ nTx i) := hc
      rw [TL.tl_append] at hc2
      rcases List.mem_append.mp hc2 with hc | hc
      · exact hb _ (by kernel_rfl) c hc
      · exact strOk_iff.mp (nTx_ok _) c hc
end
end Fk
-- base: k60
/-! ## orders and weathers drawn -/
namespace Fk
open PySem PySem.Spec PyProof.Rows L2
theorem rgl_natG {q : Nat} (h : q ≤ 16) : fRgL (.int q) = some (.lst true ((List.range q).map iA)) := by
  have h2 : fRgL (.int q) = if (0 : Int) ≤ q ∧ (q : Int) ≤ 1000 then some (.lst true (rngL 0 q)) else none := rfl
  rw [h2, if_pos (by omega)]
  unfold rngL
  simp only [Int.sub_zero, Int.toNat_natCast]
  congr 2
  exact List.map_congr_left fun i _ => by simp [iA]
theorem map_eraseG {α β : Type} (f : α → β) : ∀ (xs : List α) (i : Nat), (xs.map f).eraseIdx i = (xs.eraseIdx i).map f
  | [], _ => rfl
  | x :: xs, 0 => rfl
  | x :: xs, i + 1 => by simp [map_eraseG f xs i]
theorem pop_natG {xs : List Nat} {i : Nat} (h : i < xs.length) (h2 : xs.length ≤ 16) : ∃ x, xs[i]? = some x ∧ popA (xs.map iA) (.int i) = some (.int x, (xs.eraseIdx i).map iA) := by
  refine ⟨xs[i], List.getElem?_eq_getElem h, ?_⟩
  have c : (0 : Int) ≤ i ∧ (i : Int) < (xs.map iA).length ∧ (xs.map iA).length ≤ 16777216 := by simp; omega
  show (if (0 : Int) ≤ i ∧ (i : Int) < (xs.map iA).length ∧ (xs.map iA).length ≤ 16777216 then ((xs.map iA)[(i : Int).toNat]?).map fun y => (y, (xs.map iA).eraseIdx (i : Int).toNat) else none) = _
  rw [if_pos c]
  simp only [Int.toNat_natCast, List.getElem?_map, List.getElem?_eq_getElem h, Option.map_some, map_eraseG]
  rfl
theorem nd_eraseG {xs : List Nat} {i x : Nat} (nd : xs.Nodup) (h : xs[i]? = some x) : x ∉ xs.eraseIdx i := by
  induction xs generalizing i with
  | nil => cases h
  | cons a xs ih =>
    obtain ⟨n1, n2⟩ := List.nodup_cons.mp nd
    cases i with
    | zero =>
      obtain rfl : a = x := by simpa using h
      exact n1
    | succ i =>
      have h2 : xs[i]? = some x := by simpa using h
      intro z
      rcases List.mem_cons.mp (show x ∈ a :: xs.eraseIdx i from z) with e | e
      · exact n1 (e ▸ List.mem_of_getElem? h2)
      · exact ih n2 h2 e
def W8 : AV := .tup [.int 8, .int 8, .int 16, .bl true, .bl true]
section
variable {S : List AV} {l : Nat} {Q : AV → List AV → Prop} {E : Str → List AV → Prop}
def rwX6 (S : List AV) (l w q k : Nat) (st : Ss) : Prop := ∃ (s6 : Sl) (S' : List AV) (left : List Nat) (rows : List (Nat × Nat)), st = ⟨[.im (.loc l), .im W8, .im (.int w), .im (.int q), .ow (.lst true (left.map iA)), .ow (.lst true (rows.map rwX)), s6], S'⟩ ∧ Dr S' l ∧ Fr [l] S S' ∧ left.Nodup ∧
  (∀ x ∈ left, x < 16) ∧ (∀ x ∈ rows, x.1 < 16 ∧ x.2 ≤ 63) ∧ (rows.map (·.1)).Nodup ∧ (∀ x ∈ rows, x.1 ∉ left) ∧ rows.length = k ∧ left.length + k = 16
theorem w_orderX (hD : Dr S l) (k : ∀ (o : Ox) (S' : List AV), okOx o → o ≠ .md → Dr S' l → Fr [l] S S' → Q o.av S') : WpR (m__law_order [.loc l, W8] S) Q E := by
  have i2 : ∀ S', ixA S' W8 (.int 2) = some (.int 16) := fun S' => ix_t S' _ 2
  have hI : ∀ (w q : Nat) S', Dr S' l → Fr [l] S S' → rwX6 S l w q 0 ⟨[.im (.loc l), .im W8, .im (.int w), .im (.int q), .ow (.lst true ((List.range 16).map iA)), .ow (.lst true []), .no], S'⟩ := fun w q S' D f =>
    ⟨_, S', List.range 16, [], rfl, D, f, List.nodup_range, fun x hx => by simpa using hx, (fun _ z => by cases z), by simp, (fun _ z => by cases z), rfl, by simp⟩
  have hU : ∀ {w q k : Nat} {st : Ss}, rwX6 S l w q k st → ∃ (s6 : Sl) (S' : List AV) (left : List Nat) (rows : List (Nat × Nat)), st = ⟨[.im (.loc l), .im W8, .im (.int w), .im (.int q), .ow (.lst true (left.map iA)), .ow (.lst true (rows.map rwX)), s6], S'⟩ ∧ Dr S' l ∧ Fr [l] S S' ∧ left.Nodup ∧
      (∀ x ∈ left, x < 16) ∧ (∀ x ∈ rows, x.1 < 16 ∧ x.2 ≤ 63) ∧ (rows.map (·.1)).Nodup ∧ (∀ x ∈ rows, x.1 ∉ left) ∧ rows.length = k ∧ left.length + k = 16 := fun h => h
  have hN : ∀ {w q k : Nat} (s6 : Sl) (S' : List AV) (left : List Nat) (rows : List (Nat × Nat)), Dr S' l → Fr [l] S S' → left.Nodup → (∀ x ∈ left, x < 16) → (∀ x ∈ rows, x.1 < 16 ∧ x.2 ≤ 63) → (rows.map (·.1)).Nodup → (∀ x ∈ rows, x.1 ∉ left) → rows.length = k → left.length + k = 16 → rwX6 S l w q k ⟨[.im (.loc l), .im W8, .im (.int w), .im (.int q), .ow (.lst true (left.map iA)), .ow (.lst true (rows.map rwX)), s6], S'⟩ := fun s6 S' left rows a b c d e f g h i => ⟨s6, S', left, rows, rfl, a, b, c, d, e, f, g, h, i⟩
  have rg : fRgL (.int 16) = some (.lst true ((List.range 16).map iA)) := rgl_natG (q := 16) (by omega)
  have ll : ((List.range 16).map iA).length = 16 := by simp
  unfold m__law_order
  refine wpF ?_
  generalize hL : (List.range 16).map iA = L at rg ll hI
  generalize hA : W8 = A at i2 hI hU hN
  refine wpS ?_
  simp (implicitDefEqProofs := false) [-k_sSeq, Ss.wipe, -k_sTry]
  refine wpC (w_choice hD (by omega) (by omega) fun w S1 hw D1 f1 => ?_)
  simp (implicitDefEqProofs := false) [-k_sSeq, Ss.wipe, -k_sTry, i2]
  refine wpC (w_choice D1 (by omega) (by omega) fun q S2 hq D2 f2 => ?_)
  have hq' : q ≤ 15 := by omega
  by_cases c1 : (w : Int) < 4
  · have t1 : oLt (.int w) (.int 4) = some (.bl true) := by simp [oLt, c1]
    simp (implicitDefEqProofs := false) [-k_sSeq, Ss.wipe, -k_sTry]
    refine wpS ?_
    simp (implicitDefEqProofs := false) [-k_sSeq, Ss.wipe, -k_sTry, t1]
    refine wpC (w_choice D2 (by omega) (by omega) fun d S3 hd D3 f3 => ?_)
    have q := k (.wr q d) S3 ⟨hq', by omega⟩ (fun z => nomatch z) D3 ((f1.tr f2).tr f3)
    simp (implicitDefEqProofs := false) [-k_sSeq, Ss.wipe, -k_sTry, afS]
    exact q
  have t1 : oLt (.int w) (.int 4) = some (.bl false) := by simp [oLt, c1]
  simp (implicitDefEqProofs := false) [-k_sSeq, Ss.wipe, -k_sTry]
  refine wpS ?_
  simp (implicitDefEqProofs := false) [-k_sSeq, Ss.wipe, -k_sTry, t1]
  by_cases c4 : w = 4
  · subst c4
    have t4 : oEq (.int 4) (.int 4) = some (.bl true) := by kernel_rfl
    refine wpS ?_
    simp (implicitDefEqProofs := false) [-k_sSeq, Ss.wipe, -k_sTry, t4]
    exact k (.tr q) S2 hq' (fun z => nomatch z) D2 (f1.tr f2)
  have t4 : oEq (.int w) (.int 4) = some (.bl false) := by simp [oEq, eqA]; omega
  refine wpS ?_
  simp (implicitDefEqProofs := false) [-k_sSeq, Ss.wipe, -k_sTry, t4]
  by_cases c2 : (w : Int) < 7
  · have t2 : oLt (.int w) (.int 7) = some (.bl true) := by simp [oLt, c2]
    have m4 : ∀ S', fMin2 S' [.int 4, .int 16] = some (.int 4) := fun S' => by kernel_rfl
    refine wpS ?_
    simp (implicitDefEqProofs := false) [-k_sSeq, Ss.wipe, -k_sTry, t2]
    refine wpS ?_
    simp (implicitDefEqProofs := false) [-k_sSeq, Ss.wipe, -k_sTry, i2, rg]
    refine wpS ?_
    simp (implicitDefEqProofs := false) [-k_sSeq, Ss.wipe, -k_sTry, i2, m4]
    refine wpC (w_choice D2 (by omega) (by omega) fun u S3 hu D3 f3 => ?_)
    have e1 : oAdd (.int 1) (.int u) = some (.int ((1 + u : Nat) : Int)) := a_add 1 u
    have hn1 : 1 ≤ 1 + u := by omega
    have hn4 : 1 + u ≤ 4 := by omega
    have hnq : 1 + u ≤ 16 := by omega
    generalize 1 + u = n at e1 hn1 hn4 hnq
    have rn := rng_nat (n := n) (by omega)
    have rl : ((List.range n).map iA).length = n := by simp
    generalize (List.range n).map iA = N at rn rl
    simp (implicitDefEqProofs := false) [-k_sSeq, Ss.wipe, -k_sTry, e1, rn]
    refine wpO (rwX6 S l w q) (hI w q S3 D3 ((f1.tr f2).tr f3)) (fun j d st hd hJ => ?_) fun st hJ => ?_
    · have hj : j < n := by
        have := (List.getElem?_eq_some_iff.mp hd).1
        omega
      obtain ⟨s6, S4, left, rows, rfl, D4, f4, nl, hl, hr, nr, dis, len, sum⟩ := hU hJ
      have lpos : 0 < left.length := by omega
      have l16 : left.length ≤ 16 := by omega
      have lf : ∀ S', fLen S' [.lst true (left.map iA)] = some (.int left.length) := fun S' => by simp [fLen, deref, lenA]
      have rlen : rows.length < 16777216 := by omega
      refine ⟨_, rfl, ?_⟩
      simp (implicitDefEqProofs := false) [-k_sSeq, Ss.wipe, -k_sTry, lf, ownL]
      refine wpC (w_choice D4 (by omega) (by omega) fun i S5 hi D5 f5 => ?_)
      obtain ⟨x, hx, pn⟩ := pop_natG (xs := left) (i := i) (by omega) l16
      simp (implicitDefEqProofs := false) [-k_sSeq, Ss.wipe, -k_sTry, ownL, pn, putL]
      refine wpC (w_choice D5 (by omega) (by omega) fun y S6 hy D6 f6 => ?_)
      have mx := List.mem_of_getElem? hx
      have le := List.length_eraseIdx_of_lt (l := left) (i := i) (by omega)
      have fin : rwX6 S l w q (j + 1) ⟨[.im (.loc l), .im A, .im (.int w), .im (.int q), .ow (.lst true ((left.eraseIdx i).map iA)), .ow (.lst true ((rows ++ [(x, y)]).map rwX)), .im d], S6⟩ := by
        refine hN _ S6 (left.eraseIdx i) (rows ++ [(x, y)]) D6 ((f4.tr f5).tr f6) (nl.sublist (List.eraseIdx_sublist left i)) (fun z hz => hl z (List.mem_of_mem_eraseIdx hz)) ?_ ?_ ?_ (by simp; omega) (by omega)
        · intro z hz
          rcases List.mem_append.mp hz with hz | hz
          · exact hr z hz
          · obtain rfl : z = (x, y) := by simpa using hz
            exact ⟨hl x mx, by simp only; omega⟩
        · rw [List.map_append, List.nodup_append]
          refine ⟨nr, by simp, fun a ha b hb => ?_⟩
          obtain ⟨z, hz, rfl⟩ := List.mem_map.mp ha
          obtain rfl : b = x := by simpa using hb
          intro e
          exact dis z hz (e ▸ mx)
        · intro z hz hm
          rcases List.mem_append.mp hz with hz | hz
          · exact dis z hz (List.mem_of_mem_eraseIdx hm)
          · obtain rfl : z = (x, y) := by simpa using hz
            exact nd_eraseG nl hx hm
      have em : rows.map rwX ++ [.tup [.int x, .int y]] = (rows ++ [(x, y)]).map rwX := by simp [rwX]
      simp (implicitDefEqProofs := false) [-k_sSeq, Ss.wipe, -k_sTry, ownL, putL, rlen]
      rw [em]
      exact fin
    · rw [rl] at hJ
      obtain ⟨s6, S4, left, rows, rfl, D4, f4, nl, hl, hr, nr, dis, len, sum⟩ := hU hJ
      have q := k (.gr rows) S4 ⟨by omega, by omega, (fun r z => by have := hr r z; omega), nr⟩ (fun z => nomatch z) D4 f4
      simp (implicitDefEqProofs := false) [-k_sSeq, Ss.wipe, -k_sTry, fTup, afS]
      exact q
  · have t2 : oLt (.int w) (.int 7) = some (.bl false) := by simp [oLt, c2]
    refine wpS ?_
    simp (implicitDefEqProofs := false) [-k_sSeq, Ss.wipe, -k_sTry, t2]
    exact k (.rd q) S2 hq' (fun z => nomatch z) D2 (f1.tr f2)
end
end Fk
-- base: k60
/-! ## any order, any weather drawn -/
namespace Fk
open PySem PySem.Spec PyProof.Rows L2
section
variable {S : List AV} {l : Nat} {Q : AV → List AV → Prop} {E : Str → List AV → Prop}
def awX (far : Nat) (S : List AV) (l k : Nat) (st : Ss) : Prop := ∃ ps s3 s4 s5 S', st = ⟨[.im (.loc l), .im (.int far), .ow (flM ps), s3, s4, s5], S'⟩ ∧ Dr S' l ∧ Fr [l] S S' ∧ okB9 ps ∧ ps.length ≤ k
theorem w_anyX {far : Nat} (h1f : 1 ≤ far) (h2f : far ≤ 10000) (hD : Dr S l) (k : ∀ (ws : List (Nat × Flt)) (S' : List AV), okW ws → Dr S' l → Fr [l] S S' → Q (.tup (wAs ws)) S') : WpR (m__law_any_weather [.loc l, .int far] S) Q E := by
  unfold m__law_any_weather
  refine wpF ?_
  refine wpS ?_
  simp (implicitDefEqProofs := false) [-k_sSeq, Ss.wipe, -k_sTry]
  refine wpS ?_
  simp (implicitDefEqProofs := false) [-k_sSeq, Ss.wipe, -k_sTry]
  refine wpC (w_choice hD (by omega) (by omega) fun r S1 hr D1 f1 => ?_)
  have i0 := ix_l S1 false [.int 0, .int 1, .int 5, .int 40] r
  obtain ⟨n, e0, hn⟩ : ∃ n : Nat, ([.int 0, .int 1, .int 5, .int 40] : List AV)[r]? = some (.int n) ∧ n ≤ 40 := by
    have : r = 0 ∨ r = 1 ∨ r = 2 ∨ r = 3 := by omega
    rcases this with rfl | rfl | rfl | rfl
    · exact ⟨0, rfl, by omega⟩
    · exact ⟨1, rfl, by omega⟩
    · exact ⟨5, rfl, by omega⟩
    · exact ⟨40, rfl, by omega⟩
  rw [e0] at i0
  have rn := rng_nat (n := n) (by omega)
  have rl : ((List.range n).map iA).length = n := by simp
  generalize (List.range n).map iA = L at rn rl
  have imn : imm (.int (n : Int)) = true := rfl
  simp (implicitDefEqProofs := false) [-k_sSeq, Ss.wipe, -k_sTry, i0, rn]
  refine wpO (awX far S l) ⟨[], _, _, _, S1, rfl, D1, f1, ⟨by simp, by simp⟩, by simp⟩ (fun j d st hd hI => ?_) fun st hI => ?_
  · obtain ⟨ps, s3, s4, s5, S2, rfl, D2, f2, B, hl⟩ := hI
    have hj : j < n := by
      have := (List.getElem?_eq_some_iff.mp hd).1
      omega
    refine ⟨_, rfl, ?_⟩
    refine wpS ?_
    simp (implicitDefEqProofs := false) [-k_sSeq, Ss.wipe, -k_sTry]
    refine wpC (w_choice D2 (by omega) (by omega) fun a S3 ha D3 f3 => ?_)
    simp (implicitDefEqProofs := false) [-k_sSeq, Ss.wipe, -k_sTry]
    refine wpC (w_choice D3 (by omega) (by omega) fun r S4 hr D4 f4 => ?_)
    have i5 := ix_l S4 false [.tup [.str "cut"], .tup [.str "bad"], .tup [.str "bit", .int a], .tup [.str "bit", .int 46]] r
    obtain ⟨f, e5, ok⟩ := pick9 (r := r) (by omega) a (by omega)
    rw [e5] at i5
    have im := imm_ft f
    generalize hT : f.av = T at i5 im
    simp (implicitDefEqProofs := false) [-k_sSeq, Ss.wipe, -k_sTry, i5, im]
    refine wpS ?_
    simp (implicitDefEqProofs := false) [-k_sSeq, Ss.wipe, -k_sTry]
    refine wpC (w_choice D4 (by omega) (by omega) fun c S5 hc D5 f5 => ?_)
    simp (implicitDefEqProofs := false) [-k_sSeq, Ss.wipe, -k_sTry]
    refine wpC (w_choice D5 (by omega) (by omega) fun u S6 hu D6 f6 => ?_)
    obtain ⟨m, hm, hm3⟩ : ∃ m : Nat, min (2 : Int) u = m ∧ m < 3 := ⟨min 2 u, by omega, by omega⟩
    have i6 := ix_l S6 false [.int 9999, .int 0, .int c] m
    obtain ⟨q, e6, hq⟩ : ∃ q : Nat, ([.int 9999, .int 0, .int c] : List AV)[m]? = some (.int q) ∧ q ≤ 9999 := by
      have : m = 0 ∨ m = 1 ∨ m = 2 := by omega
      rcases this with rfl | rfl | rfl
      · exact ⟨9999, rfl, by omega⟩
      · exact ⟨0, rfl, by omega⟩
      · exact ⟨c, rfl, by omega⟩
    rw [e6] at i6
    have pu := put_dk Flt.av ps q f B.nd
    rw [hT] at pu
    have hlen : (dk ps).length < 16777216 := by simp [dk]; omega
    simp (implicitDefEqProofs := false) [-k_sSeq, Ss.wipe, -k_sTry, f_min2, hm, i6, im, isOw, storeB, ownL, ownD, keyA, hlen, pu, putD, flM]
    exact ⟨upN ps q f, _, _, _, S6, rfl, D6, (((f2.tr f3).tr f4).tr f5).tr f6, B.put hq ok, by have := len_upN ps q f; omega⟩
  · obtain ⟨ps, s3, s4, s5, S2, rfl, D2, f2, B, hl⟩ := hI
    rw [rl] at hl
    have sr := srt_flM (S := S2) (ps := ps) (by omega)
    have W : okW (srN ps) := B.w (by omega)
    have ek : (srtI (ps.map fun p => (p.1 : Int))).map AV.int = (srN ps).map fun p => .int p.1 := by
      cases ps with
      | nil => rfl
      | cons p ps =>
        rw [srN_eq (p :: ps) p.2, List.map_map]
        refine List.map_congr_left fun k hk => ?_
        have := (srtI_perm _).mem_iff.mp hk
        obtain ⟨p, _, rfl⟩ := List.mem_map.mp this
        simp
    rw [ek] at sr
    have hl2 := W.len
    generalize hws : srN ps = ws at sr W ek hl2
    simp (implicitDefEqProofs := false) [-k_sSeq, Ss.wipe, -k_sTry, sr]
    refine wpB (wpL (fun _ => true) (fun d => .tup [d, ((lkN ps (nA d)).getD .fine).av]) (fun d hd => ?_) (by simp; omega) ?_)
    · obtain ⟨p, hp, rfl⟩ := List.mem_map.mp hd
      rw [← hws] at hp
      obtain ⟨f, hf⟩ := lk_of (List.mem_map.mpr ⟨p, srN_mem hp, rfl⟩)
      have i1 := ix_flM (S := S2) ps hf
      have im := imm_ft f
      refine ⟨_, rfl, ?_⟩
      simp (implicitDefEqProofs := false) [-k_sSeq, Ss.wipe, -k_sTry, i1, im, nA, hf]
    · have e : (((ws.map fun p => AV.int p.1).filter fun _ => true).map fun d => AV.tup [d, ((lkN ps (nA d)).getD .fine).av]) = wAs ws := by
        rw [filter_tt, List.map_map]
        refine List.map_congr_left fun p hp => ?_
        rw [← hws] at hp
        simp only [srN, List.mem_filterMap, Option.map_eq_some_iff] at hp
        obtain ⟨k, _, v, hv, rfl⟩ := hp
        generalize k.toNat = m at hv ⊢
        simp [nA, hv]
      rw [e]
      have q := k ws S2 W D2 f2
      simp (implicitDefEqProofs := false) [-k_sSeq, Ss.wipe, -k_sTry, fTup]
      exact q

theorem fdv2 (n : Nat) : oFdv (.int n) (.int 2) = some (.int ((n / 2 : Nat) : Int)) := by
  have h : oFdv (.int n) (.int 2) = some (.int ((n : Int) / 2)) := by simp [oFdv]
  rw [h]
  congr 2
theorem w_any_order (hD : Dr S l) (k : ∀ (o : Ox) (S' : List AV), okOx o → Dr S' l → Fr [l] S S' → Q o.av S') : WpR (m__law_any_order [.loc l] S) Q E := by
  have wo := fun {Q : AV → List AV → Prop} {E : Str → List AV → Prop} {S1 : List AV} (D : Dr S1 l) k => w_orderX (Q := Q) (E := E) D k
  have eW : W8 = .tup [.int 8, .int 8, .int 16, .bl true, .bl true] := rfl
  unfold m__law_any_order
  refine wpF ?_
  refine wpS ?_
  simp (implicitDefEqProofs := false) [-k_sSeq, Ss.wipe, -k_sTry, ← eW]
  have imW : imm W8 = true := rfl
  generalize W8 = W at wo imW
  refine wpC (wo hD fun o1 S1 h1 _ D1 f1 => ?_)
  simp (implicitDefEqProofs := false) [-k_sSeq, Ss.wipe, -k_sTry, imW]
  refine wpC (wo D1 fun o2 S2 h2 _ D2 f2 => ?_)
  have im1 := imm_ox o1
  have im2 := imm_ox o2
  simp (implicitDefEqProofs := false) [-k_sSeq, Ss.wipe, -k_sTry, imW]
  refine wpC (w_choice D2 (by omega) (by omega) fun r S3 hr D3 f3 => ?_)
  have fd := fdv2 r
  have e9 : ((r / 2 : Nat) : Int) = (r : Int) / 2 := by omega
  have ix := ix_l S3 false [o1.av, .tup [.str "mend"], o2.av] (r / 2)
  obtain ⟨o, eo, ho⟩ : ∃ o : Ox, ([o1.av, .tup [.str "mend"], o2.av] : List AV)[r / 2]? = some o.av ∧ okOx o := by
    have : r / 2 = 0 ∨ r / 2 = 1 ∨ r / 2 = 2 := by omega
    rcases this with e | e | e <;> rw [e]
    · exact ⟨o1, rfl, h1⟩
    · exact ⟨.md, rfl, trivial⟩
    · exact ⟨o2, rfl, h2⟩
  rw [eo] at ix
  have q := k o S3 ho D3 ((f1.tr f2).tr f3)
  have im3 := imm_ox o
  rw [e9] at fd ix
  generalize o.av = O at *
  generalize o1.av = O1 at *
  generalize o2.av = O2 at *
  simp (implicitDefEqProofs := false) [-k_sSeq, Ss.wipe, -k_sTry, fd, ix, im3]
  exact q
end
end Fk
-- base: k60
/-! ## law k60: what is said; the shown texts are texts -/
namespace Fk
open PySem PySem.Spec PyProof.Rows L2
theorem td_kd : ∀ w ∈ (["mend", "read", "trim", "write", "group"] : List Str), Td 0 100 (.str w) := by
  intro w hw
  have h : ∀ w ∈ (["mend", "read", "trim", "write", "group"] : List Str), tdB 0 100 (.str w) = true := by decide +kernel
  exact tdB_ok (h w hw)
theorem td_ox {o : Ox} (h : okOx o) : Td 3 2000 o.av := by
  have lt : ∀ n ∈ o.ns, n < 1000000000 := fun n hn => by have := ns_small h n hn; omega
  have l8 := ns_len h
  by_cases hg : o.kd = "group"
  · cases o with
    | gr rows =>
      have r4 := (h : okRX rows).l4
      have T := td_rows (rows := rows) lt
      exact (Tds.cons (k := 2) ((td_kd "group" (by simp)).mono (by omega) (Nat.le_refl _)) (Tds.cons T.tup Tds.nil)).tup.mono (by omega) (by omega)
    | md => exact absurd hg (by show ¬ ("mend" : Str) = "group"; decide +kernel)
    | rd p => exact absurd hg (by show ¬ ("read" : Str) = "group"; decide +kernel)
    | tr p => exact absurd hg (by show ¬ ("trim" : Str) = "group"; decide +kernel)
    | wr p d => exact absurd hg (by show ¬ ("write" : Str) = "group"; decide +kernel)
  · rw [← wnA_of hg]
    exact (Tds.cons (td_kd _ (kd_is o)) (td_nats lt)).tup.mono (by omega) (by omega)
theorem txO_ok (o : Ox) : PyData.strOk o.tx = true := strOk_iff.mpr fun c hc => by
  unfold Ox.tx at hc
  rw [jn_tl] at hc
  have key : ∀ (ps : List (List Nat)), c ∈ TL.joinL [32] ps → c = 32 ∨ ∃ p ∈ ps, c ∈ p := by
    intro ps
    induction ps with
    | nil => intro h; cases h
    | cons p r ih =>
      intro h
      cases r with
      | nil => exact .inr ⟨p, by simp, h⟩
      | cons q r =>
        have h2 : c ∈ p ++ ([32] ++ TL.joinL [32] (q :: r)) := h
        rcases List.mem_append.mp h2 with h2 | h2
        · exact .inr ⟨p, by simp, h2⟩
        · rcases List.mem_append.mp h2 with h2 | h2
          · exact .inl (by simpa using h2)
          · rcases ih h2 with e | ⟨x, hx, hc⟩
            · exact .inl e
            · exact .inr ⟨x, by simp [hx], hc⟩
  rcases key _ hc with rfl | ⟨p, hp, hcp⟩
  · omega
  · obtain ⟨w, hw, rfl⟩ := List.mem_map.mp hp
    rcases List.mem_cons.mp hw with rfl | hw
    · have h : ∀ w ∈ (["mend", "read", "trim", "write", "group"] : List Str), PyData.strOk w = true := by decide +kernel
      exact strOk_iff.mp (h _ (kd_is o)) c hcp
    · obtain ⟨n, _, rfl⟩ := List.mem_map.mp hw
      exact strOk_iff.mp (nTx_ok n) c hcp
theorem jn_ok {ws : List Str} (h : ∀ w ∈ ws, PyData.strOk w = true) : PyData.strOk (jnS ws) = true := by
  induction ws with
  | nil => kernel_rfl
  | cons w r ih =>
    refine strOk_iff.mpr fun c hc => ?_
    rw [jn_tl] at hc
    cases r with
    | nil => exact strOk_iff.mp (h w (by simp)) c hc
    | cons v r =>
      have hc2 : c ∈ TL.tl w ++ ([32] ++ TL.joinL [32] ((v :: r).map TL.tl)) := hc
      rcases List.mem_append.mp hc2 with h2 | h2
      · exact strOk_iff.mp (h w (by simp)) c h2
      · rcases List.mem_append.mp h2 with h2 | h2
        · have : c = 32 := by simpa using h2
          omega
        · rw [← jn_tl] at h2
          exact strOk_iff.mp (ih fun x hx => h x (by simp [hx])) c h2
theorem txW_ok (ws : List (Nat × Flt)) : PyData.strOk (txW ws) = true := by
  unfold txW
  split
  · kernel_rfl
  · exact jn_ok fun w hw => by
      obtain ⟨p, _, rfl⟩ := List.mem_map.mp hw
      exact rowT_ok p
section
variable {S : List AV}
theorem said_ofX {g : Thk} {r : Res AV (List AV)} {t : Str} {S' : List AV} (e : g S = r) (h : m__law_said (fun _ => r) [.ded] S = .ok (.str t) S') : m__law_said g [.ded] S = .ok (.str t) S' := by
  show m__law_said (fun _ => g S) [.ded] S = _
  rw [e]
  exact h
end
end Fk
-- base: k64
/-! ## law k64: any text read again; like things are one -/
namespace Fk
open PySem PySem.Spec PyProof.Rows L2
mutual
/-- numbers, texts, tuples of them -/
def nsT : AV → Bool
  | .int _ => true
  | .str _ => true
  | .tup xs => nsTs xs
  | _ => false
def nsTs : List AV → Bool
  | [] => true
  | x :: xs => nsT x && nsTs xs
end
mutual
theorem nsT_inj : ∀ (x y : AV), nsT x = true → nsT y = true → PyData.eqv (dat x) (dat y) = true → x = y
  | .int a, .int b, _, _, e => by
    have : a = b := by simpa [dat, PyData.eqv] using e
    rw [this]
  | .str a, .str b, _, _, e => by
    have : a = b := by simpa [dat, PyData.eqv] using e
    rw [this]
  | .tup xs, .tup ys, h1, h2, e => by
    rw [nsTs_inj xs ys (by simpa [nsT] using h1) (by simpa [nsT] using h2) (by simpa [dat, PyData.eqv] using e)]
  | .int a, .str b, _, _, e => by simp [dat, PyData.eqv] at e
  | .int a, .tup b, _, _, e => by simp [dat, PyData.eqv] at e
  | .str a, .int b, _, _, e => by simp [dat, PyData.eqv] at e
  | .str a, .tup b, _, _, e => by simp [dat, PyData.eqv] at e
  | .tup a, .int b, _, _, e => by simp [dat, PyData.eqv] at e
  | .tup a, .str b, _, _, e => by simp [dat, PyData.eqv] at e
theorem nsTs_inj : ∀ (xs ys : List AV), nsTs xs = true → nsTs ys = true → PyData.eqvAll (dats xs) (dats ys) = true → xs = ys
  | [], [], _, _, _ => rfl
  | [], y :: ys, _, _, e => by simp [dats, PyData.eqvAll] at e
  | x :: xs, [], _, _, e => by simp [dats, PyData.eqvAll] at e
  | x :: xs, y :: ys, h1, h2, e => by
    simp only [nsTs, Bool.and_eq_true] at h1 h2
    simp only [dats, PyData.eqvAll, Bool.and_eq_true] at e
    rw [nsT_inj x y h1.1 h2.1 e.1, nsTs_inj xs ys h1.2 h2.2 e.2]
end
theorem nsTs_all : ∀ {xs : List AV}, (∀ x ∈ xs, nsT x = true) → nsTs xs = true
  | [], _ => rfl
  | x :: xs, h => by
    simp only [nsTs, Bool.and_eq_true]
    exact ⟨h x (by simp), nsTs_all fun y hy => h y (by simp [hy])⟩
theorem ns_ox (o : Ox) : nsT o.av = true := by
  cases o with
  | gr rows =>
    show (true && (nsTs (rows.map rwX) && true)) = true
    rw [nsTs_all fun x hx => by
      obtain ⟨r, _, rfl⟩ := List.mem_map.mp hx
      rfl]
    rfl
  | _ => rfl
theorem ns_wAs {ws : List (Nat × Flt)} (h : okW ws) : nsT (.tup (wAs ws)) = true := nsTs_all fun x hx => by
  obtain ⟨p, hp, rfl⟩ := List.mem_map.mp hx
  have := (h.each p hp).2
  cases e : p.2 with
  | fine => rw [e] at this; exact this.elim
  | cut => rfl
  | bad => rfl
  | bit i => rfl
theorem eq_nsT {x y : AV} {k n m : Nat} (hx : Td k n (.tup [x])) (hy : Td k m (.tup [y])) (hk : k ≤ 50) (tx : isT "tuple" x = true) (h1 : nsT x = true) (h2 : nsT y = true) : ∃ b, oEq x y = some (.bl b) ∧ (b = true ↔ x = y) := by
  obtain ⟨_, _, T1⟩ := hx.tup
  obtain ⟨_, _, T2⟩ := hy.tup
  have o1 := (T1.mem x (by simp)).sh.okA (by omega)
  have o2 := (T2.mem y (by simp)).sh.okA (by omega)
  refine ⟨PyData.eqv (dat x) (dat y), ?_, ?_⟩
  · have e : eqA x y = if okA x && okA y then some (PyData.eqv (dat x) (dat y)) else none := by
      cases x <;> first | rfl | (simp [isT] at tx)
    unfold oEq
    rw [e, o1, o2]
    rfl
  · constructor
    · exact nsT_inj x y h1 h2
    · intro e
      rw [e]
      exact PySem.SeqAt.eqv_refl _ (T2.mem y (by simp)).sh.sw.lay
section
variable {S : List AV}
theorem said_txtX : m__law_said (fun _ => .err "NoText" S) [.ded] S = .ok (.str "! text") S := by kernel_rfl
theorem said_true : m__law_said (fun _ => .ok (.bl true) S) [.ded] S = .ok (.str "True") S := by kernel_rfl
/-- one of the two words -/
def tw (b : Bool) : Str := if b then "True" else "! text"
theorem x_again {t : Str} (ht : t.length ≤ 100000) (ho : PyData.strOk t = true) : m__law_again [.str t] S = .ok (.bl true) S := by
  have x1 := x_read_order (S := S) ht ho
  have x2 := x_read_weather (S := S) ht ho
  have q := eqs t t
  rw [decide_eq_true rfl] at q
  obtain ⟨b1, s1⟩ : ∃ b, ∀ N : List Sl, getSl (N.map imS) 0 = .im (.str t) → m__law_said (runL (e2 oEq (eCall 1 m_order_text [] (aCons (eCall 1 m_read_order [] (aCons (eVar 0) aNil)) aNil)) (eVar 0)) N) [.ded] S = .ok (.str (tw b)) S := by
    cases h : ordA t with
    | none =>
      rw [h] at x1
      have x1 : m_read_order [.str t] S = .err "NoText" S := x1
      exact ⟨false, fun N h1 => said_ofX (S := S) (r := .err "NoText" S) (by
        unfold runL
        simp (implicitDefEqProofs := false) [h1, x1]) said_txtX⟩
    | some o =>
      obtain ⟨h2, h3⟩ := ordA_iff.mp h
      rw [h] at x1
      have x1 : m_read_order [.str t] S = .ok o.av S := x1
      have x3 := x_order_text (S := S) h2
      rw [← h3] at x3
      exact ⟨true, fun N h1 => said_ofX (S := S) (r := .ok (.bl true) S) (by
        unfold runL
        simp (implicitDefEqProofs := false) [h1, x1, x3, q]) said_true⟩
  obtain ⟨b2, s2⟩ : ∃ b, ∀ N : List Sl, getSl (N.map imS) 0 = .im (.str t) → m__law_said (runL (e2 oEq (eCall 1 m_weather_text [] (aCons (eCall 1 m_read_weather [] (aCons (eVar 0) aNil)) aNil)) (eVar 0)) N) [.ded] S = .ok (.str (tw b)) S := by
    cases h : weaA t with
    | none =>
      rw [h] at x2
      have x2 : m_read_weather [.str t] S = .err "NoText" S := x2
      exact ⟨false, fun N h1 => said_ofX (S := S) (r := .err "NoText" S) (by
        unfold runL
        simp (implicitDefEqProofs := false) [h1, x2]) said_txtX⟩
    | some ws =>
      obtain ⟨h2, h3⟩ := weaA_iff.mp h
      rw [h] at x2
      have x2 : m_read_weather [.str t] S = .ok (.tup (wAs ws)) S := x2
      have x3 := x_weather_text (S := S) h2
      rw [← h3] at x3
      generalize AV.tup (wAs ws) = W at x2 x3
      exact ⟨true, fun N h1 => said_ofX (S := S) (r := .ok (.bl true) S) (by
        unfold runL
        simp (implicitDefEqProofs := false) [h1, x2, x3, q]) said_true⟩
  obtain ⟨b3, s3⟩ : ∃ b, ∀ N : List Sl, getSl (N.map imS) 0 = .im (.str t) → m__law_said (runL (eCall 1 m_is_weather [] (aCons (eCall 1 m_read_weather [] (aCons (eVar 0) aNil)) aNil)) N) [.ded] S = .ok (.str (tw b)) S := by
    cases h : weaA t with
    | none =>
      rw [h] at x2
      have x2 : m_read_weather [.str t] S = .err "NoText" S := x2
      exact ⟨false, fun N h1 => said_ofX (S := S) (r := .err "NoText" S) (by
        unfold runL
        simp (implicitDefEqProofs := false) [h1, x2]) said_txtX⟩
    | some ws =>
      obtain ⟨h2, h3⟩ := weaA_iff.mp h
      rw [h] at x2
      have x2 : m_read_weather [.str t] S = .ok (.tup (wAs ws)) S := x2
      have x3 := x_is_weather (S := S) h2
      generalize AV.tup (wAs ws) = W at x2 x3
      exact ⟨true, fun N h1 => said_ofX (S := S) (r := .ok (.bl true) S) (by
        unfold runL
        simp (implicitDefEqProofs := false) [h1, x2, x3]) said_true⟩
  have nn : ∀ b, oNin (.str (tw b)) (.tup [.str "True", .str "! text"]) = some (.bl false) := fun b => by cases b <;> kernel_rfl
  have qn : oEq (.lst false []) (.lst false []) = some (.bl true) := by kernel_rfl
  refine wp_eq ?_
  unfold m__law_again
  refine wpF ?_
  refine wpS ?_
  simp (implicitDefEqProofs := false) [-k_sSeq, Ss.wipe, -k_sTry, s1, imS]
  refine wpS ?_
  simp (implicitDefEqProofs := false) [-k_sSeq, Ss.wipe, -k_sTry, s2, imS, ownL, putL]
  refine wpS ?_
  simp (implicitDefEqProofs := false) [-k_sSeq, Ss.wipe, -k_sTry, s3, imS, ownL, putL]
  refine wpB (wpL (fun _ => false) id (fun d hd => ?_) (by simp) ?_)
  · have hd2 : ∃ b, d = .str (tw b) := by
      simp only [List.mem_cons, List.not_mem_nil, or_false] at hd
      rcases hd with rfl | rfl | rfl
      · exact ⟨b1, rfl⟩
      · exact ⟨b2, rfl⟩
      · exact ⟨b3, rfl⟩
    obtain ⟨b, rfl⟩ := hd2
    refine ⟨_, rfl, ?_⟩
    simp (implicitDefEqProofs := false) [-k_sSeq, Ss.wipe, -k_sTry, nn]
  · simp (implicitDefEqProofs := false) [-k_sSeq, Ss.wipe, -k_sTry, qn]
end
end Fk
-- base: k64
/-! ## law k64 -/
namespace Fk
open PySem PySem.Spec PyProof.Rows L2
theorem pair_o {o o' : Ox} (h : okOx o) (h' : okOx o') : ∃ b, oEq (.str o.tx) (.str o'.tx) = some (.bl b) ∧ oEq o.av o'.av = some (.bl b) := by
  obtain ⟨b, e, hb⟩ := eq_nsT (Tds.cons (td_ox h) Tds.nil).tup (Tds.cons (td_ox h') Tds.nil).tup (by omega) (by cases o <;> rfl) (ns_ox o) (ns_ox o')
  refine ⟨b, ?_, e⟩
  rw [eqs]
  congr 2
  rw [Bool.eq_iff_iff, decide_eq_true_eq, hb]
  constructor
  · intro et
    have h1 := ordA_iff.mpr ⟨h, rfl⟩
    rw [et, ordA_iff.mpr ⟨h', rfl⟩] at h1
    rw [Option.some.inj h1]
  · intro ea
    have h1 := x_order_text (S := []) h
    rw [ea, x_order_text (S := []) h'] at h1
    injection h1 with h1 h2
    injection h1 with h1
    exact h1.symm
theorem pair_w {a b : List (Nat × Flt)} (h : okW a) (h' : okW b) : ∃ v, oEq (.str (txW a)) (.str (txW b)) = some (.bl v) ∧ oEq (.tup (wAs a)) (.tup (wAs b)) = some (.bl v) := by
  obtain ⟨v, e, hb⟩ := eq_nsT (Tds.cons (td_wAs h) Tds.nil).tup (Tds.cons (td_wAs h') Tds.nil).tup (by omega) rfl (ns_wAs h) (ns_wAs h')
  refine ⟨v, ?_, e⟩
  rw [eqs]
  congr 2
  rw [Bool.eq_iff_iff, decide_eq_true_eq, hb]
  constructor
  · intro et
    rw [txW_inj h h' et]
  · intro ea
    have h1 := x_weather_text (S := []) h
    rw [ea, x_weather_text (S := []) h'] at h1
    injection h1 with h1 h2
    injection h1 with h1
    exact h1.symm
/-- a text of few words -/
structure Fw (t : Str) : Prop where
  ok : PyData.strOk t = true
  len : t.length ≤ 1000
  few : (spS t).length ≤ 41
theorem fw_o {o : Ox} (h : okOx o) : Fw o.tx := ⟨txO_ok o, by have := tx_len h; omega, by rw [tx_sp]; have := ns_len h; simp; omega⟩
theorem fw_w {ws : List (Nat × Flt)} (h : okW ws) : Fw (txW ws) := ⟨txW_ok ws, txW_len h, by
  by_cases c : ws = []
  · have e : txW ws = "-" := if_pos c
    rw [e]
    have : (spS "-").length ≤ 2 := by
      have h1 := (sp_len "-").1
      have h2 : ("-" : Str).length = 1 := by kernel_rfl
      omega
    omega
  · have e : txW ws = jnS (ws.map rowT) := if_neg c
    rw [e, rows_sp c, List.length_map]
    have := h.len
    omega⟩
theorem cut_mem {xs : List AV} {a b : Option Int} {x : AV} (h : x ∈ cutA xs a b) : x ∈ xs := List.mem_of_mem_drop (List.mem_of_mem_take h)
theorem cut_len (xs : List AV) (a b : Option Int) : (cutA xs a b).length ≤ xs.length := by
  unfold cutA
  rw [List.length_take, List.length_drop]
  omega
theorem filter_ff : ∀ xs : List AV, xs.filter (fun _ => false) = []
  | [] => rfl
  | x :: xs => filter_ff xs
theorem strs_of : ∀ {L : List AV} {ps : List Str}, (∀ x ∈ L, x ∈ ps.map AV.str) → ∃ qs : List Str, L = qs.map AV.str ∧ ∀ q ∈ qs, q ∈ ps
  | [], _, _ => ⟨[], rfl, fun _ h => by cases h⟩
  | x :: L, ps, h => by
    obtain ⟨q, hq, rfl⟩ := List.mem_map.mp (h x (by simp))
    obtain ⟨qs, e, h2⟩ := strs_of (L := L) (ps := ps) fun y hy => h y (by simp [hy])
    exact ⟨q :: qs, by rw [e]; rfl, fun z hz => (List.mem_cons.mp hz).elim (fun e => e ▸ hq) (h2 z)⟩
section
variable {S : List AV} {l : Nat} {Q : AV → List AV → Prop} {E : Str → List AV → Prop}
def oI64 (S : List AV) (l k : Nat) (acc : List AV) (st : Ss) : Prop := ∃ (os : List Ox) (S' : List AV), st = ⟨[.im (.loc l), .no, .no, .no, .no, .no, .no, .no, .no, .no], S'⟩ ∧ acc = os.map Ox.av ∧ (∀ o ∈ os, okOx o) ∧ Dr S' l ∧ Fr [l] S S'
def wI64 (S : List AV) (l k : Nat) (acc : List AV) (st : Ss) : Prop := ∃ (os : List (List (Nat × Flt))) (S' : List AV), st = ⟨[.im (.loc l), .no, .no, .no, .no, .no, .no, .no, .no, .no], S'⟩ ∧ acc = os.map (fun w => AV.tup (wAs w)) ∧ (∀ o ∈ os, okW o) ∧ Dr S' l ∧ Fr [l] S S'
theorem w_again_rows {t : Str} (ht : Fw t) {L : List AV} (hL : ∀ x ∈ L, x ∈ (spS t).map AV.str) (hl : L.length ≤ 82) : ∃ u : Str, jnA (.str " ") (.lst false L) = some (.str u) ∧ ∀ S, m__law_again [.str u] S = .ok (.bl true) S := by
  obtain ⟨qs, rfl, hq⟩ := strs_of hL
  obtain ⟨s1, s2⟩ := sp_len t
  have so := sp_ok ht.ok
  have tl := ht.len
  have ql : ∀ w ∈ qs, w.length ≤ 1000 := fun w hw => by have := s2 w (hq w hw); omega
  have qn : qs.length ≤ 82 := by simpa using hl
  refine ⟨jnS qs, jn_small false ql (by omega), fun S => x_again ?_ (jn_ok fun w hw => so w (hq w hw))⟩
  have h1 := jn_len qs
  have h2 := sum_le qs 1000 ql
  have h3 : qs.length * (1000 + 1) ≤ 82 * (1000 + 1) := Nat.mul_le_mul_right _ qn
  omega
theorem w_right64 (hD : Dr S l) (kk : ∀ S', Dr S' l → Q (.bl true) S') : WpR (m__law_right [.loc l] S) Q E := by
  have r4 : rng1 [.int 4] = some ((List.range 4).map iA) := rng_nat (n := 4) (by omega)
  have r3 : rng1 [.int 3] = some ((List.range 3).map iA) := rng_nat (n := 3) (by omega)
  have l4 : ((List.range 4).map iA).length = 4 := by simp
  have l3 : ((List.range 3).map iA).length = 3 := by simp
  generalize (List.range 4).map iA = R4 at r4 l4
  generalize (List.range 3).map iA = R3 at r3 l3
  unfold m__law_right
  refine wpF ?_
  refine wpS ?_
  simp (implicitDefEqProofs := false) [-k_sSeq, Ss.wipe, -k_sTry, r4]
  refine wpB (wpLI (oI64 S l) ⟨[], S, rfl, rfl, (fun _ h => by cases h), hD, Fr.refl _ _⟩ (fun j d acc st hd ha hJ => ?_) (by omega) fun acc st ha hJ => ?_)
  · obtain ⟨os, S2, rfl, rfl, ho, D2, f2⟩ := hJ
    refine ⟨_, rfl, ?_⟩
    simp (implicitDefEqProofs := false) [-k_sSeq, Ss.wipe, -k_sTry]
    refine wpC' (w_any_order D2 fun o S3 h3 D3 f3 => ?_)
    exact ⟨os ++ [o], S3, rfl, by simp, fun z hz => (List.mem_append.mp hz).elim (ho z) (fun e => by
      obtain rfl : z = o := by simpa using e
      exact h3), D3, f2.tr f3⟩
  obtain ⟨os, S1, rfl, rfl, ho, D1, f1⟩ := hJ
  rw [l4, List.length_map] at ha
  simp (implicitDefEqProofs := false) [-k_sSeq, Ss.wipe, -k_sTry, r3]
  refine wpB (wpLI (wI64 S1 l) ⟨[], S1, rfl, rfl, (fun _ h => by cases h), D1, Fr.refl _ _⟩ (fun j d acc st hd ha hJ => ?_) (by omega) fun acc st ha2 hJ => ?_)
  · obtain ⟨ws, S2, rfl, rfl, hw, D2, f2⟩ := hJ
    refine ⟨_, rfl, ?_⟩
    simp (implicitDefEqProofs := false) [-k_sSeq, Ss.wipe, -k_sTry]
    refine wpC' (w_anyX (far := 60) (by omega) (by omega) D2 fun w S3 h3 D3 f3 => ?_)
    exact ⟨ws ++ [w], S3, rfl, by simp, fun z hz => (List.mem_append.mp hz).elim (hw z) (fun e => by
      obtain rfl : z = w := by simpa using e
      exact h3), D3, f2.tr f3⟩
  obtain ⟨ws, S2, rfl, rfl, hw, D2, f2⟩ := hJ
  rw [l3, List.length_map] at ha2
  have qn : oNe (.lst false []) (.lst false []) = some (.bl false) := by kernel_rfl
  have nb : ∀ b : Bool, oNe (.bl b) (.bl b) = some (.bl false) := fun b => by cases b <;> kernel_rfl
  have itO : itemsOf (.lst false (os.map Ox.av)) = some (os.map Ox.av) := rfl
  have itW : itemsOf (.lst false (ws.map fun w => AV.tup (wAs w))) = some (ws.map fun w => AV.tup (wAs w)) := rfl
  have imO : imm (.lst false (os.map Ox.av)) = true := rfl
  have imW : imm (.lst false (ws.map fun w => AV.tup (wAs w))) = true := rfl
  generalize AV.lst false (os.map Ox.av) = OL at itO imO
  generalize AV.lst false (ws.map fun w => AV.tup (wAs w)) = WL at itW imW
  simp (implicitDefEqProofs := false) [-k_sSeq, Ss.wipe, -k_sTry]
  refine wpS ?_
  simp (implicitDefEqProofs := false) [-k_sSeq, Ss.wipe, -k_sTry, itO, imO]
  refine wpO (fun _ st => ∃ s3 s9, st = ⟨[.im (.loc l), .im OL, .im WL, s3, .no, .no, .no, .no, .no, s9], S2⟩) ⟨_, _, rfl⟩ (fun j d st hd hI => ?_) fun st hI => ?_
  · obtain ⟨s3, s9, rfl⟩ := hI
    obtain ⟨o, hm, rfl⟩ := List.mem_map.mp (List.mem_of_getElem? hd)
    clear hd
    have h1 := ho o hm
    have x1 := x_order_text (S := S2) h1
    have io := imm_ox o
    refine ⟨_, rfl, ?_⟩
    simp (implicitDefEqProofs := false) [-k_sSeq, Ss.wipe, -k_sTry, itO, imO]
    refine wpB (wpL (fun _ => false) id (fun d hd => ?_) (by simp; omega) ?_)
    · obtain ⟨o', hm', rfl⟩ := List.mem_map.mp hd
      have h2 := ho o' hm'
      have x2 := x_order_text (S := S2) h2
      have io' := imm_ox o'
      obtain ⟨b, p1, p2⟩ := pair_o h1 h2
      refine ⟨_, rfl, ?_⟩
      generalize o.av = A at *
      generalize o'.av = B at *
      simp (implicitDefEqProofs := false) [-k_sSeq, Ss.wipe, -k_sTry, x1, x2, p1, p2, nb, io, io']
    · rw [filter_ff]
      simp (implicitDefEqProofs := false) [-k_sSeq, Ss.wipe, -k_sTry, qn]
  · obtain ⟨s3, s9, rfl⟩ := hI
    rw [afS_nx]
    refine wpS ?_
    simp (implicitDefEqProofs := false) [-k_sSeq, Ss.wipe, -k_sTry, itW, imW]
    refine wpO (fun _ st => ∃ s3 s9, st = ⟨[.im (.loc l), .im OL, .im WL, s3, .no, .no, .no, .no, .no, s9], S2⟩) ⟨_, _, rfl⟩ (fun j d st hd hI => ?_) fun st hI => ?_
    · obtain ⟨s3, s9, rfl⟩ := hI
      obtain ⟨w, hm, rfl⟩ := List.mem_map.mp (List.mem_of_getElem? hd)
      clear hd
      have h1 := hw w hm
      have x1 := x_weather_text (S := S2) h1
      have io : imm (.tup (wAs w)) = true := rfl
      refine ⟨_, rfl, ?_⟩
      simp (implicitDefEqProofs := false) [-k_sSeq, Ss.wipe, -k_sTry, itW, imW]
      refine wpB (wpL (fun _ => false) id (fun d hd => ?_) (by simp; omega) ?_)
      · obtain ⟨w', hm', rfl⟩ := List.mem_map.mp hd
        have h2 := hw w' hm'
        have x2 := x_weather_text (S := S2) h2
        have io' : imm (.tup (wAs w')) = true := rfl
        obtain ⟨b, p1, p2⟩ := pair_w h1 h2
        refine ⟨_, rfl, ?_⟩
        generalize AV.tup (wAs w) = A at *
        generalize AV.tup (wAs w') = B at *
        simp (implicitDefEqProofs := false) [-k_sSeq, Ss.wipe, -k_sTry, x1, x2, p1, p2, nb, io, io']
      · rw [filter_ff]
        simp (implicitDefEqProofs := false) [-k_sSeq, Ss.wipe, -k_sTry, qn]
    · obtain ⟨s3, s9, rfl⟩ := hI
      rw [afS_nx]
      refine wpS ?_
      simp (implicitDefEqProofs := false) [-k_sSeq, Ss.wipe, -k_sTry, itO, imO]
      have io := fun o => imm_ox o
      refine wpB (wpLX (fun o => .str o.tx) (fun o hm => ?_) (by omega) ?_)
      · have x1 := x_order_text (S := S2) (ho o hm)
        have io := imm_ox o
        refine ⟨_, rfl, ?_⟩
        simp (implicitDefEqProofs := false) [-k_sSeq, Ss.wipe, -k_sTry, x1, io]
      simp (implicitDefEqProofs := false) [-k_sSeq, Ss.wipe, -k_sTry, itW, imW]
      refine wpB (wpLX (fun w => .str (txW w)) (fun w hm => ?_) (by omega) ?_)
      · have x1 := x_weather_text (S := S2) (hw w hm)
        refine ⟨_, rfl, ?_⟩
        simp (implicitDefEqProofs := false) [-k_sSeq, Ss.wipe, -k_sTry, x1]
      have ad : oAdd (.lst false (os.map fun o => AV.str o.tx)) (.lst false (ws.map fun w => AV.str (txW w))) = some (.lst false ((os.map fun o => AV.str o.tx) ++ (ws.map fun w => AV.str (txW w)))) := add_lstV _ _ (by simp; omega)
      have hT : ∀ x ∈ (os.map fun o => AV.str o.tx) ++ (ws.map fun w => AV.str (txW w)), ∃ t, x = .str t ∧ Fw t := fun x hx => by
        rcases List.mem_append.mp hx with h | h
        · obtain ⟨o, hm, rfl⟩ := List.mem_map.mp h
          exact ⟨_, rfl, fw_o (ho o hm)⟩
        · obtain ⟨w, hm, rfl⟩ := List.mem_map.mp h
          exact ⟨_, rfl, fw_w (hw w hm)⟩
      generalize (os.map fun o => AV.str o.tx) ++ (ws.map fun w => AV.str (txW w)) = TL at ad hT
      generalize os.map (fun o => AV.str o.tx) = L1 at ad ⊢
      generalize ws.map (fun w => AV.str (txW w)) = L2 at ad ⊢
      simp (implicitDefEqProofs := false) [-k_sSeq, Ss.wipe, -k_sTry, ad]
      refine wpO (fun _ st => ∃ s4 s5 s6 s7 S3, st = ⟨[.im (.loc l), .im OL, .im WL, .no, s4, s5, s6, s7, .no, s9], S3⟩ ∧ Dr S3 l) ⟨_, _, _, _, S2, rfl, D2⟩ (fun j d st hd hI => ?_) fun st hI => ?_
      · obtain ⟨s4, s5, s6, s7, S3, rfl, D3⟩ := hI
        obtain ⟨t, rfl, ft⟩ := hT d (List.mem_of_getElem? hd)
        clear hd
        have f41 := ft.few
        have fne := List.length_pos_iff.mpr (sp_ne t)
        have tl := ft.len
        have sp : spA (.str t) (.str " ") = some (.lst false ((spS t).map .str)) := by
          have h1 : t.length ≤ 16777214 := by omega
          have h2 : ((" " : Str).length == 0) = false := by kernel_rfl
          have e : spA (.str t) (.str " ") = if ((" " : Str).length == 0) = false ∧ t.length ≤ 16777214 then some (.lst false ((Txt.split t " ").map .str)) else none := rfl
          rw [e, if_pos ⟨h2, h1⟩]
          rfl
        have wr := fun {L : List AV} (h1 : ∀ x ∈ L, x ∈ (spS t).map AV.str) h2 => w_again_rows ft (L := L) h1 h2
        have pl : ((spS t).map AV.str).length ≤ 41 := by simpa using f41
        have pp : 0 < ((spS t).map AV.str).length := by simpa using fne
        generalize (spS t).map AV.str = P at sp wr pl pp
        have sl : ∀ a b, slA (.lst false P) a b = some (.lst false (cutA P a b)) := fun _ _ => rfl
        have rv : revA (.lst false P) = some (.lst false P.reverse) := rfl
        have ln := fun S' => lnL S' false P
        have imP : imm (.lst false P) = true := rfl
        refine ⟨_, rfl, ?_⟩
        refine wpS ?_
        simp (implicitDefEqProofs := false) [-k_sSeq, Ss.wipe, -k_sTry, sp]
        refine wpS ?_
        simp (implicitDefEqProofs := false) [-k_sSeq, Ss.wipe, -k_sTry, ln]
        refine wpC (w_choice D3 (by omega) (by omega) fun r S4 hr D4 f4 => ?_)
        have a1 : oAdd (.int r) (.int 1) = some (.int ((r : Int) + 1)) := rfl
        have ad1 : oAdd (.lst false (cutA P none (some (r : Int)))) (.lst false (cutA P (some ((r : Int) + 1)) none)) = some (.lst false (cutA P none (some (r : Int)) ++ cutA P (some ((r : Int) + 1)) none)) := add_lstV _ _ (by
          have := cut_len P none (some (r : Int))
          have := cut_len P (some ((r : Int) + 1)) none
          omega)
        have ad2 : oAdd (.lst false (cutA P none (some ((r : Int) + 1)))) (.lst false (cutA P (some (r : Int)) none)) = some (.lst false (cutA P none (some ((r : Int) + 1)) ++ cutA P (some (r : Int)) none)) := add_lstV _ _ (by
          have := cut_len P none (some ((r : Int) + 1))
          have := cut_len P (some (r : Int)) none
          omega)
        have hR : ∀ d ∈ ([.lst false P, .lst false (cutA P none (some (r : Int)) ++ cutA P (some ((r : Int) + 1)) none), .lst false (cutA P none (some ((r : Int) + 1)) ++ cutA P (some (r : Int)) none), .lst false P.reverse, .lst false (cutA P none (some ((r : Int) + 1)))] : List AV), ∃ u : Str, jnA (.str " ") d = some (.str u) ∧ ∀ S, m__law_again [.str u] S = .ok (.bl true) S := by
          intro d hd
          have c1 := cut_len P none (some (r : Int))
          have c2 := cut_len P (some ((r : Int) + 1)) none
          have c3 := cut_len P none (some ((r : Int) + 1))
          have c4 := cut_len P (some (r : Int)) none
          simp only [List.mem_cons, List.not_mem_nil, or_false] at hd
          rcases hd with rfl | rfl | rfl | rfl | rfl
          · exact wr (fun x hx => hx) (by omega)
          · exact wr (fun x hx => (List.mem_append.mp hx).elim cut_mem cut_mem) (by rw [List.length_append]; omega)
          · exact wr (fun x hx => (List.mem_append.mp hx).elim cut_mem cut_mem) (by rw [List.length_append]; omega)
          · exact wr (fun x hx => List.mem_reverse.mp hx) (by rw [List.length_reverse]; omega)
          · exact wr (fun x hx => cut_mem hx) (by omega)
        generalize cutA P none (some (r : Int)) ++ cutA P (some ((r : Int) + 1)) none = C1 at ad1 hR
        generalize cutA P none (some ((r : Int) + 1)) ++ cutA P (some (r : Int)) none = C2 at ad2 hR
        generalize P.reverse = C3 at rv hR
        simp (implicitDefEqProofs := false) [-k_sSeq, Ss.wipe, -k_sTry, oPart, asI, sl, a1, ad1, ad2, rv]
        refine wpO (fun _ st => ∃ s7, st = ⟨[.im (.loc l), .im OL, .im WL, .no, .im (.str t), .im (.lst false P), .im (.int r), s7, .no, s9], S4⟩) ⟨_, rfl⟩ (fun j d st hd hI => ?_) fun st hI => ?_
        · obtain ⟨s7, rfl⟩ := hI
          obtain ⟨u, j1, xa⟩ := hR d (List.mem_of_getElem? hd)
          have imd : imm d = true := by
            have h := List.mem_of_getElem? hd
            simp only [List.mem_cons, List.not_mem_nil, or_false] at h
            rcases h with rfl | rfl | rfl | rfl | rfl <;> rfl
          refine ⟨_, rfl, ?_⟩
          simp (implicitDefEqProofs := false) [-k_sSeq, Ss.wipe, -k_sTry, j1, xa, imd]
        · obtain ⟨s7, rfl⟩ := hI
          exact ⟨_, _, _, _, S4, rfl, D4⟩
      · obtain ⟨s4, s5, s6, s7, S3, rfl, D3⟩ := hI
        simp (implicitDefEqProofs := false) [-k_sSeq, Ss.wipe, -k_sTry]
        exact kk S3 D3
def lw64 (ns : List Int) (st : Ss) : Prop := ∃ a1 a2 a3 S, st = ⟨[.im (.scr (ns.map AV.int)), a1, a2, a3], S⟩
end
theorem pure_law (ns : List Int) (hl : ns.length ≤ 63) (hb : ∀ z ∈ ns, Builtin.Int.intBits z ≤ 1048576) : ∃ S, m_law [.scr (ns.map AV.int)] [] = .ok (.bl true) S := by
  have main : WpR (m_law [.scr (ns.map AV.int)] []) (fun d _ => d = .bl true) noE := by
    refine wpF ?_
    obtain ⟨m, hm, h5⟩ : ∃ m : Nat, max (1 : Int) (min (ns.length : Int) 3) = m ∧ m ≤ 3 := ⟨max 1 (min ns.length 3), by omega, by omega⟩
    have r2 : rng1 [.int 3] = some ((List.range 3).map iA) := rng_nat (n := 3) (by omega)
    refine wpS ?_
    simp (implicitDefEqProofs := false) [-k_sSeq, Ss.wipe, -k_sTry, fLen, deref, lenA, f_min2, f_max2, hm, rng_nat (n := m) (by omega)]
    refine wpO (fun _ => lw64 ns) ⟨_, _, _, _, rfl⟩ (fun j d st hd hI => ?_) fun st hI => ?_
    · obtain ⟨a1, a2, a3, S, rfl⟩ := hI
      obtain ⟨rfl, hj⟩ := rng_mem hd
      refine ⟨_, rfl, ?_⟩
      generalize hT : AV.scr (ns.map AV.int) = T
      refine wpS ?_
      simp (implicitDefEqProofs := false) [-k_sSeq, Ss.wipe, -k_sTry]
      rw [← hT]
      refine wpC (w_state fun S1 D1 _ => ?_)
      generalize S.length = l at D1
      rw [hT]
      simp (implicitDefEqProofs := false) [-k_sSeq, Ss.wipe, -k_sTry, r2]
      refine wpO (fun _ st => ∃ a3 S', st = ⟨[.im T, .im (.int j), .im (.loc l), a3], S'⟩ ∧ Dr S' l) ⟨_, S1, rfl, D1⟩ (fun i d st hd hI => ?_) fun st hI => ?_
      · obtain ⟨a3, S2, rfl, D2⟩ := hI
        refine ⟨_, rfl, ?_⟩
        simp (implicitDefEqProofs := false) [-k_sSeq, Ss.wipe, -k_sTry]
        refine wpC (w_right64 D2 fun S3 D3 => ?_)
        simp (implicitDefEqProofs := false) [-k_sSeq, Ss.wipe, -k_sTry]
        exact ⟨_, S3, ⟨rfl, rfl⟩, D3⟩
      · obtain ⟨a3, S2, rfl, D2⟩ := hI
        exact ⟨_, _, _, S2, by rw [← hT]⟩
    · obtain ⟨a1, a2, a3, S, rfl⟩ := hI
      simp (implicitDefEqProofs := false) [-k_sSeq, Ss.wipe, -k_sTry]
  obtain ⟨a, S, e, rfl⟩ := wp_ex main
  exact ⟨S, e⟩
end Fk
open PySem PySem.W PySem.Calls PyProof.Rows
set_option maxRecDepth 100000 in
set_option maxHeartbeats 8000000 in
theorem PySem.Challenge.cw_flashkeep_k64_whole_texts_holds : PySem.Challenge.rw_flashkeep_k64_whole_texts.Holds := by
  w_on; o_law
  refine HandSHeadRun.head_any (r := OpenLaw.row PySem.Challenge.rw_flashkeep_k64_whole_texts) (q := view (OpenLaw.row PySem.Challenge.rw_flashkeep_k64_whole_texts).prog [70]) (H := Fk.Hd.hk) (ob := Fk.Hd.ob) (M := 20000) (loose := Fk.Hd.loose) (d := HandSHeadRun.topDef (OpenLaw.row PySem.Challenge.rw_flashkeep_k64_whole_texts).prog 70) (kwd := []) (Fk.obB_eq _ _ _ _ _)
    (by kernel_rfl) (fun s => by kernel_rfl) Fk.Hd.run (by kernel_rfl) (by kernel_rfl) (by kernel_rfl) (by rfl) (by first | assumption | decide +kernel) (by decide +kernel) ⟨rfl, rfl, rfl, rfl, rfl, by decide +kernel⟩ ?hw ?hc
  case hw => w_witness2
  case hc =>
    refine Fk.walk_endT (l := PySem.Challenge.rw_flashkeep_k64_whole_texts) (n := 63) (k := 13) (x := "_law_script") rfl (by decide) (by kernel_rfl) ⟨rfl, by decide, by decide⟩ ?_
    intro w mg fa h Y G hmg0
    obtain ⟨K, KX, c, tb⟩ := Y
    have hmg : mg ("law" : PySem.Str) = some (.ref fa) := by
      have e : (HandSHeadRun.topDef (OpenLaw.row PySem.Challenge.rw_flashkeep_k64_whole_texts).prog 70).name = ("law" : PySem.Str) := by kernel_rfl
      rw [← e]
      exact hmg0
    obtain ⟨fd, hb, hF⟩ := Fk.facts (P := (PySem.Challenge.rw_flashkeep_k64_whole_texts).prog) (w := w) KX G hmg c
    obtain ⟨t1, t2, t3⟩ := Fk.tbB_ok KX tb
    exact ⟨K, fd, _, Fk.Hd.mk.map (Fk.mkr K), KX, t1, t2, t3, hb, fun H a ns hl hbits hT hA hS => Fk.law_spT (Fk.pure_law ns hl hbits) hT hA hS, hF⟩
