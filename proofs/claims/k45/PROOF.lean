import PyProof.Rows.All
import Wide.All
import OpenK.AllK
import Wide.FinOn
import KE.KStateDown
import Lean
import HandS.Defaults
import HandS.Words
import HandS.Head0
import HandS.Head1
import HandS.Head2
import HandS.HeadEnd
import HandS.HeadHook1
import HandS.HeadHook2
import PySem.Challenge.RW_nestcount_k45_whole_completed
import HandS.Base
import HandS.Call
import HandS.Ends
import HandS.More
import HandS.WordsExc
import KE.KExcInit
import HandS.ForMost
import HandS.Exc
import HandS.ExcOwn
import HandS.TryOnly
import HandS.MakeKwOnly
import HandS.ClsMeth
import HandS.Flow
import HandS.Walk
import HandS.Zip
import HandS.TupAny
import HandS.OwnEq
import HandS.Star
import HandS.Strs
import HandS.IsInst
import HandS.ExcInit
import HandS.GenCall
import HandS.GenList
import KE.KEqDeep
import HandS.Style
set_option Elab.async false
set_option linter.all false
set_option maxRecDepth 100000
set_option maxHeartbeats 0
/-! #### K45Stm -/
namespace K45
open PySem PySem.Spec PyProof.Rows L2
/-! ### the text by places -/
def top (i : Nat) : Stmt := PySem.Challenge.pw_nestcount_k45_whole_completed.main.body.getD i (.Pass ⟨0, 0, 0, 0⟩)
abbrev sInt : Stmt := top 13
abbrev sChk : Stmt := top 14
abbrev sAr : Stmt := top 28
abbrev sSpl : Stmt := top 29
abbrev sLSp : Stmt := top 52
abbrev sPow : Stmt := top 30
abbrev sLPw : Stmt := top 57
abbrev sPl : Stmt := top 33
abbrev sRe : Stmt := top 34
abbrev sBo : Stmt := top 35
abbrev sIt : Stmt := top 47
abbrev sPc : Stmt := top 48
abbrev sSe : Stmt := top 49
abbrev sKn : Stmt := top 50
abbrev sLB : Stmt := top 51
abbrev sPn : Stmt := top 36
abbrev sWi : Stmt := top 54
abbrev sTo : Stmt := top 55
abbrev sSu : Stmt := top 56
abbrev sRx : Stmt := top 39
abbrev sNa : Stmt := top 38
abbrev sAI : Stmt := top 15
abbrev sSL : Stmt := top 16
abbrev sNF : Stmt := top 17
abbrev sSI : Stmt := top 18
abbrev sIs : Stmt := inClass (top 20) 5
abbrev sLi : Stmt := inClass (top 40) 9
abbrev sKF : Stmt := inClass (top 40) 10
abbrev sPI : Stmt := inClass (top 40) 12
abbrev sRg : Stmt := inClass (top 40) 11
abbrev sSc : Stmt := inClass (top 20) 4
abbrev sEq : Stmt := inClass (top 20) 22
abbrev sCo : Stmt := inClass (top 40) 13
abbrev sBe : Stmt := top 43
abbrev sDr : Stmt := top 44
abbrev sOf : Stmt := top 45
abbrev sSt : Stmt := top 46
abbrev sRa : Stmt := top 53
abbrev sSR : Stmt := top 61
abbrev sDu : Stmt := top 62
abbrev sCV : Stmt := top 26
abbrev sCP : Stmt := top 27
abbrev sGi : Stmt := top 60
abbrev sLC : Stmt := top 59
abbrev sEC : Stmt := top 37
abbrev sCI : Stmt := inClass (top 7) 0
abbrev sPr : Stmt := inClass (top 40) 3
abbrev sPi : Stmt := inClass (top 40) 2
abbrev sVi : Stmt := inClass (top 41) 0
abbrev sMa : Stmt := top 58
abbrev sRt : Stmt := top 63
abbrev sLw : Stmt := top 64
abbrev cfA (K : PySem.W.Frag) : Addr := He.ga K "Conflict"
abbrev rtTail : List Value := [.type "RuntimeError", .type "Exception", .type "BaseException", .type "object"]
end K45
/-! #### K45Facts -/
namespace K45
open PySem PySem.Spec PyProof.Rows L2
/-! ### what the head tells -/
def dG (x : Str) (st : Stmt) (dfl : List He.Dv) : He.DefD := ⟨(x, none), x, x, defArgs st, defBody st, defScope st, dfl, []⟩
def dM (C m q : Str) (st : Stmt) : He.DefD := ⟨(C, some m), m, q, defArgs st, defBody st, defScope st, [], []⟩
def fn0 : List He.DefD := [dG "is_integer" sInt [], dG "check_integer" sChk [.non], dG "check_arity" sAr [], dG "split_number" sSpl [], dG "_law_split" sLSp [], dG "power_of" sPow [], dG "_law_power" sLPw [], dG "places_in" sPl []]
def fn1 : List He.DefD := [dG "rest_of" sRe [], dG "bounds_of" sBo [], dG "_law_item" sIt [], dG "_law_place" sPc [], dG "_law_seen" sSe [], dG "_law_known" sKn [], dG "_law_bounds" sLB [], dG "plain_numbers" sPn []]
def fn2 : List He.DefD := [dG "_law_window" sWi [], dG "_law_top" sTo [], dG "_law_sums" sSu [], dG "relaxed" sRx [], dG "is_item_name" sNa [], dG "are_items" sAI [], dG "shortest_loop" sSL [], dG "normal_form" sNF []]
def fn3 : List He.DefD := [dG "stream_item" sSI [], dG "each_conflict" sEC [], dG "_law_draw" sDr [], dG "_law_begun" sBe [], dG "_law_of" sOf [], dG "_law_stream" sSt [], dG "_law_random" sRa [], dG "_law_spine_row" sSR []]
def fn4 : List He.DefD := [dG "_law_due" sDu [], dG "check_values" sCV [], dG "check_places" sCP [], dG "_law_given" sGi [], dG "_law_completed" sLC [], dG "_law_made" sMa [], dG "_law_right" sRt [], dG "law" sLw []]
def fn5 : List He.DefD := [dM "Schedule" "__init__" "Schedule.__init__" sSc, dM "Schedule" "__eq__" "Schedule.__eq__" sEq, dM "Conflict" "__init__" "Conflict.__init__" sCI, dM "PlaceFit" "__init__" "PlaceFit.__init__" sPi, dM "ValueFit" "__init__" "ValueFit.__init__" sVi, dM "PlaceFit" "limits" "PlaceFit.limits" sLi, dM "PlaceFit" "known_frequency" "PlaceFit.known_frequency" sKF, dM "PlaceFit" "spine_item" "PlaceFit.spine_item" sPI]
def fn6 : List He.DefD := [dM "PlaceFit" "range_of" "PlaceFit.range_of" sRg, dM "PlaceFit" "completed" "PlaceFit.completed" sCo, dM "PlaceFit" "prepare" "PlaceFit.prepare" sPr, dM "ValueFit" "limits" "PlaceFit.limits" sLi, dM "ValueFit" "known_frequency" "PlaceFit.known_frequency" sKF, dM "ValueFit" "spine_item" "PlaceFit.spine_item" sPI, dM "ValueFit" "range_of" "PlaceFit.range_of" sRg, dM "ValueFit" "completed" "PlaceFit.completed" sCo]
def fn7 : List He.DefD := [dM "ValueFit" "prepare" "PlaceFit.prepare" sPr]
def fn : List He.DefD := fn0 ++ (fn1 ++ (fn2 ++ (fn3 ++ (fn4 ++ (fn5 ++ (fn6 ++ (fn7)))))))
def fa0 : List He.Fa := [.free "len", .free "max", .free "min", .free "isinstance", .free "all", .free "int", .free "bool", .free "tuple"]
def fa1 : List He.Fa := [.free "list", .free "str", .free "range", .free "enumerate", .free "zip", .int "FRONT_LIMIT" 12, .int "LOOP_LIMIT" 6, .int "LABEL_LIMIT" 1000000]
def fa2 : List He.Fa := [.int "ARITY_LIMIT" 9, .int "MOST_LABELS" 1000000, .int "ITEM_COUNT" 12, .int "UNLIMITED" 100000000, .glo "is_integer", .glo "check_integer", .glo "check_arity", .glo "split_number"]
def fa3 : List He.Fa := [.glo "_law_split", .glo "power_of", .glo "_law_power", .glo "places_in", .glo "rest_of", .glo "bounds_of", .glo "_law_item", .glo "_law_place"]
def fa4 : List He.Fa := [.glo "_law_seen", .glo "_law_known", .glo "_law_bounds", .glo "plain_numbers", .glo "_law_window", .glo "_law_top", .glo "_law_sums", .glo "relaxed"]
def fa5 : List He.Fa := [.glo "is_item_name", .glo "are_items", .glo "shortest_loop", .glo "normal_form", .glo "stream_item", .glo "each_conflict", .glo "_law_draw", .glo "_law_begun"]
def fa6 : List He.Fa := [.glo "_law_of", .glo "_law_stream", .glo "_law_random", .glo "_law_spine_row", .glo "_law_due", .glo "check_values", .glo "check_places", .glo "_law_given"]
def fa7 : List He.Fa := [.glo "_law_completed", .glo "_law_made", .glo "_law_right", .glo "law", .glo "Schedule", .glo "PlaceFit", .glo "ValueFit", .glo "Conflict"]
def fa8 : List He.Fa := [.glo "StateError", .glo "INDEXES", .cls "Schedule", .mkr "Schedule", .cls "PlaceFit", .mkr "PlaceFit", .cls "ValueFit", .mkr "ValueFit"]
def fa9 : List He.Fa := [.noat "Schedule" "own_arity", .noat "Schedule" "own_spine", .noat "Schedule" "own_levels", .noat "PlaceFit" "own_places", .noat "PlaceFit" "own_arity", .noat "PlaceFit" "own_rest", .noat "PlaceFit" "own_bounds", .noat "ValueFit" "own_places"]
def fa10 : List He.Fa := [.noat "ValueFit" "own_arity", .noat "ValueFit" "own_rest", .noat "ValueFit" "own_bounds", .meth "Schedule" "__init__", .meth "Schedule" "__eq__", .meth "Conflict" "__init__", .meth "PlaceFit" "__init__", .meth "ValueFit" "__init__"]
def fa11 : List He.Fa := [.meth "PlaceFit" "limits", .meth "PlaceFit" "known_frequency", .meth "PlaceFit" "spine_item", .meth "PlaceFit" "range_of", .meth "PlaceFit" "completed", .meth "PlaceFit" "prepare", .meth "ValueFit" "limits", .meth "ValueFit" "known_frequency"]
def fa12 : List He.Fa := [.meth "ValueFit" "spine_item", .meth "ValueFit" "range_of", .meth "ValueFit" "completed", .meth "ValueFit" "prepare", .exm "Conflict" "Conflict" true]
def fa : List He.Fa := fa0 ++ (fa1 ++ (fa2 ++ (fa3 ++ (fa4 ++ (fa5 ++ (fa6 ++ (fa7 ++ (fa8 ++ (fa9 ++ (fa10 ++ (fa11 ++ (fa12))))))))))))
/-- the static method's function -/
def smA (K : PySem.W.Frag) : Addr := He.ma K (He.ga K "Schedule") "is_stream"
def gIs (K : PySem.W.Frag) : Addr := match PySem.W.recIn K (smA K) "staticmethod" with
  | some (.ref g :: _) => g
  | _ => 0
def isRec (K : PySem.W.Frag) : Bool := match PySem.W.recIn K (smA K) "staticmethod" with
  | some (.ref _ :: _) => true
  | _ => false
theorem isRec_ok {K : PySem.W.Frag} (h : isRec K = true) : ∃ rest, PySem.W.recIn K (smA K) "staticmethod" = some (.ref (gIs K) :: rest) := by
  unfold isRec at h
  unfold gIs
  cases e : PySem.W.recIn K (smA K) "staticmethod" with
  | none =>
    rw [e] at h
    cases h
  | some l =>
    rw [e] at h
    cases l with
    | nil => cases h
    | cons v r =>
      cases v with
      | ref g => exact ⟨r, rfl⟩
      | _ => cases h
def fnA (K : PySem.W.Frag) (g : Addr) : He.FnW := match K.lookup g with
  | some ⟨_, _, .func fd, _⟩ => some (fd.name, fd.qualname, fd.params, fd.body, fd.scope, fd.globals, fd.closure, fd.builtins)
  | _ => none
def fnB (K : PySem.W.Frag) (g : Addr) (q : Str) : Bool := match K.lookup g with
  | some ⟨_, _, .func fd, _⟩ => PySem.W.codeIn K fd.code q && (He.dflB K fd.defaults [] && He.kwdB K fd.kwdefaults [])
  | _ => false
theorem fnA_ok {K : PySem.W.Frag} {g : Addr} {x q : Str} {st : Stmt} (kp : PySem.W.keepIn K (.ref g) = true) (e : fnA K g = some (x, q, defArgs st, .stmts (defBody st), defScope st, mainGlobals, [], builtinsNs)) (c : fnB K g q = true) : ∃ fd, FunD K x q (defArgs st) (defBody st) (defScope st) [] [] g fd := by
  unfold fnA at e
  unfold fnB at c
  cases z : K.lookup g with
  | none =>
    rw [z] at c
    cases c
  | some o =>
    obtain ⟨oc, od, dt, osl⟩ := o
    rw [z] at c e
    cases dt with
    | func fd =>
      obtain ⟨n1, n2, n3, n4, n5, n6, n7, n8, n9, n10, n11, n12, n13, n14, n15⟩ := fd
      have e2 : (some (n1, n2, n3, n4, n5, n6, n7, n15) : He.FnW) = some (x, q, defArgs st, .stmts (defBody st), defScope st, mainGlobals, [], builtinsNs) := e
      simp only [Option.some.injEq, Prod.mk.injEq] at e2
      obtain ⟨h1, h2, h3, h4, h5, h6, h7, h8⟩ := e2
      subst h1 h2 h3 h4 h5 h6 h7 h8
      obtain ⟨k1, k2⟩ := He.ba (show (PySem.W.codeIn K n13 n2 && (He.dflB K n8 [] && He.kwdB K n9 [])) = true from c)
      obtain ⟨k3, k4⟩ := He.ba k2
      exact ⟨_, ⟨oc, od, n8, n9, n10, n11, n12, n13, n14, osl, rfl, z, k1, He.dflB_ok k3, He.kwdB_ok k4⟩, kp⟩
    | _ => cases c
def foundV (r : Option PySem.W.CFound) (v : Value) : Bool := match r with
  | some (.val u) => decide (u = v)
  | _ => false
theorem foundV_ok {r : Option PySem.W.CFound} {v : Value} (h : foundV r v = true) : r = some (.val v) := by
  unfold foundV at h
  cases r with
  | none => cases h
  | some c =>
    cases c with
    | val u => rw [of_decide_eq_true h]
    | get g a o t => cases h
def foundG (r : Option PySem.W.CFound) (g a o t : Value) : Bool := match r with
  | some (.get g' a' o' t') => decide (g' = g) && (decide (a' = a) && (decide (o' = o) && decide (t' = t)))
  | _ => false
theorem foundG_ok {r : Option PySem.W.CFound} {g a o t : Value} (h : foundG r g a o t = true) : r = some (.get g a o t) := by
  unfold foundG at h
  cases r with
  | none => cases h
  | some c =>
    cases c with
    | val u => cases h
    | get g' a' o' t' =>
      obtain ⟨h1, h2⟩ := He.ba h
      obtain ⟨h2, h3⟩ := He.ba h2
      obtain ⟨h3, h4⟩ := He.ba h3
      rw [of_decide_eq_true h1, of_decide_eq_true h2, of_decide_eq_true h3, of_decide_eq_true h4]
def plainTup (K : PySem.W.Frag) (a : Addr) : Bool := match K.lookup a with
  | some o => decide (o.cls = .type "tuple") && decide (o.dict = none)
  | none => false
theorem plainTup_ok {K : PySem.W.Frag} {a : Addr} (h : plainTup K a = true) : ∃ o, K.lookup a = some o ∧ o.cls = .type "tuple" ∧ o.dict = none := by
  unfold plainTup at h
  cases e : K.lookup a with
  | none =>
    rw [e] at h
    cases h
  | some o =>
    rw [e] at h
    obtain ⟨h1, h2⟩ := He.ba h
    exact ⟨o, rfl, of_decide_eq_true h1, of_decide_eq_true h2⟩
def idxL : List He.Dv := [.str "0", .str "1", .str "2", .str "3", .str "4", .str "5", .str "6", .str "7", .str "8", .str "9", .str "10", .str "11"]
def scA (K : PySem.W.Frag) : Addr := He.ga K "Schedule"
def seA (K : PySem.W.Frag) : Addr := He.ga K "StateError"
def moreL (K : PySem.W.Frag) : List Bool := [
  He.tupB K "INDEXES" idxL,
  plainTup K (He.ga K "INDEXES"),
  He.eqO (PySem.W.findIn K (.ref (scA K)) "__class__") (some (some (.builtin "object.__class__"))),
  He.eqO (PySem.W.specialIn K (.builtin "object.__class__") "__get__") (some (some (.builtin "getset_descriptor.__get__"))),
  decide (PySem.W.takesIn K (.builtin "object.__class__") = some true),
  decide (PySem.W.mroIn K (scA K) (.type "object") = some true),
  PySem.W.readsIn K (scA K) (.type "type"),
  He.eqO (PySem.W.specialIn K (.ref (scA K)) "__getattribute__") (some (some (.builtin "type.__getattribute__"))),
  PySem.W.readsIn K (seA K) (.type "type"),
  He.eqO (PySem.W.specialIn K (.ref (seA K)) "__getattribute__") (some (some (.builtin "type.__getattribute__"))),
  foundG (PySem.W.findCls K (.ref (scA K)) (.type "type") "is_stream") (.builtin "staticmethod.__get__") (.ref (smA K)) .none (.ref (scA K)),
  isRec K,
  PySem.W.keepIn K (.ref (gIs K)),
  fnB K (gIs K) "Schedule.is_stream",
  foundV (PySem.W.findCls K (.ref (seA K)) (.type "type") "__init__") (.builtin "RuntimeError.__init__"),
  PySem.W.excInitIn K (cfA K) rtTail "RuntimeError.__new__",
  PySem.W.excOver K (cfA K) rtTail,
  PySem.W.hasDictIn K (cfA K),
  He.eqO (PySem.W.findIn K (.ref (cfA K)) "__setattr__") (some (some (.builtin "object.__setattr__"))),
  He.eqO (PySem.W.takerIn K (cfA K) "first") (some none),
  He.eqO (PySem.W.takerIn K (cfA K) "second") (some none),
  decide (PySem.W.subIn K (.ref (cfA K)) (.type "BaseException") = some true),
  decide (PySem.W.typeIn K (.ref (cfA K)) = some (.type "type")),
  PySem.W.keepIn K (.ref (cfA K)),
  decide (PySem.W.typeIn K (.ref (He.ma K (cfA K) "__init__")) = some (.type "function"))]
theorem more_at {K : PySem.W.Frag} (h : (moreL K).all id = true) (i : Nat) {b : Bool} (e : (moreL K)[i]? = some b := by rfl) : b = true := List.all_eq_true.mp h b (List.mem_of_getElem? e)
def isVal : He.FnW := some ("is_stream", "Schedule.is_stream", defArgs sIs, .stmts (defBody sIs), defScope sIs, mainGlobals, [], builtinsNs)
abbrev AlX : Type := He.AlD × (Bool × He.FnW)
def obsX (K : PySem.W.Frag) : AlX := (He.obsD fa fn K, ((moreL K).all id, fnA K (gIs K)))
def valX : AlX := (He.valD fn, (true, isVal))
structure SaysX (K : PySem.W.Frag) : Prop where
  d : He.SaysD fa fn K
  m : (moreL K).all id = true
  e : fnA K (gIs K) = isVal
/-- what is reached in n steps, not thinned -/
def reach (g : Addr → Option Obj) : Nat → List Addr → List Addr
  | 0, as => as
  | n + 1, as => as ++ reach g n (as.flatMap fun a => match g a with
    | some o => He.refsD o
    | none => [])
def obsXG (g : Addr → Option Obj) : AlX := obsX (He.frG g (cStatics :: reach g 5 [mainGlobals]))
def hookX : PySem.W.Hook where
  α := AlX
  obs := fun s => obsXG s.heap.get?
  val := fun _ => valX
  says := fun _ h => ∃ K : PySem.W.Frag, K.In h ∧ SaysX K
  of := fun _ _ e => ⟨_, He.frG_in, ⟨congrArg (fun z : AlX => z.1) e, congrArg (fun z : AlX => z.2.1) e, congrArg (fun z : AlX => z.2.2) e⟩⟩
  keeps := fun _ _ _ ⟨K, hK, c⟩ k => ⟨K, PySem.W.Frag.In.keeps hK k, c⟩
theorem obsXG_eq {g : Addr → Option Obj} {s : Shared} (h : ∀ a, g a = s.heap.get? a) : obsXG g = hookX.obs s := by
  have e : g = s.heap.get? := funext h
  rw [e] <;> rfl
end K45
/-! #### K45Run -/
namespace K45
open PySem PySem.Spec PyProof.Rows L2
abbrev R : PySem.W.OpenRow := PySem.W.OpenLaw.row PySem.Challenge.rw_nestcount_k45_whole_completed
def ob (s : PySem.W.SharedT) : AlX := obsXG (HandSHeadRun.getT s)
theorem ob_eq (s : PySem.W.SharedT) : ob s = hookX.obs s.abs := obsXG_eq (HandSHeadRun.getT_eq s)
def nm0 : List PySem.Str := [("_wall" : PySem.Str), ("__name__" : PySem.Str), ("ScheduleError" : PySem.Str), ("InvalidSchedule" : PySem.Str), ("InvalidNumber" : PySem.Str), ("InvalidValues" : PySem.Str), ("StateError" : PySem.Str), ("Conflict" : PySem.Str), ("FRONT_LIMIT" : PySem.Str), ("LOOP_LIMIT" : PySem.Str), ("LABEL_LIMIT" : PySem.Str), ("ARITY_LIMIT" : PySem.Str)]
def nm1 : List PySem.Str := [("is_integer" : PySem.Str), ("check_integer" : PySem.Str), ("are_items" : PySem.Str), ("shortest_loop" : PySem.Str), ("normal_form" : PySem.Str), ("stream_item" : PySem.Str), ("text_of_stream" : PySem.Str), ("Schedule" : PySem.Str), ("MOST_LABELS" : PySem.Str), ("ITEM_COUNT" : PySem.Str), ("INDEXES" : PySem.Str), ("UNLIMITED" : PySem.Str)]
def nm2 : List PySem.Str := [("check_values" : PySem.Str), ("check_places" : PySem.Str), ("check_arity" : PySem.Str), ("split_number" : PySem.Str), ("power_of" : PySem.Str), ("first_places" : PySem.Str), ("first_values" : PySem.Str), ("places_in" : PySem.Str), ("rest_of" : PySem.Str), ("bounds_of" : PySem.Str), ("plain_numbers" : PySem.Str), ("each_conflict" : PySem.Str)]
def nm3 : List PySem.Str := [("is_item_name" : PySem.Str), ("relaxed" : PySem.Str), ("PlaceFit" : PySem.Str), ("ValueFit" : PySem.Str), ("_law_begun" : PySem.Str), ("_law_draw" : PySem.Str), ("_law_of" : PySem.Str), ("_law_stream" : PySem.Str), ("_law_item" : PySem.Str), ("_law_place" : PySem.Str), ("_law_seen" : PySem.Str), ("_law_known" : PySem.Str)]
def nm4 : List PySem.Str := [("_law_bounds" : PySem.Str), ("_law_split" : PySem.Str), ("_law_random" : PySem.Str), ("_law_window" : PySem.Str), ("_law_top" : PySem.Str), ("_law_sums" : PySem.Str), ("_law_power" : PySem.Str), ("_law_made" : PySem.Str), ("_law_completed" : PySem.Str), ("_law_given" : PySem.Str), ("_law_spine_row" : PySem.Str), ("_law_due" : PySem.Str)]
def nm5 : List PySem.Str := [("_law_right" : PySem.Str)]
def allNames : List PySem.Str := nm0 ++ nm1 ++ nm2 ++ nm3 ++ nm4 ++ nm5
theorem run (w : World) : HandSHeadRun.RunEq R (PySem.W.view R.prog [64]) hookX ob 20000 allNames w := by
  intro os
  kernel_rfl
end K45
/-! #### K45Whole -/
namespace K45
open PySem PySem.Spec PyProof.Rows L2
/-- what the head wants of the walks -/
def Parts : Prop := ∀ (P : Program) (w : World) (K : PySem.W.Frag) (h : Heap) (mg : Str → Option Value), K.In h → h.Ns mainGlobals mg → SaysX K →
  ∃ fd : FuncData, (∀ (s : Shared) (us : List Value), us.length = 1 → BindsTo s fd ⟨us, []⟩ ((["_law_script"] : List Str).zip us)) ∧ ∀ base : Heap, FnOk P w K mg base CX0 9 (He.ga K "law") fd ["_law_script"]
    (fun vs H Q _ => ∃ (sc : Addr) (script : List Int), vs = [.ref sc] ∧ SqL K H sc (script.map V.int) ∧ script.length ≤ 63 ∧ ∀ H', Q (.bl true) H')
theorem glo_law {K : PySem.W.Frag} (c : SaysX K) : (He.Fa.glo "law").ok K = true := (c.d.fact 59 rfl)
open PySem.W PySem.Calls in
theorem whole (parts : Parts) : PySem.Challenge.rw_nestcount_k45_whole_completed.Holds := by
  w_on; o_law
  refine HandSHeadRun.head_any (r := OpenLaw.row PySem.Challenge.rw_nestcount_k45_whole_completed) (q := view (OpenLaw.row PySem.Challenge.rw_nestcount_k45_whole_completed).prog [64]) (H := hookX) (ob := ob) (M := 20000) (loose := allNames) (d := HandSHeadRun.topDef (OpenLaw.row PySem.Challenge.rw_nestcount_k45_whole_completed).prog 64) (kwd := []) ob_eq
    (by kernel_rfl) (fun s => by kernel_rfl) run (by kernel_rfl) (by kernel_rfl) (by kernel_rfl) (by rfl) (by first | assumption | decide +kernel) (by decide +kernel) ⟨rfl, rfl, rfl, rfl, rfl, by decide +kernel⟩ ?hw ?hc
  case hw => w_witness2
  case hc =>
    refine L2.walk_ofE (l := PySem.Challenge.rw_nestcount_k45_whole_completed) (n := 63) (k := 9) (x := "_law_script") (CX := L2.CX0) rfl (by decide) (by kernel_rfl) ⟨rfl, by decide, by decide⟩ ?F (fun _ _ _ _ z => z)
    intro w mg fa h Y G hmg0
    obtain ⟨K, KX, c⟩ := Y
    have hmg : mg ("law" : PySem.Str) = some (.ref fa) := by
      have e : (HandSHeadRun.topDef (OpenLaw.row PySem.Challenge.rw_nestcount_k45_whole_completed).prog 64).name = ("law" : PySem.Str) := by kernel_rfl
      rw [← e]
      exact hmg0
    have e := hmg.symm.trans (He.glo_ok KX G (glo_law c))
    cases e
    obtain ⟨fd, hb, hF⟩ := parts (PySem.Challenge.rw_nestcount_k45_whole_completed).prog w K h mg KX G c
    exact ⟨K, fd, _, KX, fun s v => hb s [v] rfl, fun H a ns hl _ hS => ⟨a, ns, rfl, hS, hl, fun _ => rfl⟩, fun base _ _ => hF base⟩
end K45
/-! #### K45Math -/
namespace K45

/-! ### the mirror: functions on indices instead of lists of twelve -/
def put (f : Nat → Int) (i : Nat) (v : Int) : Nat → Int := fun j => if j = i then v else f j
theorem put_same {f : Nat → Int} {i : Nat} {v : Int} : put f i v i = v := if_pos rfl
theorem put_ne {f : Nat → Int} {i j : Nat} {v : Int} (h : j ≠ i) : put f i v j = f j := if_neg h

def splitG : Nat → Nat → Nat → Nat × Nat
  | 0, _, n => (0, n)
  | f + 1, k, n => if n % k = 0 then ((splitG f k (n / k)).1 + 1, (splitG f k (n / k)).2) else (0, n)
def expo (k n : Nat) : Nat := (splitG n k n).1
def core (k n : Nat) : Nat := (splitG n k n).2

abbrev Two := (Nat → Int) × (Nat → Int)
abbrev UN : Int := 100000000
/-- what one number tells of the least and of the greatest sum -/
def leastAt (k : Nat) (b : List Int) (sp : Nat → Option Int) (i : Nat) : Int :=
  if core k (i + 1) = 1 then (match sp (expo k (i + 1) + 1) with | some it => b.getD i 0 - it | none => 1) else b.getD i 0
def mostAt (k : Nat) (b : List Int) (sp : Nat → Option Int) (i : Nat) : Int :=
  if i + 1 = b.length then UN else if core k (i + 1) = 1 then b.getD i 0 - (sp (expo k (i + 1) + 1)).getD 0 else b.getD i 0
def limStep (k : Nat) (b : List Int) (sp : Nat → Option Int) (s : Two) (i : Nat) : Two :=
  (put s.1 (expo k (i + 1)) (max (s.1 (expo k (i + 1))) (leastAt k b sp i)), put s.2 (expo k (i + 1)) (min (s.2 (expo k (i + 1))) (mostAt k b sp i)))
def limitsN (k : Nat) (b : List Int) (sp : Nat → Option Int) (n : Nat) : Two := (List.range n).foldl (limStep k b sp) (fun _ => 1, fun _ => UN)
def limits (k : Nat) (b : List Int) (sp : Nat → Option Int) : Two := limitsN k b sp b.length

abbrev Gaps := Nat → Option Int
def gz (g : Gaps) (i : Nat) : Int := (g i).getD 0
/-- the sums' lower limits: one index -/
def lowStep (g : Gaps) (l : Nat → Int) (i : Nat) : Nat → Int :=
  if i = 0 then (match g 0 with | some x => put l 0 (max (l 0) x) | none => l)
  else match g i with
    | some x => put (put l i (max (l i) (l (i - 1) + x))) (i - 1) (max (l (i - 1)) (max (l i) (l (i - 1) + x) - x))
    | none => put l i (max (l i) (l (i - 1) + 0))
def highStep (g : Gaps) (h : Nat → Int) (i : Nat) : Nat → Int :=
  if i = 0 then (match g 0 with | some x => put h 0 (min (h 0) x) | none => h)
  else match g i with
    | some x => put (put h (i - 1) (min (h (i - 1)) (h i - x))) i (min (h i) (min (h (i - 1)) (h i - x) + x))
    | none => put h (i - 1) (min (h (i - 1)) (h i - 0))
def lowRun (g : Gaps) (l : Nat → Int) (n : Nat) : Nat → Int := (List.range n).foldl (lowStep g) l
def highRun (g : Gaps) (h : Nat → Int) (n : Nat) : Nat → Int := (List.range n).foldl (highStep g) h
def lowRounds (g : Gaps) (l : Nat → Int) : Nat → Nat → Int
  | 0 => l
  | n + 1 => lowRun g (lowRounds g l n) 12
def highRounds (g : Gaps) (h : Nat → Int) : Nat → Nat → Int
  | 0 => h
  | n + 1 => highRun g (highRounds g h n) 12

theorem lowRun_succ (g : Gaps) (l : Nat → Int) (n : Nat) : lowRun g l (n + 1) = lowStep g (lowRun g l n) n := by
  unfold lowRun
  rw [List.range_succ, List.foldl_append] <;> rfl
theorem highRun_succ (g : Gaps) (l : Nat → Int) (n : Nat) : highRun g l (n + 1) = highStep g (highRun g l n) n := by
  unfold highRun
  rw [List.range_succ, List.foldl_append] <;> rfl

/-! ### lower limits -/
/-- all lower wishes -/
structure LowOk (g : Gaps) (l S : Nat → Int) : Prop where
  lo : ∀ i, i < 12 → l i ≤ S i
  fw : ∀ i, 0 < i → i < 12 → S (i - 1) + gz g i ≤ S i
  bw : ∀ i x, 0 < i → i < 12 → g i = some x → S i ≤ S (i - 1) + x
  zero : ∀ x, g 0 = some x → x ≤ S 0
theorem gz_some {g : Gaps} {i : Nat} {x : Int} (h : g i = some x) : gz g i = x := by unfold gz; rw [h]; rfl
theorem gz_none {g : Gaps} {i : Nat} (h : g i = none) : gz g i = 0 := by unfold gz; rw [h]; rfl
theorem lowStep_le {g : Gaps} {l S : Nat → Int} {i : Nat} (hi : i < 12) (h : LowOk g l S) : LowOk g (lowStep g l i) S := by
  refine ⟨fun j hj => ?_, h.fw, h.bw, h.zero⟩
  unfold lowStep
  by_cases h0 : i = 0
  · rw [if_pos h0]
    cases e : g 0 with
    | none => exact h.lo j hj
    | some x =>
      show put l 0 (max (l 0) x) j ≤ S j
      by_cases hj0 : j = 0
      · subst hj0
        rw [put_same]
        have := h.lo 0 hj
        have := h.zero x e
        omega
      · rw [put_ne hj0]; exact h.lo j hj
  · rw [if_neg h0]
    have a1 := h.lo i hi
    have a2 := h.lo (i - 1) (by omega)
    have a3 := h.fw i (by omega) hi
    cases e : g i with
    | none =>
      show put l i (max (l i) (l (i - 1) + 0)) j ≤ S j
      rw [gz_none e] at a3
      by_cases hj0 : j = i
      · subst hj0; rw [put_same]; omega
      · rw [put_ne hj0]; exact h.lo j hj
    | some x =>
      show put (put l i (max (l i) (l (i - 1) + x))) (i - 1) (max (l (i - 1)) (max (l i) (l (i - 1) + x) - x)) j ≤ S j
      rw [gz_some e] at a3
      have a4 := h.bw i x (by omega) hi e
      by_cases hj1 : j = i - 1
      · subst hj1; rw [put_same]; omega
      · rw [put_ne hj1]
        by_cases hj0 : j = i
        · subst hj0; rw [put_same]; omega
        · rw [put_ne hj0]; exact h.lo j hj
theorem lowRun_le {g : Gaps} {l S : Nat → Int} : ∀ n, n ≤ 12 → LowOk g l S → LowOk g (lowRun g l n) S
  | 0, _, h => h
  | n + 1, hn, h => by
    rw [lowRun_succ]
    exact lowStep_le (by omega) (lowRun_le n (by omega) h)
theorem lowRounds_le {g : Gaps} {l S : Nat → Int} : ∀ n, LowOk g l S → LowOk g (lowRounds g l n) S
  | 0, h => h
  | n + 1, h => lowRun_le 12 (by omega) (lowRounds_le n h)
theorem lowStep_ge {g : Gaps} {l : Nat → Int} {i : Nat} (j : Nat) : l j ≤ lowStep g l i j := by
  unfold lowStep
  by_cases h0 : i = 0
  · rw [if_pos h0]
    cases e : g 0 with
    | none => exact Int.le_refl _
    | some x =>
      show l j ≤ put l 0 (max (l 0) x) j
      by_cases hj0 : j = 0
      · subst hj0; rw [put_same]; omega
      · rw [put_ne hj0]; exact Int.le_refl _
  · rw [if_neg h0]
    cases e : g i with
    | none =>
      show l j ≤ put l i (max (l i) (l (i - 1) + 0)) j
      by_cases hj0 : j = i
      · subst hj0; rw [put_same]; omega
      · rw [put_ne hj0]; exact Int.le_refl _
    | some x =>
      show l j ≤ put (put l i (max (l i) (l (i - 1) + x))) (i - 1) (max (l (i - 1)) (max (l i) (l (i - 1) + x) - x)) j
      by_cases hj1 : j = i - 1
      · subst hj1; rw [put_same]; omega
      · rw [put_ne hj1]
        by_cases hj0 : j = i
        · subst hj0; rw [put_same]; omega
        · rw [put_ne hj0]; exact Int.le_refl _
theorem lowRun_ge {g : Gaps} {l : Nat → Int} (j : Nat) : ∀ n, l j ≤ lowRun g l n j
  | 0 => Int.le_refl _
  | n + 1 => by
    rw [lowRun_succ]
    exact Int.le_trans (lowRun_ge j n) (lowStep_ge j)
theorem lowRounds_ge {g : Gaps} {l : Nat → Int} (j : Nat) : ∀ n, l j ≤ lowRounds g l n j
  | 0 => Int.le_refl _
  | n + 1 => Int.le_trans (lowRounds_ge j n) (lowRun_ge j 12)

/-- forward wishes up to the index n -/
structure Fw (g : Gaps) (l : Nat → Int) (n : Nat) : Prop where
  fw : ∀ i, 0 < i → i < n → l (i - 1) + gz g i ≤ l i
  zero : ∀ x, 0 < n → g 0 = some x → x ≤ l 0
theorem fw_run (g : Gaps) (l : Nat → Int) : ∀ n, Fw g (lowRun g l n) n
  | 0 => ⟨fun i _ h => absurd h (Nat.not_lt_zero _), fun x h => absurd h (Nat.not_lt_zero _)⟩
  | n + 1 => by
    have ih := fw_run g l n
    rw [lowRun_succ]
    generalize lowRun g l n = m at ih
    have up : ∀ j, m j ≤ lowStep g m n j := fun j => lowStep_ge j
    refine ⟨fun i hi hn => ?_, fun x _ hx => ?_⟩
    · unfold lowStep
      by_cases h0 : n = 0
      · omega
      · rw [if_neg h0]
        have old : i < n → m (i - 1) + gz g i ≤ m i := fun h => ih.fw i hi h
        cases e : g n with
        | none =>
          show put m n (max (m n) (m (n - 1) + 0)) (i - 1) + gz g i ≤ put m n (max (m n) (m (n - 1) + 0)) i
          rw [put_ne (show i - 1 ≠ n by omega)]
          by_cases hin : i = n
          · subst hin; rw [put_same, gz_none e]; omega
          · rw [put_ne hin]; exact old (by omega)
        | some x =>
          show put (put m n (max (m n) (m (n - 1) + x))) (n - 1) (max (m (n - 1)) (max (m n) (m (n - 1) + x) - x)) (i - 1) + gz g i ≤ put (put m n (max (m n) (m (n - 1) + x))) (n - 1) (max (m (n - 1)) (max (m n) (m (n - 1) + x) - x)) i
          by_cases hin : i = n
          · subst hin
            rw [put_same, put_ne (show i ≠ i - 1 by omega), put_same, gz_some e]; omega
          · rw [put_ne (show i - 1 ≠ n - 1 by omega), put_ne (show i - 1 ≠ n by omega)]
            have o := old (by omega)
            by_cases hi1 : i = n - 1
            · rw [hi1, put_same]; rw [hi1] at o; omega
            · rw [put_ne hi1, put_ne hin]; exact o
    · by_cases h0 : n = 0
      · subst h0
        unfold lowStep
        rw [if_pos rfl, hx]
        show x ≤ put m 0 (max (m 0) x) 0
        rw [put_same]; omega
      · exact Int.le_trans (ih.zero x (by omega) hx) (up 0)
theorem fw_rounds (g : Gaps) (l : Nat → Int) (n : Nat) : Fw g (lowRounds g l (n + 1)) 12 := fw_run g _ 12

/-- a round over forward limits only steps back by one -/
theorem round_is {g : Gaps} {l : Nat → Int} (F : Fw g l 12) : ∀ n, n ≤ 12 → ∀ i, lowRun g l n i = if i + 1 < n then (match g (i + 1) with | some x => l (i + 1) - x | none => l i) else l i
  | 0, _, i => by rw [if_neg (by omega)]; rfl
  | n + 1, hn, i => by
    have ih := round_is F n (by omega)
    rw [lowRun_succ]
    generalize lowRun g l n = m at ih
    have m1 : m n = l n := by rw [ih n, if_neg (by omega)]
    unfold lowStep
    by_cases h0 : n = 0
    · subst h0
      rw [if_pos rfl, if_neg (by omega)]
      cases e : g 0 with
      | none =>
        show m i = l i
        rw [ih i, if_neg (by omega)]
      | some x =>
        show put m 0 (max (m 0) x) i = l i
        have z := F.zero x (by omega) e
        by_cases hi : i = 0
        · subst hi; rw [put_same, m1]; omega
        · rw [put_ne hi, ih i, if_neg (by omega)]
    · rw [if_neg h0]
      have m2 : m (n - 1) = l (n - 1) := by rw [ih (n - 1), if_neg (by omega)]
      have f := F.fw n (by omega) (by omega)
      cases e : g n with
      | none =>
        show put m n (max (m n) (m (n - 1) + 0)) i = _
        rw [gz_none e] at f
        by_cases hi : i = n
        · subst hi; rw [put_same, if_neg (by omega), m1, m2]; omega
        · rw [put_ne hi, ih i]
          by_cases h1 : i + 1 < n
          · rw [if_pos h1, if_pos (by omega)]
          · rw [if_neg h1]
            by_cases h2 : i + 1 < n + 1
            · have h3 : i + 1 = n := by omega
              rw [if_pos h2, h3, e]
            · rw [if_neg h2]
      | some x =>
        show put (put m n (max (m n) (m (n - 1) + x))) (n - 1) (max (m (n - 1)) (max (m n) (m (n - 1) + x) - x)) i = _
        rw [gz_some e] at f
        by_cases hi : i = n - 1
        · have h3 : i + 1 = n := by omega
          rw [hi, put_same, if_pos (by omega), show n - 1 + 1 = n by omega, e, m1, m2]
          show max (l (n - 1)) (max (l n) (l (n - 1) + x) - x) = l n - x
          omega
        · rw [put_ne hi]
          by_cases hin : i = n
          · subst hin; rw [put_same, if_neg (by omega), m1, m2]; omega
          · rw [put_ne hin, ih i]
            by_cases h1 : i + 1 < n
            · rw [if_pos h1, if_pos (by omega)]
            · rw [if_neg h1, if_neg (by omega)]
/-- behind m rounds more the last m + 1 indices stand -/
theorem back_rounds (g : Gaps) (l : Nat → Int) : ∀ m, m ≤ 11 → ∀ i x, 12 - m ≤ i → i < 12 → g i = some x → lowRounds g l (m + 1) i = lowRounds g l (m + 1) (i - 1) + x
  | 0, _, i, x, h1, h2, _ => by omega
  | m + 1, hm, i, x, h1, h2, e => by
    have ih := back_rounds g l m (by omega)
    have F := fw_rounds g l m
    have r := round_is F 12 (Nat.le_refl _)
    show lowRun g (lowRounds g l (m + 1)) 12 i = lowRun g (lowRounds g l (m + 1)) 12 (i - 1) + x
    generalize lowRounds g l (m + 1) = p at ih F r
    have r1 := r (i - 1)
    rw [if_pos (by omega), show i - 1 + 1 = i by omega, e] at r1
    have r1' : lowRun g p 12 (i - 1) = p i - x := r1
    have r2 := r i
    have r2' : lowRun g p 12 i = p i := by
      rw [r2]
      by_cases h : i + 1 < 12
      · rw [if_pos h]
        cases e2 : g (i + 1) with
        | none => rfl
        | some y =>
          show p (i + 1) - y = p i
          have := ih (i + 1) y (by omega) h e2
          rw [show i + 1 - 1 = i by omega] at this
          omega
      · rw [if_neg h]
    rw [r1', r2']; omega
/-- THE LEAST SUMS -/
theorem low_fix (g : Gaps) (l : Nat → Int) : LowOk g l (lowRounds g l 12) where
  lo := fun i _ => lowRounds_ge i 12
  fw := fun i h1 h2 => (fw_rounds g l 11).fw i h1 h2
  bw := fun i x h1 h2 e => Int.le_of_eq (back_rounds g l 11 (by omega) i x (by omega) h2 e)
  zero := fun x e => (fw_rounds g l 11).zero x (by omega) e

/-! ### upper limits -/
structure HighOk (g : Gaps) (h S : Nat → Int) : Prop where
  hi : ∀ i, i < 12 → S i ≤ h i
  fw : ∀ i, 0 < i → i < 12 → S (i - 1) + gz g i ≤ S i
  bw : ∀ i x, 0 < i → i < 12 → g i = some x → S i ≤ S (i - 1) + x
  zero : ∀ x, g 0 = some x → S 0 ≤ x
theorem highStep_ge {g : Gaps} {h S : Nat → Int} {i : Nat} (hi : i < 12) (H : HighOk g h S) : HighOk g (highStep g h i) S := by
  refine ⟨fun j hj => ?_, H.fw, H.bw, H.zero⟩
  unfold highStep
  by_cases h0 : i = 0
  · rw [if_pos h0]
    cases e : g 0 with
    | none => exact H.hi j hj
    | some x =>
      show S j ≤ put h 0 (min (h 0) x) j
      by_cases hj0 : j = 0
      · subst hj0
        rw [put_same]
        have := H.hi 0 hj
        have := H.zero x e
        omega
      · rw [put_ne hj0]; exact H.hi j hj
  · rw [if_neg h0]
    have a1 := H.hi i hi
    have a2 := H.hi (i - 1) (by omega)
    have a3 := H.fw i (by omega) hi
    cases e : g i with
    | none =>
      show S j ≤ put h (i - 1) (min (h (i - 1)) (h i - 0)) j
      rw [gz_none e] at a3
      by_cases hj0 : j = i - 1
      · subst hj0; rw [put_same]; omega
      · rw [put_ne hj0]; exact H.hi j hj
    | some x =>
      show S j ≤ put (put h (i - 1) (min (h (i - 1)) (h i - x))) i (min (h i) (min (h (i - 1)) (h i - x) + x)) j
      rw [gz_some e] at a3
      have a4 := H.bw i x (by omega) hi e
      by_cases hj0 : j = i
      · subst hj0; rw [put_same]; omega
      · rw [put_ne hj0]
        by_cases hj1 : j = i - 1
        · subst hj1; rw [put_same]; omega
        · rw [put_ne hj1]; exact H.hi j hj
theorem highRun_ge {g : Gaps} {h S : Nat → Int} : ∀ n, n ≤ 12 → HighOk g h S → HighOk g (highRun g h n) S
  | 0, _, H => H
  | n + 1, hn, H => by
    rw [highRun_succ]
    exact highStep_ge (by omega) (highRun_ge n (by omega) H)
theorem highRounds_ge {g : Gaps} {h S : Nat → Int} : ∀ n, HighOk g h S → HighOk g (highRounds g h n) S
  | 0, H => H
  | n + 1, H => highRun_ge 12 (by omega) (highRounds_ge n H)
theorem highStep_le {g : Gaps} {h : Nat → Int} {i : Nat} (j : Nat) : highStep g h i j ≤ h j := by
  unfold highStep
  by_cases h0 : i = 0
  · rw [if_pos h0]
    cases e : g 0 with
    | none => exact Int.le_refl _
    | some x =>
      show put h 0 (min (h 0) x) j ≤ h j
      by_cases hj0 : j = 0
      · subst hj0; rw [put_same]; omega
      · rw [put_ne hj0]; exact Int.le_refl _
  · rw [if_neg h0]
    cases e : g i with
    | none =>
      show put h (i - 1) (min (h (i - 1)) (h i - 0)) j ≤ h j
      by_cases hj0 : j = i - 1
      · subst hj0; rw [put_same]; omega
      · rw [put_ne hj0]; exact Int.le_refl _
    | some x =>
      show put (put h (i - 1) (min (h (i - 1)) (h i - x))) i (min (h i) (min (h (i - 1)) (h i - x) + x)) j ≤ h j
      by_cases hj0 : j = i
      · subst hj0; rw [put_same]; omega
      · rw [put_ne hj0]
        by_cases hj1 : j = i - 1
        · subst hj1; rw [put_same]; omega
        · rw [put_ne hj1]; exact Int.le_refl _
theorem highRun_le {g : Gaps} {h : Nat → Int} (j : Nat) : ∀ n, highRun g h n j ≤ h j
  | 0 => Int.le_refl _
  | n + 1 => by
    rw [highRun_succ]
    exact Int.le_trans (highStep_le j) (highRun_le j n)
theorem highRounds_le {g : Gaps} {h : Nat → Int} (j : Nat) : ∀ n, highRounds g h n j ≤ h j
  | 0 => Int.le_refl _
  | n + 1 => Int.le_trans (highRun_le j 12) (highRounds_le j n)
theorem highRun_zero {g : Gaps} {h : Nat → Int} {x : Int} (e : g 0 = some x) : ∀ n, highRun g h (n + 1) 0 ≤ x
  | 0 => by
    rw [highRun_succ]
    unfold highStep
    rw [if_pos rfl, e]
    show put _ 0 (min _ x) 0 ≤ x
    rw [put_same]; omega
  | n + 1 => by
    rw [highRun_succ]
    exact Int.le_trans (highStep_le 0) (highRun_zero e n)
theorem high_zero {g : Gaps} {h : Nat → Int} {x : Int} (e : g 0 = some x) : highRounds g h 12 0 ≤ x := highRun_zero e 11

/-! ### both -/
structure Feas (g : Gaps) (l h S : Nat → Int) : Prop where
  lo : ∀ i, i < 12 → l i ≤ S i
  hi : ∀ i, i < 12 → S i ≤ h i
  fw : ∀ i, 0 < i → i < 12 → S (i - 1) + gz g i ≤ S i
  bw : ∀ i x, 0 < i → i < 12 → g i = some x → S i ≤ S (i - 1) + x
  zero : ∀ x, g 0 = some x → S 0 = x
abbrev Ls (g : Gaps) (l : Nat → Int) : Nat → Int := lowRounds g l 12
abbrev Hs (g : Gaps) (h : Nat → Int) : Nat → Int := highRounds g h 12
def okAll (L H : Nat → Int) : Bool := (List.range 12).all fun i => decide (L i ≤ H i)
theorem okAll_iff {L H : Nat → Int} : okAll L H = true ↔ ∀ i, i < 12 → L i ≤ H i := by
  unfold okAll
  rw [List.all_eq_true]
  constructor
  · intro h i hi
    exact of_decide_eq_true (h i (List.mem_range.mpr hi))
  · intro h i hi
    exact decide_eq_true (h i (List.mem_range.mp hi))
theorem relaxed_feas {g : Gaps} {l h : Nat → Int} (ok : okAll (Ls g l) (Hs g h) = true) : Feas g l h (Ls g l) := by
  have A := low_fix g l
  rw [okAll_iff] at ok
  refine ⟨A.lo, fun i hi => Int.le_trans (ok i hi) (highRounds_le i 12), A.fw, A.bw, fun x e => ?_⟩
  have a := A.zero x e
  have b := ok 0 (by omega)
  have c := high_zero (h := h) e
  have b' : lowRounds g l 12 0 ≤ highRounds g h 12 0 := b
  show lowRounds g l 12 0 = x
  omega
theorem feas_relaxed {g : Gaps} {l h S : Nat → Int} (F : Feas g l h S) : okAll (Ls g l) (Hs g h) = true ∧ ∀ i, i < 12 → Ls g l i ≤ S i := by
  have A := lowRounds_le 12 (⟨F.lo, F.fw, F.bw, fun x e => Int.le_of_eq (F.zero x e).symm⟩ : LowOk g l S)
  have B := highRounds_ge 12 (⟨F.hi, F.fw, F.bw, fun x e => Int.le_of_eq (F.zero x e)⟩ : HighOk g h S)
  exact ⟨okAll_iff.mpr fun i hi => Int.le_trans (A.lo i hi) (B.hi i hi), A.lo⟩
end K45

namespace K45
/-! ### exponents -/
theorem split_spec : ∀ f k n, 2 ≤ k → 1 ≤ n → n ≤ f → n = k ^ (splitG f k n).1 * (splitG f k n).2 ∧ (splitG f k n).2 % k ≠ 0
  | 0, k, n, _, h1, h2 => by omega
  | f + 1, k, n, hk, h1, h2 => by
    unfold splitG
    by_cases h : n % k = 0
    · rw [if_pos h]
      have e : n = k * (n / k) := by
        have := Nat.div_add_mod n k
        omega
      have hp : 1 ≤ n / k := by
        rcases Nat.eq_zero_or_pos (n / k) with z | z
        · rw [z] at e; omega
        · exact z
      have hl : n / k ≤ f := by
        have : n / k < n := Nat.div_lt_self h1 (by omega)
        omega
      obtain ⟨a, b⟩ := split_spec f k (n / k) hk hp hl
      refine ⟨?_, b⟩
      show n = k ^ ((splitG f k (n / k)).1 + 1) * (splitG f k (n / k)).2
      rw [Nat.pow_succ, Nat.mul_assoc, Nat.mul_left_comm, ← a]
      exact e
    · rw [if_neg h]
      exact ⟨by show n = k ^ 0 * n; simp, h⟩
theorem expo_spec {k n : Nat} (hk : 2 ≤ k) (hn : 1 ≤ n) : n = k ^ expo k n * core k n ∧ core k n % k ≠ 0 := split_spec n k n hk hn (Nat.le_refl _)
theorem core_pos {k n : Nat} (hk : 2 ≤ k) (hn : 1 ≤ n) : 1 ≤ core k n := by
  have h := (expo_spec hk hn).2
  rcases Nat.eq_zero_or_pos (core k n) with z | z
  · rw [z, Nat.zero_mod] at h; exact absurd rfl h
  · exact z
theorem split_pow : ∀ (h f k : Nat), 2 ≤ k → k ^ h ≤ f → splitG f k (k ^ h) = (h, 1)
  | _, 0, k, hk, hf => by
    have h1 : 0 < k := by omega
    exact absurd (Nat.lt_of_lt_of_le (Nat.pow_pos h1) hf) (Nat.lt_irrefl _)
  | 0, f + 1, k, hk, hf => by
    unfold splitG
    have h1 : k ^ 0 % k = 1 := Nat.mod_eq_of_lt (show 1 < k by omega)
    rw [if_neg (by rw [h1]; decide)]
    rfl
  | h + 1, f + 1, k, hk, hf => by
    unfold splitG
    have h1 : k ^ (h + 1) % k = 0 := by rw [Nat.pow_succ]; exact Nat.mul_mod_left _ _
    have h2 : k ^ (h + 1) / k = k ^ h := by rw [Nat.pow_succ]; exact Nat.mul_div_cancel _ (by omega)
    have h3 : k ^ h < k ^ (h + 1) := Nat.pow_lt_pow_right (by omega) (by omega)
    rw [if_pos h1, h2, split_pow h f k hk (by omega)]
theorem expo_pow {k : Nat} (hk : 2 ≤ k) (h : Nat) : expo k (k ^ h) = h := by unfold expo; rw [split_pow h _ k hk (Nat.le_refl _)]
theorem core_pow {k : Nat} (hk : 2 ≤ k) (h : Nat) : core k (k ^ h) = 1 := by unfold core; rw [split_pow h _ k hk (Nat.le_refl _)]
theorem pow_of_core {k n : Nat} (hk : 2 ≤ k) (hn : 1 ≤ n) (h : core k n = 1) : n = k ^ expo k n := by
  have := (expo_spec hk hn).1
  rw [h, Nat.mul_one] at this
  exact this
theorem expo_le {k n : Nat} (hk : 2 ≤ k) (hn : 1 ≤ n) : k ^ expo k n ≤ n := by
  have h1 := (expo_spec hk hn).1
  have h2 := core_pos hk hn
  calc k ^ expo k n = k ^ expo k n * 1 := (Nat.mul_one _).symm
    _ ≤ k ^ expo k n * core k n := Nat.mul_le_mul_left _ h2
    _ = n := h1.symm
/-- one more than the greatest exponent up to A -/
def topOf (k A : Nat) : Nat := (List.range A).foldl (fun t i => max t (expo k (i + 1))) 0 + 1
theorem foldmax_le (f : Nat → Nat) (x : Nat) : ∀ n, ((List.range n).foldl (fun t i => max t (f i)) 0 ≤ x) ↔ ∀ i, i < n → f i ≤ x
  | 0 => ⟨fun _ i h => absurd h (Nat.not_lt_zero _), fun _ => Nat.zero_le _⟩
  | n + 1 => by
    have ih := foldmax_le f x n
    rw [List.range_succ, List.foldl_append]
    show max ((List.range n).foldl (fun t i => max t (f i)) 0) (f n) ≤ x ↔ _
    constructor
    · intro h i hi
      by_cases e : i = n
      · subst e; omega
      · exact ih.mp (by omega) i (by omega)
    · intro h
      have a := ih.mpr fun i hi => h i (by omega)
      have b := h n (by omega)
      omega
theorem expo_lt_top {k A i : Nat} (h : i < A) : expo k (i + 1) < topOf k A :=
  Nat.lt_succ_of_le ((foldmax_le (fun i => expo k (i + 1)) _ A).mp (Nat.le_refl _) i h)
theorem top_le {k A x : Nat} (h : ∀ i, i < A → expo k (i + 1) ≤ x) : topOf k A ≤ x + 1 := Nat.succ_le_succ ((foldmax_le (fun i => expo k (i + 1)) x A).mpr h)
theorem pow_lt_top {k A h : Nat} (hk : 2 ≤ k) (hle : k ^ h ≤ A) : h < topOf k A := by
  have h1 : 0 < k ^ h := Nat.pow_pos (by omega)
  have := expo_lt_top (k := k) (show k ^ h - 1 < A by omega)
  rw [show k ^ h - 1 + 1 = k ^ h by omega, expo_pow hk] at this
  exact this
theorem top_small {k A : Nat} (hk : 2 ≤ k) (hA : A ≤ 19) : topOf k A ≤ 5 := top_le fun i hi => by
  have h1 := expo_le hk (show 1 ≤ i + 1 by omega)
  have h2 : 2 ^ expo k (i + 1) ≤ k ^ expo k (i + 1) := Nat.pow_le_pow_left hk _
  rcases Nat.lt_or_ge 4 (expo k (i + 1)) with z | z
  · have : 2 ^ 5 ≤ 2 ^ expo k (i + 1) := Nat.pow_le_pow_right (by omega) z
    omega
  · exact z
theorem top_pow {k A : Nat} (hk : 2 ≤ k) (hA : 1 ≤ A) : 2 ^ (topOf k A - 1) ≤ A := by
  -- the greatest exponent is one of a number up to A
  have key : ∀ n, (∃ i, i < n ∧ (List.range n).foldl (fun t i => max t (expo k (i + 1))) 0 = expo k (i + 1)) ∨ (List.range n).foldl (fun t i => max t (expo k (i + 1))) 0 = 0 := by
    intro n
    induction n with
    | zero => exact .inr rfl
    | succ n ih =>
      rw [List.range_succ, List.foldl_append]
      show (∃ i, i < n + 1 ∧ max ((List.range n).foldl (fun t i => max t (expo k (i + 1))) 0) (expo k (n + 1)) = expo k (i + 1)) ∨ max ((List.range n).foldl (fun t i => max t (expo k (i + 1))) 0) (expo k (n + 1)) = 0
      rcases Nat.le_total ((List.range n).foldl (fun t i => max t (expo k (i + 1))) 0) (expo k (n + 1)) with h | h
      · exact .inl ⟨n, by omega, by omega⟩
      · rcases ih with ⟨i, hi, e⟩ | e
        · exact .inl ⟨i, by omega, by omega⟩
        · exact .inr (by omega)
  unfold topOf
  rw [Nat.add_sub_cancel]
  rcases key A with ⟨i, hi, e⟩ | e
  · rw [e]
    have h1 := expo_le hk (show 1 ≤ i + 1 by omega)
    have h2 : 2 ^ expo k (i + 1) ≤ k ^ expo k (i + 1) := Nat.pow_le_pow_left hk _
    omega
  · rw [e]; exact hA

/-! ### the limits that single numbers give -/
theorem limitsN_succ (k : Nat) (b : List Int) (sp : Nat → Option Int) (n : Nat) : limitsN k b sp (n + 1) = limStep k b sp (limitsN k b sp n) n := by
  unfold limitsN
  rw [List.range_succ, List.foldl_append] <;> rfl
theorem lim_lo (k : Nat) (b : List Int) (sp : Nat → Option Int) (e : Nat) (x : Int) : ∀ n, (limitsN k b sp n).1 e ≤ x ↔ 1 ≤ x ∧ ∀ i, i < n → expo k (i + 1) = e → leastAt k b sp i ≤ x
  | 0 => ⟨fun h => ⟨h, fun i hi => absurd hi (Nat.not_lt_zero _)⟩, fun h => h.1⟩
  | n + 1 => by
    have ih := lim_lo k b sp e x n
    rw [limitsN_succ]
    show put _ _ _ e ≤ x ↔ _
    by_cases he : e = expo k (n + 1)
    · subst he
      rw [put_same]
      constructor
      · intro h
        obtain ⟨a, c⟩ := ih.mp (by omega)
        refine ⟨a, fun i hi hx => ?_⟩
        by_cases q : i = n
        · subst q; omega
        · exact c i (by omega) hx
      · intro h
        have a := ih.mpr ⟨h.1, fun i hi => h.2 i (by omega)⟩
        have c := h.2 n (by omega) rfl
        omega
    · rw [put_ne he, ih]
      constructor
      · intro h
        refine ⟨h.1, fun i hi hx => ?_⟩
        by_cases q : i = n
        · subst q; exact absurd hx.symm he
        · exact h.2 i (by omega) hx
      · intro h
        exact ⟨h.1, fun i hi => h.2 i (by omega)⟩
theorem lim_hi (k : Nat) (b : List Int) (sp : Nat → Option Int) (e : Nat) (x : Int) : ∀ n, x ≤ (limitsN k b sp n).2 e ↔ x ≤ UN ∧ ∀ i, i < n → expo k (i + 1) = e → x ≤ mostAt k b sp i
  | 0 => ⟨fun h => ⟨h, fun i hi => absurd hi (Nat.not_lt_zero _)⟩, fun h => h.1⟩
  | n + 1 => by
    have ih := lim_hi k b sp e x n
    rw [limitsN_succ]
    show x ≤ put _ _ _ e ↔ _
    by_cases he : e = expo k (n + 1)
    · subst he
      rw [put_same]
      constructor
      · intro h
        obtain ⟨a, c⟩ := ih.mp (by omega)
        refine ⟨a, fun i hi hx => ?_⟩
        by_cases q : i = n
        · subst q; omega
        · exact c i (by omega) hx
      · intro h
        have a := ih.mpr ⟨h.1, fun i hi => h.2 i (by omega)⟩
        have c := h.2 n (by omega) rfl
        omega
    · rw [put_ne he, ih]
      constructor
      · intro h
        refine ⟨h.1, fun i hi hx => ?_⟩
        by_cases q : i = n
        · subst q; exact absurd hx.symm he
        · exact h.2 i (by omega) hx
      · intro h
        exact ⟨h.1, fun i hi => h.2 i (by omega)⟩

/-! ### the law's search -/
def winStep (k : Nat) (b : List Int) (h : Nat) (s : Int × Int) (i : Nat) : Int × Int :=
  (if expo k (i + 1) = h ∧ core k (i + 1) > 1 then max s.1 (b.getD i 0) else s.1, if expo k (i + 1) = h ∧ i + 1 ≠ b.length then min s.2 (b.getD i 0) else s.2)
def winN (k : Nat) (b : List Int) (h : Nat) (cap : Int) (n : Nat) : Int × Int := (List.range n).foldl (winStep k b h) (1, cap)
def win (k : Nat) (b : List Int) (h : Nat) (cap : Int) : Int × Int := winN k b h cap b.length
theorem winN_succ (k : Nat) (b : List Int) (h : Nat) (cap : Int) (n : Nat) : winN k b h cap (n + 1) = winStep k b h (winN k b h cap n) n := by
  unfold winN
  rw [List.range_succ, List.foldl_append] <;> rfl
theorem win_lo (k : Nat) (b : List Int) (h : Nat) (cap x : Int) : ∀ n, (winN k b h cap n).1 ≤ x ↔ 1 ≤ x ∧ ∀ i, i < n → expo k (i + 1) = h → core k (i + 1) > 1 → b.getD i 0 ≤ x
  | 0 => ⟨fun h => ⟨h, fun i hi => absurd hi (Nat.not_lt_zero _)⟩, fun h => h.1⟩
  | n + 1 => by
    have ih := win_lo k b h cap x n
    rw [winN_succ]
    show (if expo k (n + 1) = h ∧ core k (n + 1) > 1 then max (winN k b h cap n).1 (b.getD n 0) else (winN k b h cap n).1) ≤ x ↔ _
    by_cases c : expo k (n + 1) = h ∧ core k (n + 1) > 1
    · rw [if_pos c]
      constructor
      · intro q
        obtain ⟨a, d⟩ := ih.mp (by omega)
        refine ⟨a, fun i hi h1 h2 => ?_⟩
        by_cases e : i = n
        · subst e; omega
        · exact d i (by omega) h1 h2
      · intro q
        have a := ih.mpr ⟨q.1, fun i hi => q.2 i (by omega)⟩
        have d := q.2 n (by omega) c.1 c.2
        omega
    · rw [if_neg c, ih]
      constructor
      · intro q
        refine ⟨q.1, fun i hi h1 h2 => ?_⟩
        by_cases e : i = n
        · subst e; exact absurd ⟨h1, h2⟩ c
        · exact q.2 i (by omega) h1 h2
      · intro q
        exact ⟨q.1, fun i hi => q.2 i (by omega)⟩
theorem win_hi (k : Nat) (b : List Int) (h : Nat) (cap x : Int) : ∀ n, x ≤ (winN k b h cap n).2 ↔ x ≤ cap ∧ ∀ i, i < n → expo k (i + 1) = h → i + 1 ≠ b.length → x ≤ b.getD i 0
  | 0 => ⟨fun h => ⟨h, fun i hi => absurd hi (Nat.not_lt_zero _)⟩, fun h => h.1⟩
  | n + 1 => by
    have ih := win_hi k b h cap x n
    rw [winN_succ]
    show x ≤ (if expo k (n + 1) = h ∧ n + 1 ≠ b.length then min (winN k b h cap n).2 (b.getD n 0) else (winN k b h cap n).2) ↔ _
    by_cases c : expo k (n + 1) = h ∧ n + 1 ≠ b.length
    · rw [if_pos c]
      constructor
      · intro q
        obtain ⟨a, d⟩ := ih.mp (by omega)
        refine ⟨a, fun i hi h1 h2 => ?_⟩
        by_cases e : i = n
        · subst e; omega
        · exact d i (by omega) h1 h2
      · intro q
        have a := ih.mpr ⟨q.1, fun i hi => q.2 i (by omega)⟩
        have d := q.2 n (by omega) c.1 c.2
        omega
    · rw [if_neg c, ih]
      constructor
      · intro q
        refine ⟨q.1, fun i hi h1 h2 => ?_⟩
        by_cases e : i = n
        · subst e; exact absurd ⟨h1, h2⟩ c
        · exact q.2 i (by omega) h1 h2
      · intro q
        exact ⟨q.1, fun i hi => q.2 i (by omega)⟩

/-- the whole numbers from lo to hi -/
def span (lo hi : Int) : List Int := (List.range (hi + 1 - lo).toNat).map fun i : Nat => lo + (i : Int)
theorem mem_span {lo hi x : Int} : x ∈ span lo hi ↔ lo ≤ x ∧ x ≤ hi := by
  unfold span
  rw [List.mem_map]
  constructor
  · rintro ⟨i, hi', rfl⟩
    have := List.mem_range.mp hi'
    omega
  · rintro ⟨h1, h2⟩
    exact ⟨(x - lo).toNat, List.mem_range.mpr (by omega), by omega⟩
theorem span_sorted (lo hi : Int) : (span lo hi).Pairwise (· < ·) := by
  unfold span
  rw [List.pairwise_map]
  refine List.Pairwise.imp ?_ List.pairwise_lt_range
  intro a b h
  omega
/-- one list more long by one -/
def longer (w : Int × Int) (s : List Int) : List (List Int) := (span (match s.getLast? with | some l => max w.1 l | none => w.1) w.2).map fun p => s ++ [p]
def sumsN (k : Nat) (b : List Int) (cap : Int) : Nat → List (List Int)
  | 0 => [[]]
  | h + 1 => (sumsN k b cap h).flatMap (longer (win k b h cap))
structure Row (k : Nat) (b : List Int) (cap : Int) (n : Nat) (s : List Int) : Prop where
  len : s.length = n
  lo : ∀ i, i < n → (win k b i cap).1 ≤ s.getD i 0
  hi : ∀ i, i < n → s.getD i 0 ≤ (win k b i cap).2
  up : ∀ i, 0 < i → i < n → s.getD (i - 1) 0 ≤ s.getD i 0
theorem getD_app_lt {s : List Int} {p : Int} {i : Nat} (h : i < s.length) : (s ++ [p]).getD i 0 = s.getD i 0 := by
  rw [List.getD_eq_getElem?_getD, List.getD_eq_getElem?_getD, List.getElem?_append_left h]
theorem getD_app_eq {s : List Int} {p : Int} : (s ++ [p]).getD s.length 0 = p := by
  rw [List.getD_eq_getElem?_getD, List.getElem?_append_right (Nat.le_refl _), Nat.sub_self] <;> rfl
theorem getLast?_getD {s : List Int} (h : 0 < s.length) : s.getLast? = some (s.getD (s.length - 1) 0) := by
  rw [List.getLast?_eq_getElem?, List.getD_eq_getElem?_getD, List.getElem?_eq_getElem (by omega)] <;> rfl
theorem mem_longer {w : Int × Int} {s t : List Int} : t ∈ longer w s ↔ ∃ p, t = s ++ [p] ∧ w.1 ≤ p ∧ p ≤ w.2 ∧ (0 < s.length → s.getD (s.length - 1) 0 ≤ p) := by
  unfold longer
  rw [List.mem_map]
  constructor
  · rintro ⟨p, hp, rfl⟩
    rw [mem_span] at hp
    refine ⟨p, rfl, ?_, hp.2, fun h => ?_⟩
    · by_cases h : 0 < s.length
      · have q := hp.1
        rw [getLast?_getD h] at q
        have q' : max w.1 (s.getD (s.length - 1) 0) ≤ p := q
        omega
      · have e : s = [] := List.eq_nil_of_length_eq_zero (by omega)
        subst e
        exact hp.1
    · have q := hp.1
      rw [getLast?_getD h] at q
      have q' : max w.1 (s.getD (s.length - 1) 0) ≤ p := q
      omega
  · rintro ⟨p, rfl, h1, h2, h3⟩
    refine ⟨p, mem_span.mpr ⟨?_, h2⟩, rfl⟩
    by_cases h : 0 < s.length
    · rw [getLast?_getD h]
      show max w.1 (s.getD (s.length - 1) 0) ≤ p
      have := h3 h
      omega
    · have e : s = [] := List.eq_nil_of_length_eq_zero (by omega)
      subst e
      exact h1
theorem mem_sums {k : Nat} {b : List Int} {cap : Int} : ∀ {n : Nat} {s : List Int}, s ∈ sumsN k b cap n ↔ Row k b cap n s
  | 0, s => by
    constructor
    · intro h
      have e : s = [] := List.mem_singleton.mp h
      subst e
      exact ⟨rfl, fun i h => absurd h (Nat.not_lt_zero _), fun i h => absurd h (Nat.not_lt_zero _), fun i _ h => absurd h (Nat.not_lt_zero _)⟩
    · intro h
      have e : s = [] := List.eq_nil_of_length_eq_zero h.len
      rw [e]; exact List.mem_singleton.mpr rfl
  | n + 1, s => by
    show s ∈ (sumsN k b cap n).flatMap (longer (win k b n cap)) ↔ _
    rw [List.mem_flatMap]
    constructor
    · rintro ⟨t, ht, hs⟩
      have R := mem_sums.mp ht
      obtain ⟨p, rfl, h1, h2, h3⟩ := mem_longer.mp hs
      have tl := R.len
      refine ⟨by rw [List.length_append, tl]; rfl, fun i hi => ?_, fun i hi => ?_, fun i h0 hi => ?_⟩
      · by_cases e : i = n
        · subst e
          rw [show i = t.length from tl.symm, getD_app_eq, tl]; exact h1
        · rw [getD_app_lt (by omega)]; exact R.lo i (by omega)
      · by_cases e : i = n
        · subst e
          rw [show i = t.length from tl.symm, getD_app_eq, tl]; exact h2
        · rw [getD_app_lt (by omega)]; exact R.hi i (by omega)
      · by_cases e : i = n
        · subst e
          have q := h3 (by omega)
          rw [getD_app_lt (by omega)]
          rw [tl] at q
          have z : (t ++ [p]).getD i 0 = p := by
            have y := getD_app_eq (s := t) (p := p)
            rw [tl] at y
            exact y
          rw [z]; exact q
        · rw [getD_app_lt (by omega), getD_app_lt (by omega)]; exact R.up i h0 (by omega)
    · intro R
      have sl := R.len
      have hne : s ≠ [] := fun z => by rw [z] at sl; simp at sl
      have es : s = s.dropLast ++ [s.getLast hne] := (List.dropLast_concat_getLast hne).symm
      have dl : s.dropLast.length = n := by rw [List.length_dropLast, sl]; rfl
      have last : s.getLast hne = s.getD n 0 := by
        conv => rhs; rw [es]
        have y := getD_app_eq (s := s.dropLast) (p := s.getLast hne)
        rw [dl] at y
        exact y.symm
      have old : ∀ i, i < n → s.dropLast.getD i 0 = s.getD i 0 := fun i hi => by
        conv => rhs; rw [es]
        exact (getD_app_lt (by omega)).symm
      refine ⟨s.dropLast, mem_sums.mpr ⟨dl, fun i hi => ?_, fun i hi => ?_, fun i h0 hi => ?_⟩, mem_longer.mpr ⟨s.getLast hne, es, ?_, ?_, fun h => ?_⟩⟩
      · rw [old i hi]; exact R.lo i (by omega)
      · rw [old i hi]; exact R.hi i (by omega)
      · rw [old i hi, old (i - 1) (by omega)]; exact R.up i h0 (by omega)
      · rw [last]; exact R.lo n (by omega)
      · rw [last]; exact R.hi n (by omega)
      · rw [last, dl]
        rw [dl] at h
        rw [old (n - 1) (by omega)]
        exact R.up n h (by omega)
/-- less in the first place where they differ -/
def Lex (s t : List Int) : Prop := s.length = t.length ∧ ∃ i, i < s.length ∧ (∀ j, j < i → s.getD j 0 = t.getD j 0) ∧ s.getD i 0 < t.getD i 0
theorem lex_longer (w : Int × Int) (s : List Int) : (longer w s).Pairwise Lex := by
  unfold longer
  rw [List.pairwise_map]
  refine List.Pairwise.imp ?_ (span_sorted _ _)
  intro p q h
  refine ⟨by rw [List.length_append, List.length_append]; rfl, s.length, by rw [List.length_append]; show s.length < s.length + 1; omega, fun j hj => by rw [getD_app_lt hj, getD_app_lt hj], ?_⟩
  rw [getD_app_eq, getD_app_eq]; exact h
theorem sums_sorted (k : Nat) (b : List Int) (cap : Int) : ∀ n, (sumsN k b cap n).Pairwise Lex
  | 0 => List.pairwise_singleton _ _
  | n + 1 => by
    show ((sumsN k b cap n).flatMap (longer (win k b n cap))).Pairwise Lex
    rw [List.pairwise_flatMap]
    refine ⟨fun s _ => lex_longer _ s, List.Pairwise.imp ?_ (sums_sorted k b cap n)⟩
    rintro s t ⟨hl, i, hi, he, hlt⟩ x hx y hy
    obtain ⟨p, rfl, _⟩ := mem_longer.mp hx
    obtain ⟨q, rfl, _⟩ := mem_longer.mp hy
    refine ⟨by rw [List.length_append, List.length_append, hl]; rfl, i, by rw [List.length_append]; omega, fun j hj => ?_, ?_⟩
    · rw [getD_app_lt (by omega), getD_app_lt (by omega)]; exact he j hj
    · rw [getD_app_lt (by omega), getD_app_lt (by omega)]; exact hlt
/-- the first one found is the least -/
theorem first_least {α : Type} (xs : List (List Int)) (f : List Int → Option α) (hs : xs.Pairwise Lex) (s : List Int) (r : α) (hm : s ∈ xs) (hf : f s = some r)
    (hmin : ∀ t ∈ xs, (f t).isSome = true → ∀ i, i < s.length → s.getD i 0 ≤ t.getD i 0) : xs.findSome? f = some r := by
  induction xs with
  | nil => cases hm
  | cons x xs ih =>
    rw [List.pairwise_cons] at hs
    rw [List.findSome?_cons]
    cases e : f x with
    | some y =>
      show some y = some r
      rcases List.mem_cons.mp hm with h | h
      · rw [h, e] at hf; exact hf
      · obtain ⟨hl, i, hi, _, hlt⟩ := hs.1 s h
        have := hmin x (List.mem_cons_self ..) (by rw [e]; rfl) i (by omega)
        omega
    | none =>
      rcases List.mem_cons.mp hm with h | h
      · rw [h, e] at hf; cases hf
      · exact ih hs.2 h fun t ht => hmin t (List.mem_cons_of_mem _ ht)
end K45

namespace K45
/-! ### completing, by the program and by the law -/
def firstItem (sp : Nat → Option Int) (first : Int) : Int := (sp 0).getD first
def spineItem (k : Nat) (b : List Int) (rest : Int) (L : Nat → Int) (e : Nat) : Int :=
  if k ^ e < b.length then b.getD (k ^ e - 1) 0 - L e else if k ^ e = b.length then max 0 (rest - L e) else 0
def levelsOf (L : Nat → Int) : List Int := (List.range 12).map fun i => if i = 0 then L 0 else L i - L (i - 1)
def spineOf (k : Nat) (b : List Int) (rest first : Int) (sp : Nat → Option Int) (L : Nat → Int) : List Int :=
  firstItem sp first :: (List.range 11).map fun e => (sp (e + 1)).getD (spineItem k b rest L e)
def completed (k : Nat) (b : List Int) (rest first most : Int) (sp : Nat → Option Int) (g : Gaps) : Option (List Int × List Int) :=
  if (first ≤ firstItem sp first ∧ firstItem sp first ≤ most) ∧ okAll (Ls g (limits k b sp).1) (Hs g (limits k b sp).2) = true then
    some (levelsOf (Ls g (limits k b sp).1), spineOf k b rest first sp (Ls g (limits k b sp).1)) else none

def levelRow (s : List Int) (g : Gaps) (n : Nat) : Int := if n < s.length then s.getD n 0 - (if n = 0 then 0 else s.getD (n - 1) 0) else (g n).getD 0
def levelList (s : List Int) (g : Gaps) : List Int := (List.range 12).map (levelRow s g)
def rowsMatch (s : List Int) (g : Gaps) : Bool := (List.range 12).all fun n => match g n with | some x => decide (levelRow s g n = x) | none => true
def soFar (s : List Int) (h : Nat) : Int := s.getD (min h (s.length - 1)) 0
def spItem (k : Nat) (b : List Int) (s : List Int) (sp : Nat → Option Int) (h : Nat) : Option Int :=
  if k ^ h < b.length then (if (sp (h + 1)).getD (b.getD (k ^ h - 1) 0 - soFar s h) ≠ b.getD (k ^ h - 1) 0 - soFar s h then none else some (b.getD (k ^ h - 1) 0 - soFar s h))
  else if k ^ h = b.length ∧ soFar s h + (sp (h + 1)).getD 0 < b.getD (k ^ h - 1) 0 then (if (sp (h + 1)).isSome then none else some (b.getD (k ^ h - 1) 0 - soFar s h))
  else some ((sp (h + 1)).getD 0)
def spineN (k : Nat) (b : List Int) (s : List Int) (first : Int) (sp : Nat → Option Int) : Nat → Option (List Int)
  | 0 => some [firstItem sp first]
  | n + 1 => (spineN k b s first sp n).bind fun l => (spItem k b s sp n).map fun x => l ++ [x]
def dueOf (k : Nat) (b : List Int) (first : Int) (sp : Nat → Option Int) (g : Gaps) (s : List Int) : Option (List Int × List Int) :=
  if rowsMatch s g = true then (spineN k b s first sp 11).map fun r => (levelList s g, r) else none
def maxOf (b : List Int) : Int := b.foldl max 1
def capOf (b : List Int) : Int := maxOf b + 8
def due (k : Nat) (b : List Int) (first : Int) (isOpen : Bool) (sp : Nat → Option Int) (g : Gaps) : Option (List Int × List Int) :=
  if firstItem sp first < first ∨ (isOpen = false ∧ firstItem sp first ≠ first) then none
  else (sumsN k b (capOf b) (topOf k b.length + 1)).findSome? (dueOf k b first sp g)

theorem maxOf_ge (b : List Int) : 1 ≤ maxOf b ∧ ∀ x ∈ b, x ≤ maxOf b := by
  have key : ∀ (b : List Int) (m : Int), m ≤ b.foldl max m ∧ ∀ x ∈ b, x ≤ b.foldl max m := by
    intro b
    induction b with
    | nil => intro m; exact ⟨Int.le_refl _, fun x h => by cases h⟩
    | cons y b ih =>
      intro m
      obtain ⟨a, c⟩ := ih (max m y)
      have e : (y :: b).foldl max m = b.foldl max (max m y) := rfl
      rw [e]
      refine ⟨by omega, fun x hx => ?_⟩
      rcases List.mem_cons.mp hx with h | h
      · subst h; omega
      · exact c x h
  exact key b 1
theorem getD_mem {b : List Int} {i : Nat} (h : i < b.length) : b.getD i 0 ∈ b := by
  rw [List.getD_eq_getElem?_getD, List.getElem?_eq_getElem h]
  exact List.getElem_mem h

/-! ### what is given -/
def gsum (g : Gaps) : Nat → Int
  | 0 => 0
  | n + 1 => gsum g n + (if n = 0 then 0 else gz g n)
/-- the given items are small: the law's bound of the sums is not met -/
structure Given (b : List Int) (sp : Nat → Option Int) (g : Gaps) : Prop where
  gap : ∀ i x, g i = some x → 0 ≤ x
  leaf : ∀ x, g 0 = some x → 1 ≤ x
  spine : ∀ i x, sp i = some x → 0 ≤ x
  cap : max (maxOf b) (gz g 0) + gsum g 12 ≤ maxOf b + 8
theorem gz_nn {b : List Int} {sp : Nat → Option Int} {g : Gaps} (G : Given b sp g) (i : Nat) : 0 ≤ gz g i := by
  cases e : g i with
  | none => rw [gz_none e]; exact Int.le_refl _
  | some x => rw [gz_some e]; exact G.gap i x e
theorem gsum_mono {b : List Int} {sp : Nat → Option Int} {g : Gaps} (G : Given b sp g) {m n : Nat} (h : m ≤ n) : gsum g m ≤ gsum g n := by
  induction h with
  | refl => exact Int.le_refl _
  | step h ih =>
    rename_i n
    show gsum g m ≤ gsum g n + (if n = 0 then 0 else gz g n)
    have := gz_nn G n
    split <;> omega
theorem gsum_succ {g : Gaps} {n : Nat} (h : 0 < n) : gsum g (n + 1) = gsum g n + gz g n := by
  show gsum g n + (if n = 0 then 0 else gz g n) = _
  rw [if_neg (by omega)]

section
variable {k : Nat} {b : List Int} {sp : Nat → Option Int} {g : Gaps} {first rest most : Int}
/-- single numbers want no more than the greatest bound -/
theorem lo_le_max (hk : 2 ≤ k) (G : Given b sp g) (i : Nat) : (limits k b sp).1 i ≤ maxOf b := by
  obtain ⟨m1, m2⟩ := maxOf_ge b
  refine (lim_lo k b sp i (maxOf b) b.length).mpr ⟨m1, fun j hj _ => ?_⟩
  have mb := m2 _ (getD_mem hj)
  unfold leastAt
  by_cases c : core k (j + 1) = 1
  · rw [if_pos c]
    cases e : sp (expo k (j + 1) + 1) with
    | none => exact m1
    | some x =>
      show b.getD j 0 - x ≤ maxOf b
      have := G.spine _ _ e
      omega
  · rw [if_neg c]; exact mb
theorem lo_ge_one (i : Nat) : 1 ≤ (limits k b sp).1 i := ((lim_lo k b sp i _ b.length).mp (Int.le_refl _)).1
theorem lo_high (hk : 2 ≤ k) {i : Nat} (hi : topOf k b.length ≤ i) : (limits k b sp).1 i ≤ 1 := by
  refine (lim_lo k b sp i 1 b.length).mpr ⟨Int.le_refl _, fun j hj e => ?_⟩
  have := expo_lt_top (k := k) hj
  omega
/-- the least sums lie below the law's bound -/
theorem low_cap (hk : 2 ≤ k) (G : Given b sp g) {i : Nat} (hi : i < 12) : Ls g (limits k b sp).1 i ≤ capOf b := by
  obtain ⟨m1, m2⟩ := maxOf_ge b
  have A : LowOk g (limits k b sp).1 (fun i => max (maxOf b) (gz g 0) + gsum g (i + 1)) := by
    refine ⟨fun i _ => ?_, fun i h0 _ => ?_, fun i x h0 _ e => ?_, fun x e => ?_⟩
    · have h1 := lo_le_max hk G i
      have h2 := gsum_mono G (Nat.zero_le (i + 1))
      have h3 : gsum g 0 = 0 := rfl
      show _ ≤ max (maxOf b) (gz g 0) + gsum g (i + 1)
      omega
    · show max (maxOf b) (gz g 0) + gsum g (i - 1 + 1) + gz g i ≤ max (maxOf b) (gz g 0) + gsum g (i + 1)
      rw [show i - 1 + 1 = i by omega, gsum_succ h0]; omega
    · show max (maxOf b) (gz g 0) + gsum g (i + 1) ≤ max (maxOf b) (gz g 0) + gsum g (i - 1 + 1) + x
      rw [show i - 1 + 1 = i by omega, gsum_succ h0, gz_some e]; omega
    · show x ≤ max (maxOf b) (gz g 0) + gsum g (0 + 1)
      have h3 : gsum g (0 + 1) = 0 := rfl
      rw [h3, gz_some e]; omega
  have q := (lowRounds_le 12 A).lo i hi
  have q' : Ls g (limits k b sp).1 i ≤ max (maxOf b) (gz g 0) + gsum g (i + 1) := q
  have h2 := gsum_mono G (show i + 1 ≤ 12 by omega)
  have h4 := G.cap
  unfold capOf
  omega
/-- behind the last height that the law tries only the given items count -/
theorem low_tail (hk : 2 ≤ k) (G : Given b sp g) {i : Nat} (h1 : topOf k b.length < i) (h2 : i < 12) : Ls g (limits k b sp).1 i = Ls g (limits k b sp).1 (i - 1) + gz g i := by
  have F := low_fix g (limits k b sp).1
  have T := topOf k b.length
  have A : LowOk g (limits k b sp).1 (fun i => if i ≤ topOf k b.length then Ls g (limits k b sp).1 i else Ls g (limits k b sp).1 (topOf k b.length) + (gsum g (i + 1) - gsum g (topOf k b.length + 1))) := by
    have f1 : ∀ i, 0 < i → i < 12 → Ls g (limits k b sp).1 (i - 1) + gz g i ≤ Ls g (limits k b sp).1 i := F.fw
    refine ⟨fun i hi => ?_, fun i h0 hi => ?_, fun i x h0 hi e => ?_, fun x e => ?_⟩
    · show _ ≤ if i ≤ topOf k b.length then _ else _
      by_cases c : i ≤ topOf k b.length
      · rw [if_pos c]; exact F.lo i hi
      · rw [if_neg c]
        have a1 := lo_high (sp := sp) hk (show topOf k b.length ≤ i by omega)
        have a2 : 1 ≤ Ls g (limits k b sp).1 (topOf k b.length) := Int.le_trans (lo_ge_one _) (F.lo _ (by omega))
        have a3 := gsum_mono G (show topOf k b.length + 1 ≤ i + 1 by omega)
        omega
    · show (if i - 1 ≤ topOf k b.length then _ else _) + gz g i ≤ if i ≤ topOf k b.length then _ else _
      by_cases c : i ≤ topOf k b.length
      · rw [if_pos c, if_pos (by omega)]; exact f1 i h0 hi
      · rw [if_neg c, gsum_succ h0]
        by_cases c2 : i - 1 ≤ topOf k b.length
        · rw [if_pos c2, show i - 1 = topOf k b.length by omega, show topOf k b.length + 1 = i by omega]; omega
        · rw [if_neg c2, show i - 1 + 1 = i by omega]; omega
    · show (if i ≤ topOf k b.length then _ else _) ≤ (if i - 1 ≤ topOf k b.length then _ else _) + x
      by_cases c : i ≤ topOf k b.length
      · rw [if_pos c, if_pos (by omega)]; exact F.bw i x h0 hi e
      · rw [if_neg c, gsum_succ h0, gz_some e]
        by_cases c2 : i - 1 ≤ topOf k b.length
        · rw [if_pos c2, show i - 1 = topOf k b.length by omega, show topOf k b.length + 1 = i by omega]; omega
        · rw [if_neg c2, show i - 1 + 1 = i by omega]; omega
    · show x ≤ if 0 ≤ topOf k b.length then _ else _
      rw [if_pos (Nat.zero_le _)]; exact F.zero x e
  have up : ∀ j, topOf k b.length ≤ j → j < 12 → Ls g (limits k b sp).1 j = Ls g (limits k b sp).1 (topOf k b.length) + (gsum g (j + 1) - gsum g (topOf k b.length + 1)) := by
    intro j hj
    induction hj with
    | refl => intro _; omega
    | step hj ih =>
      rename_i j
      intro hj2
      have hj' : topOf k b.length ≤ j := hj
      have i1 := ih (by omega)
      have i2 := F.fw (j + 1) (by omega) hj2
      have i2' : Ls g (limits k b sp).1 (j + 1 - 1) + gz g (j + 1) ≤ Ls g (limits k b sp).1 (j + 1) := i2
      rw [show j + 1 - 1 = j by omega] at i2'
      have i3 := (lowRounds_le 12 A).lo (j + 1) hj2
      have i3' : Ls g (limits k b sp).1 (j + 1) ≤ if j + 1 ≤ topOf k b.length then Ls g (limits k b sp).1 (j + 1) else Ls g (limits k b sp).1 (topOf k b.length) + (gsum g (j + 1 + 1) - gsum g (topOf k b.length + 1)) := i3
      rw [if_neg (by omega)] at i3'
      have i4 : gsum g (j + 1 + 1) = gsum g (j + 1) + gz g (j + 1) := gsum_succ (by omega)
      show Ls g (limits k b sp).1 (j + 1) = Ls g (limits k b sp).1 (topOf k b.length) + (gsum g (j + 1 + 1) - gsum g (topOf k b.length + 1))
      omega
  have u1 := up i (by omega) h2
  have u2 := up (i - 1) (by omega) (by omega)
  have u3 : gsum g (i + 1) = gsum g i + gz g i := gsum_succ (by omega)
  rw [show i - 1 + 1 = i by omega] at u2
  omega
theorem rowsMatch_iff {s : List Int} : rowsMatch s g = true ↔ ∀ n x, n < 12 → g n = some x → levelRow s g n = x := by
  unfold rowsMatch
  rw [List.all_eq_true]
  constructor
  · intro h n x hn e
    have q := h n (List.mem_range.mpr hn)
    rw [e] at q
    exact of_decide_eq_true q
  · intro h n hn
    cases e : g n with
    | none => rfl
    | some x => exact decide_eq_true (h n x (List.mem_range.mp hn) e)
theorem spineN_some {s : List Int} : ∀ {n : Nat} {l : List Int}, spineN k b s first sp n = some l → ∀ h, h < n → (spItem k b s sp h).isSome = true
  | 0, _, _, h, hh => absurd hh (Nat.not_lt_zero _)
  | n + 1, l, e, h, hh => by
    have e' : (spineN k b s first sp n).bind (fun l => (spItem k b s sp n).map fun x => l ++ [x]) = some l := e
    cases e1 : spineN k b s first sp n with
    | none => rw [e1] at e'; cases e'
    | some l1 =>
      rw [e1] at e'
      have e2 : (spItem k b s sp n).map (fun x => l1 ++ [x]) = some l := e'
      by_cases c : h = n
      · subst c
        cases e3 : spItem k b s sp h with
        | none => rw [e3] at e2; cases e2
        | some x => rfl
      · exact spineN_some e1 h (by omega)
theorem spineN_is {s : List Int} (v : Nat → Int) : ∀ {n : Nat}, (∀ h, h < n → spItem k b s sp h = some (v h)) → spineN k b s first sp n = some (firstItem sp first :: (List.range n).map v)
  | 0, _ => rfl
  | n + 1, h => by
    show (spineN k b s first sp n).bind (fun l => (spItem k b s sp n).map fun x => l ++ [x]) = _
    rw [spineN_is v fun j hj => h j (by omega), h n (by omega), List.range_succ, List.map_append]
    rfl
/-- what a row that passes says of the spine -/
theorem spItem_pow (hk : 2 ≤ k) {s : List Int} {h : Nat} (hs : h < s.length) (q : (spItem k b s sp h).isSome = true) {x : Int} (e : sp (h + 1) = some x) :
    (k ^ h < b.length → s.getD h 0 = b.getD (k ^ h - 1) 0 - x) ∧ (k ^ h = b.length → b.getD (k ^ h - 1) 0 - x ≤ s.getD h 0) := by
  have sf : soFar s h = s.getD h 0 := by unfold soFar; rw [Nat.min_eq_left (by omega)]
  unfold spItem at q
  rw [e, sf] at q
  constructor
  · intro c
    rw [if_pos c] at q
    by_cases d : (some x).getD (b.getD (k ^ h - 1) 0 - s.getD h 0) ≠ b.getD (k ^ h - 1) 0 - s.getD h 0
    · rw [if_pos d] at q; cases q
    · have d' : x = b.getD (k ^ h - 1) 0 - s.getD h 0 := Classical.not_not.mp d
      omega
  · intro c
    rw [if_neg (by omega)] at q
    by_cases d : k ^ h = b.length ∧ s.getD h 0 + (some x).getD 0 < b.getD (k ^ h - 1) 0
    · rw [if_pos d] at q
      cases q
    · have d' : ¬ (s.getD h 0 + x < b.getD (k ^ h - 1) 0) := fun z => d ⟨c, z⟩
      omega
/-- a row of the law that passes is a solution -/
theorem due_feas (hk : 2 ≤ k) (hA : b.length ≤ 19) (hM : maxOf b ≤ 1000) (G : Given b sp g) {s : List Int} (R : Row k b (capOf b) (topOf k b.length + 1) s) (q : (dueOf k b first sp g s).isSome = true) :
    Feas g (limits k b sp).1 (limits k b sp).2 (fun i => if i ≤ topOf k b.length then s.getD i 0 else s.getD (topOf k b.length) 0 + (gsum g (i + 1) - gsum g (topOf k b.length + 1))) := by
  have hT := top_small hk hA
  unfold dueOf at q
  by_cases rm : rowsMatch s g = true
  · rw [if_pos rm] at q
    have rm' := rowsMatch_iff.mp rm
    cases e1 : spineN k b s first sp 11 with
    | none => rw [e1] at q; cases q
    | some l =>
      have si := spineN_some e1
      have low1 : ∀ i, i ≤ topOf k b.length → 1 ≤ s.getD i 0 := fun i hi => ((win_lo k b i (capOf b) _ b.length).mp (R.lo i (by omega))).1
      have hiC : ∀ i, i ≤ topOf k b.length → s.getD i 0 ≤ capOf b := fun i hi => ((win_hi k b i (capOf b) _ b.length).mp (R.hi i (by omega))).1
      have gb := gsum_mono G (show 0 ≤ 12 by omega)
      have gb0 : gsum g 0 = 0 := rfl
      have gc := G.cap
      have pw : ∀ j, j < b.length → core k (j + 1) = 1 → k ^ expo k (j + 1) = j + 1 := fun j hj c => (pow_of_core hk (by omega) c).symm
      refine ⟨fun i hi => ?_, fun i hi => ?_, fun i h0 hi => ?_, fun i x h0 hi e => ?_, fun x e => ?_⟩
      · show _ ≤ if i ≤ topOf k b.length then _ else _
        refine (lim_lo k b sp i _ b.length).mpr ⟨?_, fun j hj ej => ?_⟩
        · by_cases c : i ≤ topOf k b.length
          · rw [if_pos c]; exact low1 i c
          · rw [if_neg c]
            have := low1 (topOf k b.length) (Nat.le_refl _)
            have := gsum_mono G (show topOf k b.length + 1 ≤ i + 1 by omega)
            omega
        · have hi' := expo_lt_top (k := k) hj
          rw [ej] at hi'
          rw [if_pos (by omega)]
          unfold leastAt
          by_cases c : core k (j + 1) = 1
          · rw [if_pos c, ej]
            have p := pw j hj c
            rw [ej] at p
            cases e : sp (i + 1) with
            | none => exact low1 i (by omega)
            | some x =>
              show b.getD j 0 - x ≤ s.getD i 0
              obtain ⟨a1, a2⟩ := spItem_pow (k := k) (b := b) hk (by rw [R.len]; omega) (si i (by omega)) e
              rw [p, show j + 1 - 1 = j by omega] at a1 a2
              by_cases z : j + 1 = b.length
              · exact a2 z
              · have := a1 (by omega); omega
          · rw [if_neg c]
            have cp := core_pos hk (show 1 ≤ j + 1 by omega)
            exact ((win_lo k b i (capOf b) _ b.length).mp (R.lo i (by omega))).2 j hj ej (by omega)
      · show (if i ≤ topOf k b.length then _ else _) ≤ _
        refine (lim_hi k b sp i _ b.length).mpr ⟨?_, fun j hj ej => ?_⟩
        · have z : capOf b ≤ 1008 := by unfold capOf; omega
          have z2 := (maxOf_ge b).1
          show _ ≤ (100000000 : Int)
          by_cases c : i ≤ topOf k b.length
          · rw [if_pos c]
            have := hiC i c
            omega
          · rw [if_neg c]
            have := hiC (topOf k b.length) (Nat.le_refl _)
            have := gsum_mono G (show i + 1 ≤ 12 by omega)
            have := gsum_mono G (show 0 ≤ topOf k b.length + 1 by omega)
            omega
        · have hi' := expo_lt_top (k := k) hj
          rw [ej] at hi'
          rw [if_pos (by omega)]
          unfold mostAt
          by_cases z : j + 1 = b.length
          · rw [if_pos z]
            have := hiC i (by omega)
            have : capOf b ≤ 1008 := by unfold capOf; omega
            show _ ≤ (100000000 : Int)
            omega
          · rw [if_neg z]
            have wb := ((win_hi k b i (capOf b) _ b.length).mp (R.hi i (by omega))).2 j hj ej z
            by_cases c : core k (j + 1) = 1
            · rw [if_pos c, ej]
              have p := pw j hj c
              rw [ej] at p
              cases e : sp (i + 1) with
              | none => show s.getD i 0 ≤ b.getD j 0 - 0; omega
              | some x =>
                show s.getD i 0 ≤ b.getD j 0 - x
                obtain ⟨a1, _⟩ := spItem_pow (k := k) (b := b) hk (by rw [R.len]; omega) (si i (by omega)) e
                rw [p, show j + 1 - 1 = j by omega] at a1
                have := a1 (by omega); omega
            · rw [if_neg c]; exact wb
      · show (if i - 1 ≤ topOf k b.length then _ else _) + gz g i ≤ if i ≤ topOf k b.length then _ else _
        by_cases c : i ≤ topOf k b.length
        · rw [if_pos c, if_pos (by omega)]
          cases e : g i with
          | none => rw [gz_none e]; have := R.up i h0 (by omega); omega
          | some x =>
            rw [gz_some e]
            have := rm' i x hi e
            unfold levelRow at this
            rw [if_pos (by rw [R.len]; omega), if_neg (by omega)] at this
            omega
        · rw [if_neg c, gsum_succ h0]
          by_cases c2 : i - 1 ≤ topOf k b.length
          · rw [if_pos c2, show i - 1 = topOf k b.length by omega, show topOf k b.length + 1 = i by omega]; omega
          · rw [if_neg c2, show i - 1 + 1 = i by omega]; omega
      · show (if i ≤ topOf k b.length then _ else _) ≤ (if i - 1 ≤ topOf k b.length then _ else _) + x
        by_cases c : i ≤ topOf k b.length
        · rw [if_pos c, if_pos (by omega)]
          have := rm' i x hi e
          unfold levelRow at this
          rw [if_pos (by rw [R.len]; omega), if_neg (by omega)] at this
          omega
        · rw [if_neg c, gsum_succ h0, gz_some e]
          by_cases c2 : i - 1 ≤ topOf k b.length
          · rw [if_pos c2, show i - 1 = topOf k b.length by omega, show topOf k b.length + 1 = i by omega]; omega
          · rw [if_neg c2, show i - 1 + 1 = i by omega]; omega
      · show (if 0 ≤ topOf k b.length then _ else _) = x
        rw [if_pos (Nat.zero_le _)]
        have := rm' 0 x (by omega) e
        unfold levelRow at this
        rw [if_pos (by rw [R.len]; omega), if_pos rfl] at this
        omega
  · rw [if_neg rm] at q; cases q

/-- the least sums as a row of the law -/
theorem low_due (hk : 2 ≤ k) (hA : b.length ≤ 19) (hrest : b ≠ [] → rest = b.getD (b.length - 1) 0) (G : Given b sp g) (ok : okAll (Ls g (limits k b sp).1) (Hs g (limits k b sp).2) = true) :
    Row k b (capOf b) (topOf k b.length + 1) ((List.range (topOf k b.length + 1)).map (Ls g (limits k b sp).1)) ∧
    dueOf k b first sp g ((List.range (topOf k b.length + 1)).map (Ls g (limits k b sp).1)) = some (levelsOf (Ls g (limits k b sp).1), spineOf k b rest first sp (Ls g (limits k b sp).1)) := by
  have hT := top_small hk hA
  have F := relaxed_feas ok
  have tail := fun i => low_tail (i := i) hk G
  have cap := fun i => low_cap (i := i) hk G
  generalize hL : Ls g (limits k b sp).1 = L at F tail cap
  have sl : ((List.range (topOf k b.length + 1)).map L).length = topOf k b.length + 1 := by rw [List.length_map, List.length_range]
  have sd : ∀ i, i ≤ topOf k b.length → ((List.range (topOf k b.length + 1)).map L).getD i 0 = L i := fun i hi => by
    rw [List.getD_eq_getElem?_getD, List.getElem?_map, List.getElem?_range (by omega)] <;> rfl
  generalize hs : (List.range (topOf k b.length + 1)).map L = s at sl sd
  have l1 : ∀ i, i < 12 → 1 ≤ L i := fun i hi => Int.le_trans (lo_ge_one i) (F.lo i hi)
  have leA : ∀ j, j < b.length → leastAt k b sp j ≤ L (expo k (j + 1)) := fun j hj => by
    have h := expo_lt_top (k := k) hj
    exact Int.le_trans (((lim_lo k b sp (expo k (j + 1)) _ b.length).mp (Int.le_refl _)).2 j hj rfl) (F.lo _ (by omega))
  have moA : ∀ j, j < b.length → L (expo k (j + 1)) ≤ mostAt k b sp j := fun j hj => by
    have h := expo_lt_top (k := k) hj
    exact Int.le_trans (F.hi _ (by omega)) (((lim_hi k b sp (expo k (j + 1)) _ b.length).mp (Int.le_refl _)).2 j hj rfl)
  refine ⟨⟨sl, fun i hi => ?_, fun i hi => ?_, fun i h0 hi => ?_⟩, ?_⟩
  · rw [sd i (by omega)]
    refine (win_lo k b i (capOf b) _ b.length).mpr ⟨l1 i (by omega), fun j hj ej cj => ?_⟩
    have q := leA j hj
    unfold leastAt at q
    rw [if_neg (by omega), ej] at q
    exact q
  · rw [sd i (by omega)]
    refine (win_hi k b i (capOf b) _ b.length).mpr ⟨cap i (by omega), fun j hj ej nj => ?_⟩
    have q := moA j hj
    unfold mostAt at q
    rw [if_neg nj, ej] at q
    by_cases c : core k (j + 1) = 1
    · rw [if_pos c] at q
      cases e : sp (i + 1) with
      | none => rw [e] at q; have q' : L i ≤ b.getD j 0 - 0 := q; omega
      | some x => rw [e] at q; have q' : L i ≤ b.getD j 0 - x := q; have := G.spine _ _ e; omega
    · rw [if_neg c] at q; exact q
  · rw [sd i (by omega), sd (i - 1) (by omega)]
    have := F.fw i h0 (by omega)
    have := gz_nn G i
    omega
  · have lv : ∀ n, n < 12 → levelRow s g n = if n = 0 then L 0 else L n - L (n - 1) := fun n hn => by
      unfold levelRow
      by_cases c : n < s.length
      · rw [if_pos c, sd n (by omega)]
        by_cases z : n = 0
        · rw [if_pos z, if_pos z, z]; omega
        · rw [if_neg z, if_neg z, sd (n - 1) (by omega)]
      · rw [if_neg c, if_neg (by omega)]
        have := tail n (by omega) hn
        have e : (g n).getD 0 = gz g n := rfl
        omega
    have rm : rowsMatch s g = true := rowsMatch_iff.mpr fun n x hn e => by
      rw [lv n hn]
      by_cases z : n = 0
      · rw [if_pos z]; rw [z] at e; exact F.zero x e
      · rw [if_neg z]
        have a1 := F.fw n (by omega) hn
        have a2 := F.bw n x (by omega) hn e
        rw [gz_some e] at a1
        omega
    have sp_is : ∀ h, h < 11 → spItem k b s sp h = some ((sp (h + 1)).getD (spineItem k b rest L h)) := fun h hh => by
      have kp : 0 < k ^ h := Nat.pow_pos (by omega)
      unfold spItem spineItem
      by_cases c : k ^ h < b.length
      · have ht := pow_lt_top hk (Nat.le_of_lt c)
        have sf : soFar s h = L h := by unfold soFar; rw [Nat.min_eq_left (by omega), sd h (by omega)]
        rw [if_pos c, if_pos c, sf]
        have j1 : k ^ h - 1 < b.length := by omega
        have q1 := leA _ j1
        have q2 := moA _ j1
        rw [show k ^ h - 1 + 1 = k ^ h by omega, expo_pow hk] at q1 q2
        unfold leastAt at q1
        unfold mostAt at q2
        rw [show k ^ h - 1 + 1 = k ^ h by omega, core_pow hk, if_pos rfl, expo_pow hk] at q1
        rw [show k ^ h - 1 + 1 = k ^ h by omega, core_pow hk, if_neg (by omega), if_pos rfl, expo_pow hk] at q2
        cases e : sp (h + 1) with
        | none => rw [if_neg (by intro z; exact z rfl)]; rfl
        | some x =>
          rw [e] at q1 q2
          have q1' : b.getD (k ^ h - 1) 0 - x ≤ L h := q1
          have q2' : L h ≤ b.getD (k ^ h - 1) 0 - x := q2
          have ex : x = b.getD (k ^ h - 1) 0 - L h := by omega
          rw [if_neg (by intro z; exact z ex)]
          show some (b.getD (k ^ h - 1) 0 - L h) = some x
          rw [← ex]
      · rw [if_neg c, if_neg c]
        by_cases c2 : k ^ h = b.length
        · have ht := pow_lt_top hk (Nat.le_of_eq c2)
          have sf : soFar s h = L h := by unfold soFar; rw [Nat.min_eq_left (by omega), sd h (by omega)]
          have hr : rest = b.getD (k ^ h - 1) 0 := by
            have := hrest (fun z => by rw [z] at c2; simp at c2; omega)
            rw [this, c2]
          rw [if_pos c2, sf]
          have j1 : k ^ h - 1 < b.length := by omega
          have q1 := leA _ j1
          rw [show k ^ h - 1 + 1 = k ^ h by omega, expo_pow hk] at q1
          unfold leastAt at q1
          rw [show k ^ h - 1 + 1 = k ^ h by omega, core_pow hk, if_pos rfl, expo_pow hk] at q1
          cases e : sp (h + 1) with
          | none =>
            show (if k ^ h = b.length ∧ L h + 0 < b.getD (k ^ h - 1) 0 then (if (none : Option Int).isSome = true then none else some (b.getD (k ^ h - 1) 0 - L h)) else some 0) = some (max 0 (rest - L h))
            by_cases d : k ^ h = b.length ∧ L h + 0 < b.getD (k ^ h - 1) 0
            · rw [if_pos d, if_neg (by decide)]
              have := d.2
              congr 1; omega
            · rw [if_neg d]
              have d' : ¬ (L h + 0 < b.getD (k ^ h - 1) 0) := fun z => d ⟨c2, z⟩
              congr 1; omega
          | some x =>
            rw [e] at q1
            have q1' : b.getD (k ^ h - 1) 0 - x ≤ L h := q1
            show (if k ^ h = b.length ∧ L h + x < b.getD (k ^ h - 1) 0 then _ else some x) = some x
            rw [if_neg (by intro z; have := z.2; omega)]
        · rw [if_neg (by intro z; exact c2 z.1), if_neg c2]
    unfold dueOf
    rw [if_pos rm, spineN_is _ sp_is]
    show some (levelList s g, _) = some (levelsOf L, spineOf k b rest first sp L)
    have e1 : levelList s g = levelsOf L := List.map_congr_left fun n hn => lv n (List.mem_range.mp hn)
    rw [e1] <;> rfl
/-- THE PLAIN LAW -/
theorem due_is (hk : 2 ≤ k) (hA : b.length ≤ 19) (hM : maxOf b ≤ 1000) (hrest : b ≠ [] → rest = b.getD (b.length - 1) 0) (G : Given b sp g) {isOpen : Bool}
    (hmost : most = if isOpen then 1000000 else first) (hsp : ∀ x, sp 0 = some x → x ≤ 1000000) (hf : first ≤ 1000000) : due k b first isOpen sp g = completed k b rest first most sp g := by
  have hT := top_small hk hA
  unfold due completed
  by_cases c : firstItem sp first < first ∨ (isOpen = false ∧ firstItem sp first ≠ first)
  · rw [if_pos c, if_neg]
    rintro ⟨⟨h1, h2⟩, _⟩
    cases isOpen with
    | true => rcases c with c | c
              · omega
              · cases c.1
    | false =>
      have hm : most = first := hmost
      rcases c with c | c <;> omega
  · rw [if_neg c]
    have c1 : first ≤ firstItem sp first := Int.not_lt.mp fun z => c (.inl z)
    have c2 : firstItem sp first ≤ most := by
      cases isOpen with
      | true =>
        have hm : most = 1000000 := hmost
        rw [hm]
        unfold firstItem
        cases e : sp 0 with
        | none => exact hf
        | some x => exact hsp x e
      | false =>
        have hm : most = first := hmost
        have : firstItem sp first = first := Classical.not_not.mp fun z => c (.inr ⟨rfl, z⟩)
        omega
    by_cases ok : okAll (Ls g (limits k b sp).1) (Hs g (limits k b sp).2) = true
    · rw [if_pos ⟨⟨c1, c2⟩, ok⟩]
      obtain ⟨R, d⟩ := low_due (first := first) (rest := rest) hk hA hrest G ok
      refine first_least _ _ (sums_sorted _ _ _ _) _ _ (mem_sums.mpr R) d fun t ht q i hi => ?_
      have F := due_feas hk hA hM G (mem_sums.mp ht) q
      have le := (feas_relaxed F).2
      rw [List.length_map, List.length_range] at hi
      have le' : Ls g (limits k b sp).1 i ≤ if i ≤ topOf k b.length then t.getD i 0 else t.getD (topOf k b.length) 0 + (gsum g (i + 1) - gsum g (topOf k b.length + 1)) := le i (by omega)
      rw [if_pos (by omega)] at le'
      rw [List.getD_eq_getElem?_getD, List.getElem?_map, List.getElem?_range hi]
      exact le'
    · rw [if_neg (fun z => ok z.2)]
      rw [List.findSome?_eq_none_iff]
      intro t ht
      cases e : dueOf k b first sp g t with
      | none => rfl
      | some r =>
        exact absurd (feas_relaxed (due_feas hk hA hM G (mem_sums.mp ht) (by rw [e]; rfl))).1 ok
end
end K45
/-! #### K45Tool -/
namespace K45
open PySem PySem.Spec PyProof.Rows L2


/-! ### heaps -/
theorem Same.new {H : Hp} {p : Addr} {o : HO} (h : H p = none) : Same H (upd H p o) := fun a u e => by
  rw [upd_ne (ne_of_none e h)]
  exact e
theorem Same.mut {H H' : Hp} {p : Addr} {o : HO} (e : Same H H') (h : H p = none) : Same H (upd H' p o) := fun a u ha => by
  rw [upd_ne (ne_of_none ha h)]
  exact e a u ha
theorem Same.to {H H' : Hp} {a : Addr} {u : HO} (e : Same H H') (h : H a = some u) : H' a = some u := e a u h
theorem Same.step {H H1 H2 : Hp} (b : Same H1 H2) (a : Same H H1) : Same H H2 := a.trans b
theorem Same.rd {H H' : Hp} {a : Addr} {u : HO} (e : Same H H') (h : Rd H a u) : Rd H' a u := by
  rcases h with h | ⟨o, h⟩
  · exact .inl (e a _ h)
  · exact .inr ⟨o, e a _ h⟩
theorem Same.seqT {K : PySem.W.Frag} {H H' : Hp} {a : Addr} {xs : List V} (e : Same H H') (h : SqT K H a xs) : SqT K H' a xs := by
  rcases h with h | h
  · exact .inl (Same.rd e h)
  · exact .inr h
theorem upd_at {H : Hp} {a b : Addr} {o u : HO} (h : b ≠ a) (e : H b = some u) : upd H a o b = some u := (upd_ne h).trans e
/-! ### readings, from the left -/
section
variable {K : PySem.W.Frag} {σ : L2.St} {H : Hp} {Q : VK} {D : Ends} {v x y : V} {i j : Int} {n : Nat} {ta tb te : TE} {r : R2} {t u : TS} {g : TG}
theorem w_var (h : σ[n]? = some (some v)) (q : Q v H) : tVar n σ H Q := ⟨v, h, q⟩
theorem w_c (q : Q v H) : tC v σ H Q := q
theorem w_op (q : ta σ H fun x H1 => tb σ H1 fun y H2 => r x y H2 Q) : tOp r ta tb σ H Q := q
theorem w_I0 {g : Int → Int → V} (q : Q (g i j) H) : rI0 g (.int i) (.int j) H Q := ⟨i, j, rfl, rfl, q⟩
theorem w_I {C : Int → Int → Prop} {g : Int → Int → V} (hc : C i j) (q : Q (g i j) H) : rI C g (.int i) (.int j) H Q := ⟨i, j, rfl, rfl, hc, q⟩
theorem w_eqI (q : Q (.bl (decide (i = j))) H) : rEq (.int i) (.int j) H Q := ⟨rfl, by
  have e : decide (V.int i = V.int j) = decide (i = j) := by rw [dec_int]; exact Bool.beq_eq_decide_eq ..
  rw [e]; exact q⟩
theorem w_neI (q : Q (.bl (!decide (i = j))) H) : rNe (.int i) (.int j) H Q := ⟨rfl, by
  have e : decide (V.int i = V.int j) = decide (i = j) := by rw [dec_int]; exact Bool.beq_eq_decide_eq ..
  rw [e]; exact q⟩
theorem w_test {t : TE} {Q : Bool → Hp → Prop} (q : t σ H fun x H' => ∃ k, x = .bl k ∧ Q k H') : tTest t σ H Q := q
theorem w_bl {Q : Bool → Hp → Prop} {b : Bool} (q : Q b H) : ∃ k, V.bl b = .bl k ∧ Q k H := ⟨b, rfl, q⟩
theorem w_if {c : TT} (q : c σ H fun b H1 => if b = true then t D σ H1 else u D σ H1) : tIfS c t u D σ H := q
theorem w_ite {p : Prop} [Decidable p] {A B : Prop} (h1 : p → A) (h2 : ¬p → B) : if decide p = true then A else B := by
  by_cases h : p
  · rw [if_pos (decide_eq_true h)]; exact h1 h
  · rw [if_neg (by simpa using h)]; exact h2 h
theorem w_iteN {p : Prop} [Decidable p] {A B : Prop} (h1 : ¬p → A) (h2 : p → B) : if (!decide p) = true then A else B := by
  by_cases h : p
  · rw [if_neg (by simpa using h)]; exact h2 h
  · rw [if_pos (by simpa using h)]; exact h1 h
theorem w_itT {p : Prop} [Decidable p] {A B : Prop} (h : p) (q : A) : if decide p = true then A else B := by
  rw [if_pos (decide_eq_true h)]; exact q
theorem w_itF {p : Prop} [Decidable p] {A B : Prop} (h : ¬p) (q : B) : if decide p = true then A else B := by
  rw [if_neg (by simpa using h)]; exact q
def sq (u : TS) (D : Ends) : Ends := { D with nx := u D }
def lp (N : L2.St → Hp → Prop) (D : Ends) : Ends := { D with nx := N, ct := N, bk := D.nx }
theorem w_seq (q : t (sq u D) σ H) : tSeq t u D σ H := q
theorem w_nxq (q : u D σ H) : (sq u D).nx σ H := q
theorem w_rtq {v : V} (q : D.rt v H) : (sq u D).rt v H := q
theorem w_nxl {N : L2.St → Hp → Prop} (q : N σ H) : (lp N D).nx σ H := q
theorem w_rtl {N : L2.St → Hp → Prop} {v : V} (q : D.rt v H) : (lp N D).rt v H := q
theorem w_asg (q : te σ H fun x H1 => g x σ H1 D.nx) : tAsg te g D σ H := q
theorem w_name {Q : L2.St → Hp → Prop} (q : Q (σ.set n (some v)) H) : gName n v σ H Q := q
theorem w_ret (q : te σ H D.rt) : tRet te D σ H := q
theorem w_retN (q : D.rt .non H) : tRetN D σ H := q
theorem w_next (q : D.nx σ H) : tNext D σ H := q
theorem w_drop (q : te σ H fun _ H1 => D.nx σ H1) : tDrop te D σ H := q
theorem w_ifE {c : TT} (q : c σ H fun b H1 => if b = true then ta σ H1 Q else tb σ H1 Q) : tIf c ta tb σ H Q := q
theorem w_B {t : TE} {Q : Bool → Hp → Prop} (q : t σ H fun x H' => ∃ k, x = .bl k ∧ Q k H') : tB t σ H Q := q
theorem w_cons {tr : TA} {Q : List V → Hp → Prop} (q : ta σ H fun x H1 => tr σ H1 fun xs H2 => Q (x :: xs) H2) : tCons ta tr σ H Q := q
theorem w_nil {Q : List V → Hp → Prop} (q : Q [] H) : tNil σ H Q := q
theorem w_cb {r : List V → Hp → VK → Prop} {t : TA} (q : t σ H fun vs H1 => r vs H1 Q) : tCB r t σ H Q := q
theorem w_aug {ti : TIp} (h : σ[n]? = some (some x)) (q : te σ H fun y H1 => ti x y H1 fun z H2 => D.nx (σ.set n (some z)) H2) : tAug n te ti D σ H := ⟨x, h, q⟩
theorem w_ip {f : Int → Int → Int} (q : Q (.int (f i j)) H) : ipI f (.int i) (.int j) H Q := ⟨i, j, rfl, rfl, q⟩
/-- new objects: the heap gets a name -/
def NewT (xs : List V) (H : Hp) (Q : VK) : Prop := ∀ p, H p = none → Q (.ref p) (upd H p (.tup xs))
def NewL (xs : List V) (H : Hp) (Q : VK) : Prop := ∀ p, H p = none → Q (.ref p) (upd H p (.lst xs))
theorem w_tup {t : TA} (q : t σ H fun xs H1 => xs.length ≤ sizeLine ∧ NewT xs H1 Q) : tTup t σ H Q := q
theorem w_lst {t : TA} (q : t σ H fun xs H1 => xs.length ≤ sizeLine ∧ NewL xs H1 Q) : tLst t σ H Q := q
theorem newT {xs : List V} (h : ∀ p H', H p = none → Same H H' → H' p = some (.tup xs) → Q (.ref p) H') : NewT xs H Q := fun p hp => h p _ hp (Same.new hp) upd_same
theorem newL {xs : List V} (h : ∀ p H', H p = none → Same H H' → H' p = some (.lst xs) → Q (.ref p) H') : NewL xs H Q := fun p hp => h p _ hp (Same.new hp) upd_same
theorem new_at {R : Addr → Hp → Prop} {o : HO} (h : ∀ p H', H p = none → Same H H' → H' p = some o → R p H') : ∀ p, H p = none → R p (upd H p o) := fun p hp => h p _ hp (Same.new hp) upd_same
end
/-! ### slots by number -/
section
variable {H : Hp} {Q : VK} {R : L2.St → Hp → Prop} {v : V} {r : L2.St} {a0 a1 a2 a3 a4 a5 a6 a7 a8 a9 a10 a11 a12 a13 a14 a15 : Option V}
theorem w_var0 (q : Q v H) : tVar 0 (some v :: r) H Q := ⟨v, rfl, q⟩
theorem w_name0 (q : R (some v :: r) H) : gName 0 v (a0 :: r) H R := q
theorem w_var1 (q : Q v H) : tVar 1 (a0 :: some v :: r) H Q := ⟨v, rfl, q⟩
theorem w_name1 (q : R (a0 :: some v :: r) H) : gName 1 v (a0 :: a1 :: r) H R := q
theorem w_var2 (q : Q v H) : tVar 2 (a0 :: a1 :: some v :: r) H Q := ⟨v, rfl, q⟩
theorem w_name2 (q : R (a0 :: a1 :: some v :: r) H) : gName 2 v (a0 :: a1 :: a2 :: r) H R := q
theorem w_var3 (q : Q v H) : tVar 3 (a0 :: a1 :: a2 :: some v :: r) H Q := ⟨v, rfl, q⟩
theorem w_name3 (q : R (a0 :: a1 :: a2 :: some v :: r) H) : gName 3 v (a0 :: a1 :: a2 :: a3 :: r) H R := q
theorem w_var4 (q : Q v H) : tVar 4 (a0 :: a1 :: a2 :: a3 :: some v :: r) H Q := ⟨v, rfl, q⟩
theorem w_name4 (q : R (a0 :: a1 :: a2 :: a3 :: some v :: r) H) : gName 4 v (a0 :: a1 :: a2 :: a3 :: a4 :: r) H R := q
theorem w_var5 (q : Q v H) : tVar 5 (a0 :: a1 :: a2 :: a3 :: a4 :: some v :: r) H Q := ⟨v, rfl, q⟩
theorem w_name5 (q : R (a0 :: a1 :: a2 :: a3 :: a4 :: some v :: r) H) : gName 5 v (a0 :: a1 :: a2 :: a3 :: a4 :: a5 :: r) H R := q
theorem w_var6 (q : Q v H) : tVar 6 (a0 :: a1 :: a2 :: a3 :: a4 :: a5 :: some v :: r) H Q := ⟨v, rfl, q⟩
theorem w_name6 (q : R (a0 :: a1 :: a2 :: a3 :: a4 :: a5 :: some v :: r) H) : gName 6 v (a0 :: a1 :: a2 :: a3 :: a4 :: a5 :: a6 :: r) H R := q
theorem w_var7 (q : Q v H) : tVar 7 (a0 :: a1 :: a2 :: a3 :: a4 :: a5 :: a6 :: some v :: r) H Q := ⟨v, rfl, q⟩
theorem w_name7 (q : R (a0 :: a1 :: a2 :: a3 :: a4 :: a5 :: a6 :: some v :: r) H) : gName 7 v (a0 :: a1 :: a2 :: a3 :: a4 :: a5 :: a6 :: a7 :: r) H R := q
theorem w_var8 (q : Q v H) : tVar 8 (a0 :: a1 :: a2 :: a3 :: a4 :: a5 :: a6 :: a7 :: some v :: r) H Q := ⟨v, rfl, q⟩
theorem w_name8 (q : R (a0 :: a1 :: a2 :: a3 :: a4 :: a5 :: a6 :: a7 :: some v :: r) H) : gName 8 v (a0 :: a1 :: a2 :: a3 :: a4 :: a5 :: a6 :: a7 :: a8 :: r) H R := q
theorem w_var9 (q : Q v H) : tVar 9 (a0 :: a1 :: a2 :: a3 :: a4 :: a5 :: a6 :: a7 :: a8 :: some v :: r) H Q := ⟨v, rfl, q⟩
theorem w_name9 (q : R (a0 :: a1 :: a2 :: a3 :: a4 :: a5 :: a6 :: a7 :: a8 :: some v :: r) H) : gName 9 v (a0 :: a1 :: a2 :: a3 :: a4 :: a5 :: a6 :: a7 :: a8 :: a9 :: r) H R := q
theorem w_var10 (q : Q v H) : tVar 10 (a0 :: a1 :: a2 :: a3 :: a4 :: a5 :: a6 :: a7 :: a8 :: a9 :: some v :: r) H Q := ⟨v, rfl, q⟩
theorem w_name10 (q : R (a0 :: a1 :: a2 :: a3 :: a4 :: a5 :: a6 :: a7 :: a8 :: a9 :: some v :: r) H) : gName 10 v (a0 :: a1 :: a2 :: a3 :: a4 :: a5 :: a6 :: a7 :: a8 :: a9 :: a10 :: r) H R := q
theorem w_var11 (q : Q v H) : tVar 11 (a0 :: a1 :: a2 :: a3 :: a4 :: a5 :: a6 :: a7 :: a8 :: a9 :: a10 :: some v :: r) H Q := ⟨v, rfl, q⟩
theorem w_name11 (q : R (a0 :: a1 :: a2 :: a3 :: a4 :: a5 :: a6 :: a7 :: a8 :: a9 :: a10 :: some v :: r) H) : gName 11 v (a0 :: a1 :: a2 :: a3 :: a4 :: a5 :: a6 :: a7 :: a8 :: a9 :: a10 :: a11 :: r) H R := q
theorem w_var12 (q : Q v H) : tVar 12 (a0 :: a1 :: a2 :: a3 :: a4 :: a5 :: a6 :: a7 :: a8 :: a9 :: a10 :: a11 :: some v :: r) H Q := ⟨v, rfl, q⟩
theorem w_name12 (q : R (a0 :: a1 :: a2 :: a3 :: a4 :: a5 :: a6 :: a7 :: a8 :: a9 :: a10 :: a11 :: some v :: r) H) : gName 12 v (a0 :: a1 :: a2 :: a3 :: a4 :: a5 :: a6 :: a7 :: a8 :: a9 :: a10 :: a11 :: a12 :: r) H R := q
theorem w_var13 (q : Q v H) : tVar 13 (a0 :: a1 :: a2 :: a3 :: a4 :: a5 :: a6 :: a7 :: a8 :: a9 :: a10 :: a11 :: a12 :: some v :: r) H Q := ⟨v, rfl, q⟩
theorem w_name13 (q : R (a0 :: a1 :: a2 :: a3 :: a4 :: a5 :: a6 :: a7 :: a8 :: a9 :: a10 :: a11 :: a12 :: some v :: r) H) : gName 13 v (a0 :: a1 :: a2 :: a3 :: a4 :: a5 :: a6 :: a7 :: a8 :: a9 :: a10 :: a11 :: a12 :: a13 :: r) H R := q
theorem w_var14 (q : Q v H) : tVar 14 (a0 :: a1 :: a2 :: a3 :: a4 :: a5 :: a6 :: a7 :: a8 :: a9 :: a10 :: a11 :: a12 :: a13 :: some v :: r) H Q := ⟨v, rfl, q⟩
theorem w_name14 (q : R (a0 :: a1 :: a2 :: a3 :: a4 :: a5 :: a6 :: a7 :: a8 :: a9 :: a10 :: a11 :: a12 :: a13 :: some v :: r) H) : gName 14 v (a0 :: a1 :: a2 :: a3 :: a4 :: a5 :: a6 :: a7 :: a8 :: a9 :: a10 :: a11 :: a12 :: a13 :: a14 :: r) H R := q
theorem w_var15 (q : Q v H) : tVar 15 (a0 :: a1 :: a2 :: a3 :: a4 :: a5 :: a6 :: a7 :: a8 :: a9 :: a10 :: a11 :: a12 :: a13 :: a14 :: some v :: r) H Q := ⟨v, rfl, q⟩
theorem w_name15 (q : R (a0 :: a1 :: a2 :: a3 :: a4 :: a5 :: a6 :: a7 :: a8 :: a9 :: a10 :: a11 :: a12 :: a13 :: a14 :: some v :: r) H) : gName 15 v (a0 :: a1 :: a2 :: a3 :: a4 :: a5 :: a6 :: a7 :: a8 :: a9 :: a10 :: a11 :: a12 :: a13 :: a14 :: a15 :: r) H R := q
theorem w_set1 {i : Nat} {a : Option V} {σ σ1 : L2.St} (e : σ.set i a = σ1) (q : R σ1 H) : R (σ.set i a) H := by rw [e]; exact q
theorem w_varG {n : Nat} {σ : L2.St} (q : tVar n σ H Q) : tVar n σ H Q := q
theorem w_nameG {n : Nat} {σ : L2.St} (q : gName n v σ H R) : gName n v σ H R := q
theorem w_set2 {i j : Nat} {a b : Option V} {σ σ1 : L2.St} (e : (σ.set i a).set j b = σ1) (q : R σ1 H) : R ((σ.set i a).set j b) H := by rw [e]; exact q
end
theorem w_start {t : L2.St → Hp → Prop} {N : List Str} {vs : List V} {σ' : L2.St} {H : Hp} (e : L2.start N vs = σ') (q : t σ' H) : t (L2.start N vs) H := by rw [e]; exact q

section
variable {K : PySem.W.Frag} {σ : L2.St} {H : Hp} {Q : VK} {x y : V} {ta tb : TE} {A B : Prop}
theorem w_exb {b : Bool} {R : Bool → Prop} (q : R b) : ∃ c, V.bl b = .bl c ∧ R c := ⟨b, rfl, q⟩
theorem w_andV (q : ta σ H fun x H1 => ∃ c, x = .bl c ∧ if c = true then tb σ H1 Q else Q (.bl false) H1) : tAndV ta tb σ H Q := q
theorem w_orV (q : ta σ H fun x H1 => ∃ c, x = .bl c ∧ if c = true then Q (.bl true) H1 else tb σ H1 Q) : tOrV ta tb σ H Q := q
theorem w_notV (q : ta σ H fun x H1 => ∃ c, x = .bl c ∧ Q (.bl (!c)) H1) : tNotV ta σ H Q := q
section
variable {t u : TT} {R : Bool → Hp → Prop}
theorem w_and (q : t σ H fun c H1 => if c = true then u σ H1 R else R false H1) : tAnd t u σ H R := q
theorem w_or (q : t σ H fun c H1 => if c = true then R true H1 else u σ H1 R) : tOr t u σ H R := q
theorem w_not (q : t σ H fun c H1 => R (!c) H1) : tNot t σ H R := q
end
theorem w_tt (q : A) : if true = true then A else B := by rw [if_pos rfl]; exact q
theorem w_ff (q : B) : if false = true then A else B := by rw [if_neg Bool.false_ne_true]; exact q
theorem w_ntt (q : B) : if (!true) = true then A else B := w_ff q
theorem w_nff (q : A) : if (!false) = true then A else B := w_tt q
theorem w_chain {r r' : R2} {tc : TE} (q : ta σ H fun x H1 => tb σ H1 fun y H2 => r x y H2 fun z H3 => ∃ k, z = .bl k ∧ (if k = true then tc σ H3 fun w' H4 => r' y w' H4 Q else Q (.bl false) H3)) : tChain r r' ta tb tc σ H Q := q
theorem w_par {i j : Nat} {ta : TA} {D : Ends} (q : ta σ H fun vs H1 => ∃ v w, vs = [v, w] ∧ D.nx ((σ.set i (some v)).set j (some w)) H1) : tPar i j ta D σ H := q
theorem w_two {v w : V} {R : V → V → Prop} (q : R v w) : ∃ v' w', [v, w] = [v', w'] ∧ R v' w' := ⟨v, w, rfl, q⟩
theorem size2 : 2 ≤ sizeLine := by decide
theorem size1 : 1 ≤ sizeLine := by decide
theorem size0 : 0 ≤ sizeLine := by decide
def kIsN : R2 := fun x y H Q => y = .non ∧ Q (.bl (decide (x = .non))) H
def kNotN : R2 := fun x y H Q => y = .non ∧ Q (.bl (!decide (x = .non))) H
theorem op_isN' {X : Cx} : OpR X (compareOp .Is) kIsN := op_isN
theorem op_notN' {X : Cx} : OpR X (compareOp .IsNot) kNotN := op_notN
theorem w_isN_int {i : Int} (q : Q (.bl false) H) : kIsN (.int i) .non H Q := ⟨rfl, q⟩
theorem w_isN_non (q : Q (.bl true) H) : kIsN .non .non H Q := ⟨rfl, q⟩
theorem w_isN_ref {a : Addr} (q : Q (.bl false) H) : kIsN (.ref a) .non H Q := ⟨rfl, q⟩
theorem w_notN_int {i : Int} (q : Q (.bl true) H) : kNotN (.int i) .non H Q := ⟨rfl, q⟩
theorem w_notN_non (q : Q (.bl false) H) : kNotN .non .non H Q := ⟨rfl, q⟩
theorem w_notN_ref {a : Addr} (q : Q (.bl true) H) : kNotN (.ref a) .non H Q := ⟨rfl, q⟩
theorem w_isi (c : String) (b : Bool) {n : String} (ty : TyX K H x (.type n)) (hk : kitB n c = some b) (q : Q (.bl b) H) : rIsi K [x, .ty c] H Q := ⟨x, .ty c, .type n, .type c, b, rfl, .ty c, ty, kit_ty hk, q⟩
theorem tx_int {i : Int} : TyX K H (.int i) (.type "int") := .base (.int i)
theorem tx_lst {a : Addr} {xs : List V} (h : H a = some (.lst xs)) : TyX K H (.ref a) (.type "list") := .base (.lst h)
theorem tx_tup {a : Addr} {xs : List V} (h : H a = some (.tup xs)) : TyX K H (.ref a) (.type "tuple") := .base (.tup h)
theorem tx_str {z : Str} : TyX K H (.str z) (.type "str") := .base (.str z)
theorem w_len {p : Addr} {xs : List V} (h : SqL K H p xs ∨ SqT K H p xs) (q : Q (.int xs.length) H) : ∃ p' ys, [V.ref p] = [.ref p'] ∧ (SqL K H p' ys ∨ SqT K H p' ys) ∧ Q (.int ys.length) H := ⟨p, xs, rfl, h, q⟩
end
/-! ### a def of the top, as its callers know it -/
structure Cal (P : Program) (w : World) (K : PySem.W.Frag) (mg : Str → Option Value) (base : Heap) (CX : CXT) (k : Nat) (x : Str) (ps : List Str) (sp : Sp) : Prop where
  ok : ∃ fd, FnOk P w K mg base CX k (He.ga K x) fd ps sp ∧ Binds K fd ps []
  g : mg x = some (.ref (He.ga K x))
  kp : PySem.W.keepIn K (.ref (He.ga K x)) = true
def tCal (sp : Sp) (t : TA) : TE := fun σ H Q => t σ H fun vs H1 => sp vs H1 Q E0
section
variable {X : Cx} {k : Nat} {x : Str} {ps : List Str} {sp : Sp} {p pos : Pos} {e : Expr} {es : List Expr} {t : TA}
theorem pe_cal (c : Cal X.prog X.w X.K X.mg X.base CX0 k x ps sp) (hr : Room k X.A) (ha : PA X (e :: es) t) (hg : Gl X x := by rfl)
    (hdb : (x == ("__debug__" : Str)) = false := by decide) (he : starEach (e :: es) X.env = (false, eval e X.env) :: starEach es X.env := by rfl) (hpl : (backTo pos (starEach es X.env)).any (·.1) = false := by rfl) :
    PE X (.Call (.Name x p) (e :: es) [] pos) (tCal sp t) := by
  obtain ⟨fd, F, b⟩ := c.ok
  have h := pe_call (dvs := []) (E := E0) (p := p) F hr hg c.g c.kp b .nil pass0 ha hdb he hpl
  refine ⟨fun pins s σ H Q I hq => h.run pins s σ H Q I ?_⟩
  have e1 : (fun vs H1 => sp (vs ++ []) H1 Q E0) = fun vs H1 => sp vs H1 Q E0 := by
    funext vs H1; rw [List.append_nil]
  show t σ H (fun vs H1 => sp (vs ++ []) H1 Q E0)
  rw [e1]
  exact hq
end
def tCalK (n m : Nat) (sp : Sp) (t tk : TA) : TE := fun σ H Q => t σ H fun vs H1 => tk σ H1 fun zs H2 => vs.length = n ∧ zs.length = m ∧ sp (vs ++ zs) H2 Q E0
theorem w_calK {n m : Nat} {sp : Sp} {t tk : TA} {σ : L2.St} {H : Hp} {Q : VK} (q : t σ H fun vs H1 => tk σ H1 fun zs H2 => vs.length = n ∧ zs.length = m ∧ sp (vs ++ zs) H2 Q E0) : tCalK n m sp t tk σ H Q := q
/-- a def called with n values and keywords ks, none lacking -/
structure CalK (P : Program) (w : World) (K : PySem.W.Frag) (mg : Str → Option Value) (base : Heap) (CX : CXT) (k : Nat) (x : Str) (ps : List Str) (n : Nat) (ks : List Str) (sp : Sp) : Prop where
  ok : ∃ fd, FnOk P w K mg base CX k (He.ga K x) fd ps sp ∧ KBn K fd ps n ks (fun us ws => us ++ ws) (fun vs zs => vs ++ zs)
  g : mg x = some (.ref (He.ga K x))
  kp : PySem.W.keepIn K (.ref (He.ga K x)) = true
section
variable {X : Cx} {k n : Nat} {x : Str} {ps ks : List Str} {sp : Sp} {p pos : Pos} {e : Expr} {es : List Expr} {kws : List Keyword} {t tk : TA}
theorem pe_calK (c : CalK X.prog X.w X.K X.mg X.base CX0 k x ps n ks sp) (hr : Room k X.A) (ha : PA X (e :: es) t) (hkw : PK X kws tk) (hg : Gl X x := by rfl)
    (hall : (backToKw pos (keywordEach kws X.env)).all (·.1.isSome) = true := by rfl) (hks : (backToKw pos (keywordEach kws X.env)).filterMap (·.1) = ks := by rfl)
    (hdb : (x == ("__debug__" : Str)) = false := by decide) (he : starEach (e :: es) X.env = (false, eval e X.env) :: starEach es X.env := by rfl)
    (hpl : ((backTo pos (starEach (e :: es) X.env)).any (·.1) || (backToKw pos (keywordEach kws X.env)).any (·.1.isNone)) = false := by rfl) :
    PE X (.Call (.Name x p) (e :: es) kws pos) (tCalK n ks.length sp t tk) := by
  obtain ⟨fd, F, b⟩ := c.ok
  exact pe_callN (E := E0) (p := p) F hr hg c.g c.kp b pass0 ha hkw hall hks hdb he hpl
end
theorem w_cal {sp : Sp} {t : TA} {σ : L2.St} {H : Hp} {Q : VK} (q : t σ H fun vs H1 => sp vs H1 Q E0) : tCal sp t σ H Q := q
section
variable {X : Cx}
theorem pe_globI {x : Str} {i : Int} {pos : Pos} (h : ∃ t, X.mg x = some (.int i t)) (hg : Gl X x := by rfl) (hd : (x == ("__debug__" : Str)) = false := by decide) : PE X (.Name x pos) (tC (.int i)) := by
  obtain ⟨t, e⟩ := h
  exact pe_glob hg e ⟨t, rfl⟩ hd
/-- name //= e -/
theorem ip_fdiv : PIp X .FloorDiv (fun x y H Q => ∃ i j, x = .int i ∧ y = .int j ∧ CDiv i j ∧ Q (.int (i / j)) H) := fun pins s σ H x y v u Q I r1 r2 h => iop_fdiv pins s σ H x y v u Q I r1 r2 h
theorem ip_mul : PIp X .Mult (fun x y H Q => ∃ i j, x = .int i ∧ y = .int j ∧ CMul i j ∧ Q (.int (i * j)) H) := fun pins s σ H x y v u Q I r1 r2 h => iop_mul pins s σ H x y v u Q I r1 r2 h
end

/-! ### what the top leaves -/
structure Glob (K : PySem.W.Frag) (mg : Str → Option Value) : Prop where
  n_len : mg "len" = none
  n_max : mg "max" = none
  n_min : mg "min" = none
  n_isinstance : mg "isinstance" = none
  n_all : mg "all" = none
  n_int : mg "int" = none
  n_bool : mg "bool" = none
  n_tuple : mg "tuple" = none
  n_list : mg "list" = none
  n_str : mg "str" = none
  n_range : mg "range" = none
  n_enumerate : mg "enumerate" = none
  n_zip : mg "zip" = none
  kFRONT_LIMIT : ∃ t, mg "FRONT_LIMIT" = some (.int 12 t)
  kLOOP_LIMIT : ∃ t, mg "LOOP_LIMIT" = some (.int 6 t)
  kLABEL_LIMIT : ∃ t, mg "LABEL_LIMIT" = some (.int 1000000 t)
  kARITY_LIMIT : ∃ t, mg "ARITY_LIMIT" = some (.int 9 t)
  kMOST_LABELS : ∃ t, mg "MOST_LABELS" = some (.int 1000000 t)
  kITEM_COUNT : ∃ t, mg "ITEM_COUNT" = some (.int 12 t)
  kUNLIMITED : ∃ t, mg "UNLIMITED" = some (.int 100000000 t)
  g_Schedule : mg "Schedule" = some (.ref (He.ga K "Schedule"))
  g_PlaceFit : mg "PlaceFit" = some (.ref (He.ga K "PlaceFit"))
  g_ValueFit : mg "ValueFit" = some (.ref (He.ga K "ValueFit"))
  g_Conflict : mg "Conflict" = some (.ref (He.ga K "Conflict"))
  cSchedule : Cls K (He.ga K "Schedule")
  cPlaceFit : Cls K (He.ga K "PlaceFit")
  cValueFit : Cls K (He.ga K "ValueFit")
  aSchedule : ∀ f ∈ (["own_arity", "own_spine", "own_levels"] : List Str), NoAttr K (He.ga K "Schedule") f
  aPlaceFit : ∀ f ∈ (["own_places", "own_arity", "own_rest", "own_bounds"] : List Str), NoAttr K (He.ga K "PlaceFit") f
  aValueFit : ∀ f ∈ (["own_places", "own_arity", "own_rest", "own_bounds"] : List Str), NoAttr K (He.ga K "ValueFit") f
  tSchedule : ∀ (H : Hp) (a dx : Addr) (fs : List (Str × V)), H a = some (.ins (He.ga K "Schedule") dx fs) → TyOf K H (.ref a) (.ref (He.ga K "Schedule"))
  y_INDEXES : ∀ H : Hp, tyV K "tuple" (.ref (He.ga K "INDEXES")) H
  g_INDEXES : mg "INDEXES" = some (.ref (He.ga K "INDEXES"))
  t_INDEXES : ∀ H : Hp, SqT K H (He.ga K "INDEXES") ((["0", "1", "2", "3", "4", "5", "6", "7", "8", "9", "10", "11"] : List Str).map V.str)
/-- a def without defaults -/
abbrev FD (K : PySem.W.Frag) (x qual : Str) (st : Stmt) (f : Addr) (fd : FuncData) : Prop := FunD K x qual (defArgs st) (defBody st) (defScope st) [] [] f fd
structure Df (K : PySem.W.Frag) (mg : Str → Option Value) (x : Str) (st : Stmt) : Prop where
  ex : ∃ fd, FD K x x st (He.ga K x) fd
  g : mg x = some (.ref (He.ga K x))
section
variable {P : Program} {w : World} {K : PySem.W.Frag} {mg : Str → Option Value} {base : Heap} {k : Nat} {x : Str} {st : Stmt} {ps : List Str} {sp : Sp}
theorem cal_of (D : Df K mg x st) (hok : ∀ fd, FD K x x st (He.ga K x) fd → FnOk P w K mg base CX0 k (He.ga K x) fd ps sp)
    (hb : ∀ (kV doc pm : Value) (an : Option Addr) (cdv ct : Value) (us : List Value), us.length = ps.length → bindArgs (PySem.W.fnOf x x (defArgs st) (defBody st) (defScope st) .none kV doc pm an cdv ct) ⟨us, []⟩ = pure (ps.zip us)) : Cal P w K mg base CX0 k x ps sp := by
  obtain ⟨fd, F⟩ := D.ex
  exact ⟨⟨fd, hok fd F, F.bindsN hb⟩, D.g, F.kp⟩
end
/-! ### promises' ends -/
def RetV (v : V) (H : Hp) (Q : VK) : Prop := ∀ H', Same H H' → Q v H'
def RetL (xs : List V) (H : Hp) (Q : VK) : Prop := ∀ p H', H p = none → Same H H' → H' p = some (.lst xs) → Q (.ref p) H'
def RetT (xs : List V) (H : Hp) (Q : VK) : Prop := ∀ p H', H p = none → Same H H' → H' p = some (.tup xs) → Q (.ref p) H'
end K45
/-! #### K45Tool2 -/
namespace K45
open PySem PySem.Spec PyProof.Rows L2
abbrev VI (ns : List Int) : List V := ns.map V.int
section
variable {K : PySem.W.Frag} {σ : L2.St} {H H' : Hp} {Q : VK} {p q : Addr} {ns ms : List Int} {xs ys : List V} {i : Int} {v : V}
/-! ### items -/
theorem at_int (h0 : 0 ≤ i) (h1 : i < ns.length) : atI (VI ns) i = some (.int (ns.getD i.toNat 0)) := by
  have hl : i.toNat < ns.length := by omega
  have e : (VI ns)[i.toNat]? = some (.int (ns.getD i.toNat 0)) := by
    rw [List.getElem?_map, List.getElem?_eq_getElem hl, List.getD_eq_getElem?_getD, List.getElem?_eq_getElem hl] <;> rfl
  have z := atI_nat e
  rwa [show ((i.toNat : Nat) : Int) = i by omega] at z
theorem at_neg1 (h : 0 < ns.length) : atI (VI ns) (-1) = some (.int (ns.getD (ns.length - 1) 0)) := by
  unfold atI ixN
  rw [if_neg (by omega), List.length_map, if_pos (by omega)]
  show (VI ns)[((-1 : Int) + (ns.length : Int)).toNat]? = _
  rw [show ((-1 : Int) + (ns.length : Int)).toNat = ns.length - 1 by omega, List.getElem?_map, List.getElem?_eq_getElem (by omega), List.getD_eq_getElem?_getD, List.getElem?_eq_getElem (by omega)] <;> rfl
theorem w_ixI (h : SqL K H p (VI ns)) (h0 : 0 ≤ i) (h1 : i < ns.length) (q : Q (.int (ns.getD i.toNat 0)) H) : rIxL K (.ref p) (.int i) H Q := ⟨p, _, i, _, rfl, rfl, h, at_int h0 h1, q⟩
theorem w_ixIT (h : SqT K H p (VI ns)) (h0 : 0 ≤ i) (h1 : i < ns.length) (q : Q (.int (ns.getD i.toNat 0)) H) : rIxT K (.ref p) (.int i) H Q := ⟨p, _, i, _, rfl, rfl, h, at_int h0 h1, q⟩
theorem w_ixN1 (h : SqL K H p (VI ns)) (h1 : 0 < ns.length) (q : Q (.int (ns.getD (ns.length - 1) 0)) H) : rIxL K (.ref p) (.int (-1)) H Q := ⟨p, _, -1, _, rfl, rfl, h, at_neg1 h1, q⟩
theorem w_ixN1T (h : SqT K H p (VI ns)) (h1 : 0 < ns.length) (q : Q (.int (ns.getD (ns.length - 1) 0)) H) : rIxT K (.ref p) (.int (-1)) H Q := ⟨p, _, -1, _, rfl, rfl, h, at_neg1 h1, q⟩
theorem w_ixL (h : SqL K H p xs) (e : atI xs i = some v) (q : Q v H) : rIxL K (.ref p) (.int i) H Q := ⟨p, _, i, _, rfl, rfl, h, e, q⟩
theorem w_ixT (h : SqT K H p xs) (e : atI xs i = some v) (q : Q v H) : rIxT K (.ref p) (.int i) H Q := ⟨p, _, i, _, rfl, rfl, h, e, q⟩
/-! ### equality of lists of ints -/
theorem dp_ints : ∀ ns : List Int, DpAll K H (VI ns) (ns.map PyData.int)
  | [] => .nil
  | n :: r => .cons (.int n) (dp_ints r)
theorem lay_ints : ∀ ns : List Int, PyData.canLayAll0 (ns.map PyData.int) = true
  | [] => by simp [PyData.canLayAll0]
  | n :: r => by
    have ih := lay_ints r
    simp [PyData.canLayAll0, PyData.canLay0, ih]
theorem depth_ints : ∀ ns : List Int, PyData.depthAll (ns.map PyData.int) ≤ 1
  | [] => by simp [PyData.depthAll]
  | n :: r => by
    have ih := depth_ints r
    simp [PyData.depthAll, PyData.depth]
    omega
theorem shaped_lst (ns : List Int) : SeqAt.shaped (.list (ns.map PyData.int)) = true := by
  have h1 := lay_ints ns
  have h2 := depth_ints ns
  unfold SeqAt.shaped
  simp only [PyData.canLay0, h1, PyData.depth, Bool.true_and]
  exact decide_eq_true (by omega)
theorem shaped_tup (ns : List Int) : SeqAt.shaped (.tuple (ns.map PyData.int)) = true := by
  have h1 := lay_ints ns
  have h2 := depth_ints ns
  unfold SeqAt.shaped
  simp only [PyData.canLay0, h1, PyData.depth, Bool.true_and]
  exact decide_eq_true (by omega)
theorem eqv_lst (ns ms : List Int) : PyData.eqv (.list (ns.map PyData.int)) (.list (ms.map PyData.int)) = decide (ns = ms) := by
  rw [PyData.eqv]; exact PySem.W.ked_eqvAll ns ms
theorem eqv_tup (ns ms : List Int) : PyData.eqv (.tuple (ns.map PyData.int)) (.tuple (ms.map PyData.int)) = decide (ns = ms) := by
  rw [PyData.eqv]; exact PySem.W.ked_eqvAll ns ms
theorem w_neL (h1 : SqL K H p (VI ns)) (h2 : SqL K H q (VI ms)) (k : Q (.bl (!decide (ns = ms))) H) : rNeD K (.ref p) (.ref q) H Q :=
  ⟨_, _, .lst h1 (dp_ints ns), .lst h2 (dp_ints ms), shaped_lst _, shaped_lst _, by rw [eqv_lst]; exact k⟩
theorem w_eqL (h1 : SqL K H p (VI ns)) (h2 : SqL K H q (VI ms)) (k : Q (.bl (decide (ns = ms))) H) : rEqD K (.ref p) (.ref q) H Q :=
  ⟨_, _, .lst h1 (dp_ints ns), .lst h2 (dp_ints ms), shaped_lst _, shaped_lst _, by rw [eqv_lst]; exact k⟩
theorem w_neT (h1 : SqT K H p (VI ns)) (h2 : SqT K H q (VI ms)) (k : Q (.bl (!decide (ns = ms))) H) : rNeD K (.ref p) (.ref q) H Q :=
  ⟨_, _, .tup h1 (dp_ints ns), .tup h2 (dp_ints ms), shaped_tup _, shaped_tup _, by rw [eqv_tup]; exact k⟩
theorem w_eqT (h1 : SqT K H p (VI ns)) (h2 : SqT K H q (VI ms)) (k : Q (.bl (decide (ns = ms))) H) : rEqD K (.ref p) (.ref q) H Q :=
  ⟨_, _, .tup h1 (dp_ints ns), .tup h2 (dp_ints ms), shaped_tup _, shaped_tup _, by rw [eqv_tup]; exact k⟩
theorem nil_t (h : H p = some (.tup [])) : SqT K H p (VI []) := SqT.of h
theorem nil_l (h : H p = some (.lst [])) : SqL K H p (VI []) := SqL.of h
/-! ### targets -/
theorem w_gtup {n : Nat} {t : TGs} {a : Addr} {R : L2.St → Hp → Prop} (h : SqT K H a xs) (hl : xs.length = n) (k : t xs σ H R) : gTup K n t (.ref a) σ H R := ⟨a, xs, rfl, h, hl, k⟩
theorem w_gcons {t : TG} {u : TGs} {r : List V} {R : L2.St → Hp → Prop} (k : t v σ H fun σ' H' => u r σ' H' R) : gCons t u (v :: r) σ H R := ⟨v, r, rfl, k⟩
theorem w_gnil {R : L2.St → Hp → Prop} (k : R σ H) : gNil [] σ H R := ⟨rfl, k⟩
/-! ### slices -/
theorem w_sl {r : V → Option Int → Option Int → Hp → VK → Prop} {te : TE} {tl th : TO} (k : te σ H fun x H1 => tl σ H1 fun lo H2 => th σ H2 fun hi H3 => r x lo hi H3 Q) : tSl r te tl th σ H Q := k
theorem w_part {te : TE} {R : Option Int → Hp → Prop} (k : te σ H fun x H1 => ∃ i, x = .int i ∧ R (some i) H1) : tPart te σ H R := k
theorem w_nopart {R : Option Int → Hp → Prop} (k : R none H) : tNoPart σ H R := k
theorem w_exi {R : Int → Prop} (k : R i) : ∃ j, V.int i = .int j ∧ R j := ⟨i, rfl, k⟩
theorem w_un {r : V → Hp → VK → Prop} {ta : TE} (k : ta σ H fun x H1 => r x H1 Q) : tUn r ta σ H Q := k
theorem w_U {g : Int → V} (k : Q (g i) H) : rU g (.int i) H Q := ⟨i, rfl, k⟩
theorem cut_butlast (xs : List V) : cutV xs none (some (-1)) = xs.dropLast := by
  have e : HT.sIx xs.length xs.length (some (-1)) = xs.length - 1 := by
    show (if (-1 : Int) < 0 then ((-1 : Int) + (xs.length : Int)).toNat else min (-1 : Int).toNat xs.length) = xs.length - 1
    rw [if_pos (by decide)]; omega
  unfold cutV
  rw [e, HT.sIx_none, List.drop_zero, Nat.sub_zero, List.dropLast_eq_take]
theorem cut_tail (xs : List V) : cutV xs (some 1) none = xs.drop 1 := by
  unfold cutV
  rw [show (some (1 : Int)) = some ((1 : Nat) : Int) from rfl, HT.sIx_nat, HT.sIx_none]
  rw [List.take_of_length_le (by rw [List.length_drop]; omega)]
  by_cases h : 1 ≤ xs.length
  · rw [Nat.min_eq_left h]
  · have e : xs = [] := List.eq_nil_of_length_eq_zero (by omega)
    subst e; rfl
theorem w_slL {lo hi : Option Int} (h : SqL K H p xs) (k : ∀ q H', H q = none → Same H H' → H' q = some (.lst (cutV xs lo hi)) → Q (.ref q) H') : rSlL K (.ref p) lo hi H Q := ⟨p, xs, rfl, h, new_at k⟩
/-- t[1:] of a tuple -/
theorem w_slT1 (h : SqT K H p xs) (k : ∀ q H', Same H H' → SqT K H' q (xs.drop 1) → Q (.ref q) H') : rSlA K (.ref p) (some 1) none H Q := by
  refine ⟨p, xs, rfl, h, fun e => ?_, fun e => ?_⟩
  · have e1 := e.1
    rw [show (some (1 : Int)) = some ((1 : Nat) : Int) from rfl, HT.sIx_nat] at e1
    have e2 : xs = [] := List.eq_nil_of_length_eq_zero (by omega)
    subst e2
    exact k p H (Same.refl _) h
  · refine new_at fun q H' hq sm hh => k q H' sm (SqT.of ?_)
    rw [← cut_tail]; exact hh
theorem w_catL (hp : H p = some (.lst xs)) (hq : H q = some (.lst ys)) (hl : xs.length + ys.length ≤ sizeLine) (k : ∀ r H', H r = none → Same H H' → H' r = some (.lst (xs ++ ys)) → Q (.ref r) H') : rCat (.ref p) (.ref q) H Q :=
  ⟨p, q, xs, ys, rfl, rfl, hp, hq, hl, new_at k⟩
theorem w_rep {n : Nat} (hp : H p = some (.lst [v])) (hn : n ≤ 100000) (k : ∀ r H', H r = none → Same H H' → H' r = some (.lst (List.replicate n v)) → Q (.ref r) H') : rRep (.ref p) (.int (n : Int)) H Q := by
  have hs : sizeLine = 16777216 := sizeLine_eq
  refine ⟨p, n, [v], rfl, rfl, hp, by omega, by omega, by simp; omega, new_at fun r H' h1 h2 h3 => k r H' h1 h2 ?_⟩
  rw [h3, Int.toNat_natCast]
  have e : ∀ n : Nat, (List.replicate n [v]).flatten = List.replicate n v := by
    intro n
    induction n with
    | zero => rfl
    | succ n ih => rw [List.replicate_succ, List.flatten_cons, ih, List.replicate_succ] <;> rfl
  rw [e]
/-! ### calls of built-ins -/
theorem w_max2 {i j : Int} (k : Q (.int (max i j)) H) : ∃ i' j', [V.int i, V.int j] = [.int i', .int j'] ∧ Q (.int (if j' > i' then j' else i')) H := ⟨i, j, rfl, by
  have e : (if j > i then j else i) = max i j := by
    by_cases h : j > i
    · rw [if_pos h]; omega
    · rw [if_neg h]; omega
  rw [e]; exact k⟩
theorem w_min2 {i j : Int} (k : Q (.int (min i j)) H) : ∃ i' j', [V.int i, V.int j] = [.int i', .int j'] ∧ Q (.int (if j' < i' then j' else i')) H := ⟨i, j, rfl, by
  have e : (if j < i then j else i) = min i j := by
    by_cases h : j < i
    · rw [if_pos h]; omega
    · rw [if_neg h]; omega
  rw [e]; exact k⟩
theorem foldl_max_of : ∀ (ns : List Int) (a m : Int), m ∈ a :: ns → (∀ y, y ∈ a :: ns → y ≤ m) → ns.foldl max a = m
  | [], a, m, h1, _ => by
    have e : m = a := List.mem_singleton.mp h1
    exact e.symm
  | n :: r, a, m, h1, h2 => by
    show r.foldl max (max a n) = m
    refine foldl_max_of r (max a n) m ?_ fun y hy => ?_
    · have a1 := h2 a (List.mem_cons_self ..)
      have a2 := h2 n (List.mem_cons_of_mem _ (List.mem_cons_self ..))
      rcases List.mem_cons.mp h1 with e | h1
      · rw [show max a n = m by omega]; exact List.mem_cons_self ..
      · rcases List.mem_cons.mp h1 with e | h1
        · rw [show max a n = m by omega]; exact List.mem_cons_self ..
        · exact List.mem_cons_of_mem _ h1
    · rcases List.mem_cons.mp hy with e | hy
      · have a1 := h2 a (List.mem_cons_self ..)
        have a2 := h2 n (List.mem_cons_of_mem _ (List.mem_cons_self ..))
        omega
      · exact h2 y (List.mem_cons_of_mem _ (List.mem_cons_of_mem _ hy))
theorem w_maxL {a : Int} (h : SqL K H p (VI (a :: ns))) (k : Q (.int (ns.foldl max a)) H) : rMax K [.ref p] H Q := ⟨p, a :: ns, rfl, h, by simp, fun m h1 h2 => by
  rw [← foldl_max_of ns a m h1 h2]; exact k⟩
theorem w_all {bs : List Bool} (h : SqL K H p (bs.map V.bl)) (k : Q (.bl (bs.all id)) H) : rAll K [.ref p] H Q := ⟨p, bs, rfl, h, k⟩
theorem w_bm {T : String} {r : V → List V → Hp → VK → Prop} {to : TE} {t : TA} (k : to σ H fun x H1 => tyV K T x H1 ∧ t σ H1 fun xs H2 => r x xs H2 Q) : tBM K T r to t σ H Q := k
theorem w_append (h : H p = some (.lst xs)) (hl : xs.length < sizeLine) (k : Q .non (upd H p (.lst (xs ++ [v])))) : rAppend (.ref p) [v] H Q := ⟨p, xs, v, rfl, rfl, h, hl, k⟩
theorem small_lt {n : Nat} (h : n ≤ 100000) : n < sizeLine := Nat.lt_of_le_of_lt h (by decide)
theorem small_le {n : Nat} (h : n ≤ 100000) : n ≤ sizeLine := Nat.le_of_lt (small_lt h)
end
/-! ### the rules with the written part told -/
section
variable {X : Cx} {K : PySem.W.Frag}
theorem ix_listK (e : X.K = K) : IxR X (rIxL K) := by subst e; exact ix_list
theorem ix_tupK (e : X.K = K) : IxR X (rIxT K) := by subst e; exact ix_tup
theorem sl_listK (e : X.K = K) : SlR X (rSlL K) := by subst e; exact sl_list
theorem sl_tupK (e : X.K = K) : SlR X (rSlA K) := by subst e; exact sl_tupA
theorem op_catAK (e : X.K = K) : OpR X (binaryOp .Add) (rCatA K) := by subst e; exact op_catA
theorem op_inK (e : X.K = K) : OpR X (compareOp .In) (rIn K false) := by subst e; exact op_in_seq
theorem op_eqDK (e : X.K = K) (hu : X.A.units + 64 < cLine) : OpR X (compareOp .Eq) (rEqD K) := by subst e; exact op_eqD hu
theorem op_neDK (e : X.K = K) (hu : X.A.units + 64 < cLine) : OpR X (compareOp .NotEq) (rNeD K) := by subst e; exact op_neD hu
def rLenK (K : PySem.W.Frag) : List V → Hp → VK → Prop := fun xs H Q => ∃ p ys, xs = [.ref p] ∧ (SqL K H p ys ∨ SqT K H p ys) ∧ Q (.int ys.length) H
theorem call_lenK (e : X.K = K) : CallR X (.builtin "len") (rLenK K) := by subst e; exact call_len_seq
def rListK (K : PySem.W.Frag) : List V → Hp → VK → Prop := fun xs H Q => ∃ p ys, xs = [.ref p] ∧ (SqL K H p ys ∨ SqT K H p ys) ∧ ∀ l, H l = none → Q (.ref l) (upd H l (.lst ys))
theorem call_listK (e : X.K = K) : CallR X (.type "list") (rListK K) := by subst e; exact call_list_of
def rTupleK (K : PySem.W.Frag) : List V → Hp → VK → Prop := fun xs H Q => ∃ p ys, xs = [.ref p] ∧ ((SqL K H p ys ∧ ∀ l, H l = none → Q (.ref l) (upd H l (.tup ys))) ∨ (SqT K H p ys ∧ Q (.ref p) H))
theorem call_tupleK (e : X.K = K) : CallR X (.type "tuple") (rTupleK K) := by subst e; exact call_tuple_of
def rInt1 : List V → Hp → VK → Prop := fun xs H Q => (∃ i, xs = [.int i] ∧ Q (.int i) H) ∨ ∃ k, xs = [.bl k] ∧ Q (.int (if k then 1 else 0)) H
theorem call_intK : CallR X (.type "int") rInt1 := call_int1
theorem cr_maxK (e : X.K = K) (hc : X.calm = true) : CallR X (.builtin "max") (rMax K) := by subst e; exact cr_max hc
theorem cr_allK (e : X.K = K) (hc : X.calm = true) : CallR X (.builtin "all") (rAll K) := by subst e; exact cr_all hc
theorem call_isiK' (e : X.K = K) : CallR X (.builtin "isinstance") (rIsi K) := by subst e; exact call_isi
theorem call_isiTK (e : X.K = K) : CallR X (.builtin "isinstance") (rIsiT K) := by subst e; exact call_isiT
theorem pi_listK {tg l : Expr} {tl : TE} (e : X.K = K) (hl : PE X l tl) : PI X tg l (iList K tl) := by subst e; exact pi_list hl
theorem pi_tupK {tg l : Expr} {tl : TE} (e : X.K = K) (hl : PE X l tl) : PI X tg l (iTup K tl) := by subst e; exact pi_tup hl
theorem pi_enumK {e1 : Expr} {ta : TA} {p pos tpos : Pos} {elts : List Expr} {kk : Nat} (e : X.K = K) (hg : Gl X "enumerate") (hm : X.mg "enumerate" = none) (ha : PA X [e1] ta) (hs : starEach [e1] X.env = [(false, eval e1 X.env)] := by rfl) :
    PI X (.Tuple elts kk tpos) (.Call (.Name "enumerate" p) [e1] [] pos) (iEnum K ta) := by subst e; exact pi_enum hg hm ha hs
theorem pi_zipK {e1 e2 : Expr} {ta : TA} {p pos tpos : Pos} {elts : List Expr} {kk : Nat} (e : X.K = K) (hg : Gl X "zip") (hm : X.mg "zip" = none) (ha : PA X [e1, e2] ta)
    (hs : starEach [e1, e2] X.env = (false, eval e1 X.env) :: starEach [e2] X.env := by rfl) (hpl : (backTo pos (starEach [e2] X.env)).any (·.1) = false := by rfl) :
    PI X (.Tuple elts kk tpos) (.Call (.Name "zip" p) [e1, e2] [] pos) (RZ.iZipA K ta) := by subst e; exact RZ.pi_zipA hg hm ha hs hpl
theorem pg_tupK {es : List Expr} {k : Nat} {t : TGs} {n : Nat} {pos : Pos} (e : X.K = K) (hc : X.calm = true) (h : PGs X es t)
    (hn : (assignEach es X.env).length = n := by rfl) (hst : (assignEach es X.env).findIdx? (·.1) = none := by rfl) : PG X (.Tuple es k pos) (gTup K n t) := by subst e; exact pg_tup hc h hn hst
theorem pe_fldK {e1 : Expr} {f : Str} {pos : Pos} {ta : TE} (e : X.K = K) (he : PE X e1 ta) (hb : attributeBase e1 f X.env (eval e1 X.env) = eval e1 X.env := by rfl) : PE X (.Attribute e1 f pos) (tFld K ta f) := by subst e; exact pe_fld he hb
theorem ps_fldK {o value : Expr} {f : Str} {pos pos' : Pos} {ta tv : TE} (e : X.K = K) (ha : PE X o ta) (hv : PE X value tv) (hs : swapsWith value (some (.Attribute o f pos')) pos.line X.env = pure false := by rfl) : PS X (.Assign [.Attribute o f pos'] value pos) (sFld K ta tv f) := by subst e; exact ps_fld ha hv hs
theorem pe_orTK {a b : Expr} {rest : List Expr} {pos : Pos} {ta tb : TE} (e : X.K = K) (ha : PE X a ta) (hb : PE X (.BoolOp .Or (b :: rest) pos) tb) : PE X (.BoolOp .Or (a :: b :: rest) pos) (tOrT K ta tb) := by subst e; exact pe_orT ha hb
theorem pe_appK {o e1 : Expr} {to : TE} {t : TA} {apos cpos : Pos} (e : X.K = K) (ho : PE X o to) (ha : PA X [e1] t)
    (hbase : attributeBase o "append" X.env (eval o X.env) = eval o X.env := by rfl)
    (hfew : ((backTo cpos (starEach [e1] X.env)).all (fun x => !x.1) && (backToKw cpos (keywordEach [] X.env)).all (fun x => x.1.isSome)
      && decide (([e1] : List Expr).length + ([] : List Keyword).length + (if ([] : List Keyword).isEmpty then 0 else 1) < 30)) = true := by rfl)
    (hline : (apos.endLine == cpos.line) = true := by rfl) (hs : starEach [e1] X.env = (false, eval e1 X.env) :: starEach [] X.env := by rfl) (hplain : (backTo cpos (starEach [] X.env)).any (·.1) = false := by rfl) :
    PE X (.Call (.Attribute o "append" apos) [e1] [] cpos) (tBM K "list" rAppend to t) := by
  subst e
  exact pe_bm PySem.F.plainAttrs_list PySem.F.slot_list_append PySem.F.type_list_append mt_append ho ha hbase hfew hline hs hplain
end
section
variable {K : PySem.W.Frag} {H : Hp} {Q : VK} {p : Addr} {xs : List V}
theorem w_lenL (h : SqL K H p xs) (q : Q (.int xs.length) H) : rLenK K [.ref p] H Q := ⟨p, xs, rfl, .inl h, q⟩
theorem w_lenT (h : SqT K H p xs) (q : Q (.int xs.length) H) : rLenK K [.ref p] H Q := ⟨p, xs, rfl, .inr h, q⟩
theorem w_listL (h : SqL K H p xs) (k : ∀ q H', H q = none → Same H H' → H' q = some (.lst xs) → Q (.ref q) H') : rListK K [.ref p] H Q := ⟨p, xs, rfl, .inl h, new_at k⟩
theorem w_tupL (h : SqL K H p xs) (k : ∀ q H', H q = none → Same H H' → H' q = some (.tup xs) → Q (.ref q) H') : rTupleK K [.ref p] H Q := ⟨p, xs, rfl, .inl ⟨h, new_at k⟩⟩
theorem w_tupT (h : SqT K H p xs) (k : Q (.ref p) H) : rTupleK K [.ref p] H Q := ⟨p, xs, rfl, .inr ⟨h, k⟩⟩
theorem w_intB {b : Bool} (k : Q (.int (if b then 1 else 0)) H) : rInt1 [.bl b] H Q := .inr ⟨b, rfl, k⟩
end
section
variable {K : PySem.W.Frag} {σ : L2.St} {H : Hp} {R : It → Hp → Prop}
theorem w_lc {wi : TI} {g : TG} {tt : TT} {te : TE} {vs : List Nat} {Q : VK} (q : wi σ H fun J H1 => ∀ D, H1 D = none → ∃ W : Nat → Nat → Hp → Prop, (∃ m, W 0 m (upd H1 D (.lst []))) ∧ ∀ i m H, W i m H →
  (J.stop i H ∧ Q (.ref D) H) ∨ (J.go i H ∧ ∃ Nx : Hp → Prop, (∀ H', Nx H' → ∃ m', m' < m ∧ W (i + 1) m' H') ∧ ∀ x H', J.yld i H x H' → g x (wipe σ vs) H' fun σ2 H2 => wipe σ2 vs = wipe σ vs ∧ tt σ2 H2 fun b H3 =>
    if b = true then te σ2 H3 fun y H4 => ∃ acc, H4 D = some (.lst acc) ∧ acc.length < sizeLine ∧ Nx (upd H4 D (.lst (acc ++ [y]))) else Nx H3)) : tLc wi g tt te vs σ H Q := q
theorem w_for {wi : TI} {g : TG} {tb : TS} {D : Ends} (q : wi σ H fun J H1 => ∃ W : Nat → Nat → L2.St → Hp → Prop, (∃ m, W 0 m σ H1) ∧ ∀ i m σ H, W i m σ H →
  (J.stop i H ∧ D.nx σ H) ∨ (J.go i H ∧ ∃ N : L2.St → Hp → Prop, (∀ σ' H', N σ' H' → ∃ m', m' < m ∧ W (i + 1) m' σ' H') ∧ ∀ x H', J.yld i H x H' → g x σ H' fun σ2 H2 => tb { D with nx := N, ct := N, bk := D.nx } σ2 H2)) : tFor wi g tb D σ H := q
theorem w_enum {ta : TA} (q : ta σ H fun vs H1 => ∃ a xs, vs = [.ref a] ∧ SqL K H1 a xs ∧ R (Ite K a) H1) : iEnum K ta σ H R := q
theorem w_rng1 {ta : TA} (q : ta σ H fun vs H1 => ∃ j : Int, vs = [.int j] ∧ -(2 ^ 62) ≤ j ∧ j < 2 ^ 62 ∧ R (Itr 0 j.toNat) H1) : iRng1 ta σ H R := q
theorem w_rng2 {ta : TA} (q : ta σ H fun vs H1 => ∃ i j : Int, vs = [.int i, .int j] ∧ (-(2 ^ 62) ≤ i ∧ i < 2 ^ 62 ∧ -(2 ^ 62) ≤ j ∧ j < 2 ^ 62) ∧ R (Itr i (j - i).toNat) H1) : iRng2 ta σ H R := q
theorem w_ilist {tl : TE} (q : tl σ H fun x H1 => ∃ a, x = .ref a ∧ (∃ xs, SqL K H1 a xs) ∧ R (Itl K a) H1) : iList K tl σ H R := q
theorem w_zip {ta : TA} (q : ta σ H fun vs H1 => ∃ a b xs ys, vs = [.ref a, .ref b] ∧ ((SqL K H1 a xs ∧ SqL K H1 b ys ∧ R (Itz K a b) H1) ∨ (SqT K H1 a xs ∧ SqT K H1 b ys ∧ R (RZ.ItzT K a b) H1))) : RZ.iZipA K ta σ H R := q
theorem w_yes {Q : Bool → Hp → Prop} (q : Q true H) : tYes σ H Q := q
end
/-! ### comprehensions that change nothing but their own list -/
structure CI (H1 : Hp) (D : Addr) (L : Nat → List V) (i : Nat) (H' : Hp) : Prop where
  sm : Same H1 H'
  at_ : H' D = some (.lst (L i))
  fr : H1 D = none
section
variable {H1 H' H4 : Hp} {D : Addr} {L : Nat → List V} {i : Nat} {y : V}
theorem ci_start (hD : H1 D = none) (h0 : L 0 = []) : CI H1 D L 0 (upd H1 D (.lst [])) := ⟨Same.new hD, by rw [upd_same, h0], hD⟩
theorem ci_add (p : CI H1 D L i H') (sm : Same H' H4) (e : L (i + 1) = L i ++ [y]) (hl : (L i).length ≤ 100000) : ∃ acc, H4 D = some (.lst acc) ∧ acc.length < sizeLine ∧ CI H1 D L (i + 1) (upd H4 D (.lst (acc ++ [y]))) :=
  ⟨L i, sm _ _ p.at_, small_lt hl, Same.mut (Same.trans p.sm sm) p.fr, by rw [upd_same, e], p.fr⟩
theorem ci_skip (p : CI H1 D L i H') (sm : Same H' H4) (e : L (i + 1) = L i) : CI H1 D L (i + 1) H4 := ⟨Same.trans p.sm sm, by rw [sm _ _ p.at_, e], p.fr⟩
end
theorem walk_zipT {K : PySem.W.Frag} {a b : Addr} {xs ys : List V} {n : Nat} (hn : n = min xs.length ys.length) : Walk (RZ.ItzT K a b) n (fun H => SqT K H a xs ∧ SqT K H b ys) (YPair (fun i => xs[i]?) (fun i => ys[i]?)) := by
  subst hn
  refine ⟨fun i _ hi q => ?_, fun _ q => ⟨xs, ys, q.1, q.2, by omega⟩, fun i H v H' _ q y => ?_⟩
  · have h1 : i < xs.length := by omega
    have h2 : i < ys.length := by omega
    exact ⟨xs, ys, xs[i], ys[i], q.1, q.2, by simp [h1], by simp [h2]⟩
  · obtain ⟨T, x, z, h1, h2, h3, h4, h5⟩ := y
    exact ⟨T, x, z, h1, h2, h3, h4 xs q.1, h5 ys q.2⟩
/-- a new pair, unpacked -/
theorem pair_in {xs ys : Nat → Option V} {i : Nat} {H Hy : Hp} {v : V} (y : YPair xs ys i H v Hy) : ∃ T a b, v = .ref T ∧ Same H Hy ∧ Hy T = some (.tup [a, b]) ∧ xs i = some a ∧ ys i = some b := by
  obtain ⟨T, a, b, e1, e2, e3, e4, e5⟩ := y
  exact ⟨T, a, b, e1, by rw [e3]; exact Same.new e2, by rw [e3]; exact upd_same, e4, e5⟩
theorem vi_get {ns : List Int} {i : Nat} {v : V} (h : (VI ns)[i]? = some v) : i < ns.length ∧ v = .int (ns.getD i 0) := by
  rw [List.getElem?_map] at h
  cases e : ns[i]? with
  | none => rw [e] at h; cases h
  | some z =>
    rw [e] at h
    refine ⟨(List.getElem?_eq_some_iff.mp e).1, ?_⟩
    rw [List.getD_eq_getElem?_getD, e]
    exact (Option.some.inj h).symm
theorem range_snoc {α : Type} (f : Nat → α) (i : Nat) : (List.range (i + 1)).map f = (List.range i).map f ++ [f i] := by
  rw [List.range_succ, List.map_append] <;> rfl
theorem range_filter {α : Type} (f : Nat → α) (p : Nat → Bool) (i : Nat) : ((List.range (i + 1)).filter p).map f = if p i = true then ((List.range i).filter p).map f ++ [f i] else ((List.range i).filter p).map f := by
  rw [List.range_succ, List.filter_append, List.map_append, List.filter_cons]
  by_cases h : p i = true
  · rw [if_pos h, if_pos h] <;> rfl
  · rw [if_neg h, if_neg h, List.filter_nil, List.map_nil, List.append_nil]
theorem size3 : 3 ≤ sizeLine := by decide
section
variable {K : PySem.W.Frag} {H : Hp} {Q : VK} {p q : Addr} {ns : List Int} {x y z : V}
theorem w_newT0 (k : NewT [] H Q) : ([] : List V).length ≤ sizeLine ∧ NewT [] H Q := ⟨size0, k⟩
theorem w_newT1 (k : NewT [x] H Q) : [x].length ≤ sizeLine ∧ NewT [x] H Q := ⟨size1, k⟩
theorem w_newT2 (k : NewT [x, y] H Q) : [x, y].length ≤ sizeLine ∧ NewT [x, y] H Q := ⟨size2, k⟩
theorem w_newT3 (k : NewT [x, y, z] H Q) : [x, y, z].length ≤ sizeLine ∧ NewT [x, y, z] H Q := ⟨size3, k⟩
theorem w_newL0 (k : NewL [] H Q) : ([] : List V).length ≤ sizeLine ∧ NewL [] H Q := ⟨size0, k⟩
theorem w_newL1 (k : NewL [x] H Q) : [x].length ≤ sizeLine ∧ NewL [x] H Q := ⟨size1, k⟩
theorem w_newL2 (k : NewL [x, y] H Q) : [x, y].length ≤ sizeLine ∧ NewL [x, y] H Q := ⟨size2, k⟩
theorem w_newL3 (k : NewL [x, y, z] H Q) : [x, y, z].length ≤ sizeLine ∧ NewL [x, y, z] H Q := ⟨size3, k⟩
/-- a tuple against the empty one -/
theorem w_neT0 (h1 : SqT K H p (VI ns)) (h2 : H q = some (.tup [])) (k : Q (.bl (!decide (ns = []))) H) : rNeD K (.ref p) (.ref q) H Q := w_neT h1 (nil_t h2) k
theorem w_eqT0 (h1 : SqT K H p (VI ns)) (h2 : H q = some (.tup [])) (k : Q (.bl (decide (ns = []))) H) : rEqD K (.ref p) (.ref q) H Q := w_eqT h1 (nil_t h2) k
theorem w_neL0 (h1 : SqL K H p (VI ns)) (h2 : H q = some (.lst [])) (k : Q (.bl (!decide (ns = []))) H) : rNeD K (.ref p) (.ref q) H Q := w_neL h1 (nil_l h2) k
theorem w_eqL0 (h1 : SqL K H p (VI ns)) (h2 : H q = some (.lst [])) (k : Q (.bl (decide (ns = []))) H) : rEqD K (.ref p) (.ref q) H Q := w_eqL h1 (nil_l h2) k
end
/-- a comprehension that changes nothing but its own list -/
theorem lc_ci {J : It} {n : Nat} {G : Hp → Prop} {Y : Nat → Hp → V → Hp → Prop} (L : Nat → List V) (w : Walk J n G Y) {g : TG} {tt : TT} {te : TE} {vs : List Nat} {σ : L2.St} {H1 : Hp} {D : Addr} {Qd : Hp → Prop} (hD : H1 D = none) (hG : ∀ H', Same H1 H' → G H')
    (hs : ∀ i x H' Hy, i < n → CI H1 D L i H' → Same H1 H' → Y i H' x Hy → g x (wipe σ vs) Hy fun σ2 H2 => wipe σ2 vs = wipe σ vs ∧ tt σ2 H2 fun b H3 =>
      if b = true then te σ2 H3 fun y H4 => ∃ acc, H4 D = some (.lst acc) ∧ acc.length < sizeLine ∧ CI H1 D L (i + 1) (upd H4 D (.lst (acc ++ [y]))) else CI H1 D L (i + 1) H3)
    (hd : ∀ H', Same H1 H' → H' D = some (.lst (L n)) → Qd H') (h0 : L 0 = [] := by rfl) :
    ∃ W : Nat → Nat → Hp → Prop, (∃ m, W 0 m (upd H1 D (.lst []))) ∧ ∀ i m H, W i m H →
      (J.stop i H ∧ Qd H) ∨ (J.go i H ∧ ∃ Nx : Hp → Prop, (∀ H', Nx H' → ∃ m', m' < m ∧ W (i + 1) m' H') ∧ ∀ x H', J.yld i H x H' → g x (wipe σ vs) H' fun σ2 H2 => wipe σ2 vs = wipe σ vs ∧ tt σ2 H2 fun b H3 =>
        if b = true then te σ2 H3 fun y H4 => ∃ acc, H4 D = some (.lst acc) ∧ acc.length < sizeLine ∧ Nx (upd H4 D (.lst (acc ++ [y]))) else Nx H3) :=
  lc_it w (CI H1 D L) (ci_start hD h0) (fun i H' _ p => hG H' p.sm) (fun i x H' Hy hi p y => hs i x H' Hy hi p p.sm y) (fun H' p => hd H' p.sm p.at_)
/-- over range(n) -/
theorem lc_rci {n : Nat} (L : Nat → List V) {g : TG} {tt : TT} {te : TE} {vs : List Nat} {σ : L2.St} {H1 : Hp} {D : Addr} {Qd : Hp → Prop} (hD : H1 D = none)
    (hs : ∀ i H', i < n → CI H1 D L i H' → Same H1 H' → g (.int (i : Int)) (wipe σ vs) H' fun σ2 H2 => wipe σ2 vs = wipe σ vs ∧ tt σ2 H2 fun b H3 =>
      if b = true then te σ2 H3 fun y H4 => ∃ acc, H4 D = some (.lst acc) ∧ acc.length < sizeLine ∧ CI H1 D L (i + 1) (upd H4 D (.lst (acc ++ [y]))) else CI H1 D L (i + 1) H3)
    (hd : ∀ H', Same H1 H' → H' D = some (.lst (L n)) → Qd H') (h0 : L 0 = [] := by rfl) :
    ∃ W : Nat → Nat → Hp → Prop, (∃ m, W 0 m (upd H1 D (.lst []))) ∧ ∀ i m H, W i m H →
      ((Itr 0 n).stop i H ∧ Qd H) ∨ ((Itr 0 n).go i H ∧ ∃ Nx : Hp → Prop, (∀ H', Nx H' → ∃ m', m' < m ∧ W (i + 1) m' H') ∧ ∀ x H', (Itr 0 n).yld i H x H' → g x (wipe σ vs) H' fun σ2 H2 => wipe σ2 vs = wipe σ vs ∧ tt σ2 H2 fun b H3 =>
        if b = true then te σ2 H3 fun y H4 => ∃ acc, H4 D = some (.lst acc) ∧ acc.length < sizeLine ∧ Nx (upd H4 D (.lst (acc ++ [y]))) else Nx H3) :=
  lc_ci L walk_range hD (fun _ _ => trivial) (fun i x H' Hy hi p sm y => by
    obtain ⟨rfl, rfl⟩ := y
    have e : (fun i : Nat => V.int (0 + (i : Int))) i = V.int (i : Int) := congrArg V.int (by omega)
    rw [e]
    exact hs i _ hi p sm) hd h0
theorem take_snoc (a : List Int) {i : Nat} (h : i < a.length) : a.take (i + 1) = a.take i ++ [a.getD i 0] := by
  rw [List.take_succ, List.getD_eq_getElem?_getD, List.getElem?_eq_getElem h] <;> rfl
theorem w_ixIn {K : PySem.W.Frag} {H : Hp} {Q : VK} {p : Addr} {ns : List Int} {i : Nat} (h : SqL K H p (VI ns)) (h1 : i < ns.length) (q : Q (.int (ns.getD i 0)) H) : rIxL K (.ref p) (.int (i : Int)) H Q := w_ixI (i := (i : Int)) h (by omega) (by omega) (by rwa [Int.toNat_natCast])
theorem w_ixTn {K : PySem.W.Frag} {H : Hp} {Q : VK} {p : Addr} {ns : List Int} {i : Nat} (h : SqT K H p (VI ns)) (h1 : i < ns.length) (q : Q (.int (ns.getD i 0)) H) : rIxT K (.ref p) (.int (i : Int)) H Q := w_ixIT (i := (i : Int)) h (by omega) (by omega) (by rwa [Int.toNat_natCast])
def Strm (K : PySem.W.Frag) (H : Hp) (r : Addr) (fr lp : List Int) : Prop := ∃ a b, SqT K H r [.ref a, .ref b] ∧ SqT K H a (VI fr) ∧ SqT K H b (VI lp)
theorem Strm.to {K : PySem.W.Frag} {H H' : Hp} {r : Addr} {fr lp : List Int} (e : Same H H') (h : Strm K H r fr lp) : Strm K H' r fr lp := by
  obtain ⟨a, b, h1, h2, h3⟩ := h
  exact ⟨a, b, Same.seqT e h1, Same.seqT e h2, Same.seqT e h3⟩
theorem ty_lst {K : PySem.W.Frag} {H : Hp} {p : Addr} {xs : List V} (h : H p = some (.lst xs)) : tyV K "list" (.ref p) H := .inl ⟨rfl, xs, SqL.of h⟩
theorem w_and2 {A B : Prop} (h : A) (k : B) : A ∧ B := ⟨h, k⟩
def rMx2 : List V → Hp → VK → Prop := fun xs H Q => ∃ i j : Int, xs = [.int i, .int j] ∧ Q (.int (if j > i then j else i)) H
def rMn2 : List V → Hp → VK → Prop := fun xs H Q => ∃ i j : Int, xs = [.int i, .int j] ∧ Q (.int (if j < i then j else i)) H
theorem call_mx2 {X : Cx} (hc : X.calm = true) : CallR X (.builtin "max") rMx2 := call_max2 hc
theorem call_mn2 {X : Cx} (hc : X.calm = true) : CallR X (.builtin "min") rMn2 := call_min2 hc
theorem w_mx2 {H : Hp} {Q : VK} {i j : Int} (k : Q (.int (max i j)) H) : rMx2 [.int i, .int j] H Q := ⟨i, j, rfl, by
  have e : (if j > i then j else i) = max i j := by
    by_cases h : j > i
    · rw [if_pos h]; omega
    · rw [if_neg h]; omega
  rw [e]; exact k⟩
theorem w_mn2 {H : Hp} {Q : VK} {i j : Int} (k : Q (.int (min i j)) H) : rMn2 [.int i, .int j] H Q := ⟨i, j, rfl, by
  have e : (if j < i then j else i) = min i j := by
    by_cases h : j < i
    · rw [if_pos h]; omega
    · rw [if_neg h]; omega
  rw [e]; exact k⟩
end K45
/-! #### K45Tool3 -/
namespace K45
open PySem PySem.Spec PyProof.Rows L2
theorem u1 {n : Nat} (h : n + 64 < cLine) : n + 1 < cLine := by omega
/-! ### dicts of ints -/
def oV : Option Int → V
  | none => .non
  | some x => .int x
def DGn (n : Nat) (H : Hp) (a : Addr) (g : Nat → Option Int) : Prop := ∃ kvs : List (Key × V), H a = some (.dK kvs) ∧ kvs.length ≤ n ∧ ∀ i : Nat, valV kvs (.inl (i : Int)) = (g i).map V.int
abbrev DG (H : Hp) (a : Addr) (g : Nat → Option Int) : Prop := DGn 100 H a g
theorem DGn.to {n : Nat} {H H' : Hp} {a : Addr} {g : Nat → Option Int} (e : Same H H') (h : DGn n H a g) : DGn n H' a g := by
  obtain ⟨kvs, h1, h2⟩ := h
  exact ⟨kvs, e _ _ h1, h2⟩
theorem DGn.mono {n m : Nat} {H : Hp} {a : Addr} {g : Nat → Option Int} (h : DGn n H a g) (hn : n ≤ m) : DGn m H a g := by
  obtain ⟨kvs, h1, h2, h3⟩ := h
  exact ⟨kvs, h1, Nat.le_trans h2 hn, h3⟩
theorem DG.to {H H' : Hp} {a : Addr} {g : Nat → Option Int} (e : Same H H') (h : DG H a g) : DG H' a g := DGn.to e h
theorem DGn.put {n : Nat} {H : Hp} {a : Addr} {g : Nat → Option Int} (h : DGn n H a g) (hn : n ≤ 100) (i : Nat) (v : Int) : ∃ H', DPut H a (.int (i : Int)) (.int v) H' ∧ DGn (n + 1) H' a (fun j => if j = i then some v else g j) ∧ ∀ y u, H y = some u → y ≠ a → H' y = some u := by
  obtain ⟨kvs, h1, h2, h3⟩ := h
  refine ⟨_, DPut.k (k := .inl (i : Int)) h1 (Nat.lt_of_le_of_lt (Nat.le_trans h2 hn) (by decide)), ⟨_, upd_same, Nat.le_trans (length_putK _ _ _) (Nat.succ_le_succ h2), fun j => ?_⟩, fun y u e ne => by rw [upd_ne ne]; exact e⟩
  rw [valV_put, h3 j]
  show _ = (if j = i then some v else g j).map V.int
  by_cases c : j = i
  · subst c
    rw [if_pos rfl, if_pos rfl] <;> rfl
  · rw [if_neg c, if_neg (fun z => c (by injection z with z; omega))]
theorem DG.dget {H : Hp} {a : Addr} {g : Nat → Option Int} (h : DG H a g) (i : Nat) : DGet H a (.int (i : Int)) ((g i).map V.int) := by
  obtain ⟨kvs, h1, _, h2⟩ := h
  have e := DGet.k (k := .inl (i : Int)) h1
  rw [h2 i] at e
  exact e
theorem DG.isD {H : Hp} {a : Addr} {g : Nat → Option Int} (h : DG H a g) : IsD H a := by
  obtain ⟨kvs, h1, _⟩ := h
  exact .inl ⟨kvs, .inl h1⟩
section
variable {K : PySem.W.Frag} {σ : L2.St} {H : Hp} {Q : VK} {td ty tx : TE}
theorem w_dget1 (q : td σ H fun x H1 => ∃ a g, x = .ref a ∧ DG H1 a g ∧ ty σ H1 fun y H2 => ∃ i : Nat, y = .int (i : Int) ∧ DG H2 a g ∧ Q (oV (g i)) H2)
    (mono : ∀ (Q Q' : VK) H, (∀ v H', Q v H' → Q' v H') → td σ H Q → td σ H Q') (mono2 : ∀ (Q Q' : VK) H, (∀ v H', Q v H' → Q' v H') → ty σ H Q → ty σ H Q') : tDGet1 td ty σ H Q := by
  refine mono _ _ _ (fun x H1 h => ?_) q
  obtain ⟨a, g, rfl, d, h⟩ := h
  refine ⟨a, rfl, d.isD, mono2 _ _ _ (fun y H2 h => ?_) h⟩
  obtain ⟨i, rfl, d2, h⟩ := h
  refine ⟨_, d2.dget i, ?_⟩
  cases e : g i with
  | none => rw [e] at h; exact h
  | some z => rw [e] at h; exact h
theorem w_dget2 (q : td σ H fun x H1 => ∃ a g, x = .ref a ∧ DG H1 a g ∧ ty σ H1 fun y H2 => tx σ H2 fun z H3 => ∃ (i : Nat) (d : Int), y = .int (i : Int) ∧ z = .int d ∧ DG H3 a g ∧ Q (.int ((g i).getD d)) H3)
    (mono : ∀ (Q Q' : VK) H, (∀ v H', Q v H' → Q' v H') → td σ H Q → td σ H Q') (mono2 : ∀ (Q Q' : VK) H, (∀ v H', Q v H' → Q' v H') → ty σ H Q → ty σ H Q') (mono3 : ∀ (Q Q' : VK) H, (∀ v H', Q v H' → Q' v H') → tx σ H Q → tx σ H Q') : tDGet2 td ty tx σ H Q := by
  refine mono _ _ _ (fun x H1 h => ?_) q
  obtain ⟨a, g, rfl, d, h⟩ := h
  refine ⟨a, rfl, d.isD, mono2 _ _ _ (fun y H2 h => mono3 _ _ _ (fun z H3 h => ?_) h) h⟩
  obtain ⟨i, d', rfl, rfl, d2, h⟩ := h
  refine ⟨_, d2.dget i, ?_⟩
  cases e : g i with
  | none => rw [e] at h; exact h
  | some z => rw [e] at h; exact h
theorem mono_var {n : Nat} : ∀ (Q Q' : VK) H, (∀ v H', Q v H' → Q' v H') → tVar n σ H Q → tVar n σ H Q' := fun Q Q' H h q => by
  obtain ⟨v, e, q⟩ := q
  exact ⟨v, e, h _ _ q⟩
theorem mono_c {v : V} : ∀ (Q Q' : VK) H, (∀ v H', Q v H' → Q' v H') → tC v σ H Q → tC v σ H Q' := fun Q Q' H h q => h _ _ q
theorem mono_plus {n : Nat} {v : V} {g : Int → Int → V} : ∀ (Q Q' : VK) H, (∀ v H', Q v H' → Q' v H') → tOp (rI0 g) (tVar n) (tC v) σ H Q → tOp (rI0 g) (tVar n) (tC v) σ H Q' := fun Q Q' H h q => by
  obtain ⟨u, e, i, j, e1, e2, q⟩ := q
  exact ⟨u, e, i, j, e1, e2, h _ _ q⟩
/-- d.get(x): a slot's dict, at a slot, a constant or slot + constant -/
theorem w_dg1v {n m : Nat} (q : tVar n σ H fun x H1 => ∃ a g, x = .ref a ∧ DG H1 a g ∧ tVar m σ H1 fun y H2 => ∃ i : Nat, y = .int (i : Int) ∧ DG H2 a g ∧ Q (oV (g i)) H2) : tDGet1 (tVar n) (tVar m) σ H Q := w_dget1 q mono_var mono_var
theorem w_dg1p {n m : Nat} {v : V} {g : Int → Int → V} (q : tVar n σ H fun x H1 => ∃ a g', x = .ref a ∧ DG H1 a g' ∧ tOp (rI0 g) (tVar m) (tC v) σ H1 fun y H2 => ∃ i : Nat, y = .int (i : Int) ∧ DG H2 a g' ∧ Q (oV (g' i)) H2) : tDGet1 (tVar n) (tOp (rI0 g) (tVar m) (tC v)) σ H Q := w_dget1 q mono_var mono_plus
theorem w_dg2c {n m : Nat} {v : V} (q : tVar n σ H fun x H1 => ∃ a g, x = .ref a ∧ DG H1 a g ∧ tC v σ H1 fun y H2 => tVar m σ H2 fun z H3 => ∃ (i : Nat) (d : Int), y = .int (i : Int) ∧ z = .int d ∧ DG H3 a g ∧ Q (.int ((g i).getD d)) H3) : tDGet2 (tVar n) (tC v) (tVar m) σ H Q := w_dget2 q mono_var mono_c mono_var
theorem w_dg2p {n m : Nat} {v : V} {g : Int → Int → V} (q : tVar n σ H fun x H1 => ∃ a g', x = .ref a ∧ DG H1 a g' ∧ tOp (rI0 g) (tVar m) (tC v) σ H1 fun y H2 => tVar l σ H2 fun z H3 => ∃ (i : Nat) (d : Int), y = .int (i : Int) ∧ z = .int d ∧ DG H3 a g' ∧ Q (.int ((g' i).getD d)) H3) : tDGet2 (tVar n) (tOp (rI0 g) (tVar m) (tC v)) (tVar l) σ H Q := w_dget2 q mono_var mono_plus mono_var
theorem w_dg2pc {n m : Nat} {v c : V} {g : Int → Int → V} (q : tVar n σ H fun x H1 => ∃ a g', x = .ref a ∧ DG H1 a g' ∧ tOp (rI0 g) (tVar m) (tC v) σ H1 fun y H2 => tC c σ H2 fun z H3 => ∃ (i : Nat) (d : Int), y = .int (i : Int) ∧ z = .int d ∧ DG H3 a g' ∧ Q (.int ((g' i).getD d)) H3) : tDGet2 (tVar n) (tOp (rI0 g) (tVar m) (tC v)) (tC c) σ H Q := w_dget2 q mono_var mono_plus mono_c
theorem w_dg2vc {n m : Nat} {c : V} (q : tVar n σ H fun x H1 => ∃ a g', x = .ref a ∧ DG H1 a g' ∧ tVar m σ H1 fun y H2 => tC c σ H2 fun z H3 => ∃ (i : Nat) (d : Int), y = .int (i : Int) ∧ z = .int d ∧ DG H3 a g' ∧ Q (.int ((g' i).getD d)) H3) : tDGet2 (tVar n) (tVar m) (tC c) σ H Q := w_dget2 q mono_var mono_var mono_c
theorem w_orT {ta tb : TE} (q : ta σ H fun x H1 => ∃ k, TruV K x H1 k ∧ if k = true then Q x H1 else tb σ H1 Q) : tOrT K ta tb σ H Q := q
/-- (gap or 0) -/
theorem w_orI {x : Option Int} {A : Hp → Prop} (q : Q (.int (x.getD 0)) H) (h0 : Q (.int 0) H → A H) : ∃ k, TruV K (oV x) H k ∧ if k = true then Q (oV x) H else A H := by
  cases x with
  | none => exact ⟨false, rfl, by rw [if_neg Bool.false_ne_true]; exact h0 q⟩
  | some i =>
    by_cases e : i = 0
    · subst e
      exact ⟨false, rfl, by rw [if_neg Bool.false_ne_true]; exact h0 q⟩
    · exact ⟨true, by show true = (i != 0); simp [e], by rw [if_pos rfl]; exact q⟩
theorem oV_some (x : Int) : oV (some x) = .int x := rfl
theorem oV_none : oV none = .non := rfl
theorem w_orInt {x : Int} {A B : Prop} (q : B) (h : x = 0 → B → A) : ∃ k, TruV K (.int x) H k ∧ if k = true then B else A := by
  by_cases e : x = 0
  · refine ⟨false, ?_, by rw [if_neg Bool.false_ne_true]; exact h e q⟩
    subst e
    rfl
  · exact ⟨true, by show true = (x != 0); simp [e], by rw [if_pos rfl]; exact q⟩
theorem w_orNon {A B : Prop} (q : A) : ∃ k, TruV K .non H k ∧ if k = true then B else A := ⟨false, rfl, by rw [if_neg Bool.false_ne_true]; exact q⟩
theorem w_isNo {x : Option Int} (q : Q (.bl (decide (x = none))) H) : kIsN (oV x) .non H Q := ⟨rfl, by
  cases x with
  | none => exact q
  | some i => exact q⟩
theorem w_notNo {x : Option Int} (q : Q (.bl (!decide (x = none))) H) : kNotN (oV x) .non H Q := ⟨rfl, by
  cases x with
  | none => exact q
  | some i => exact q⟩
theorem w_gsub {to ti : TE} {t : TSet} {v : V} {Q : L2.St → Hp → Prop} (q : to σ H fun o H1 => ti σ H1 fun i H2 => t o i v H2 fun H3 => Q σ H3) : gSub to ti t v σ H Q := q
end
/-! ### rows of twelve -/
def rowL (L : Nat → Int) : List Int := (List.range 12).map L
theorem rowL_len (L : Nat → Int) : (rowL L).length = 12 := by unfold rowL; simp
theorem rowL_get (L : Nat → Int) {i : Nat} (h : i < 12) : (rowL L).getD i 0 = L i := by
  unfold rowL
  rw [List.getD_eq_getElem?_getD, List.getElem?_map, List.getElem?_range h] <;> rfl
theorem rowL_set (L : Nat → Int) {i : Nat} (h : i < 12) (v : Int) : (VI (rowL L)).set i (.int v) = VI (rowL (put L i v)) := by
  apply List.ext_getElem?
  intro j
  rw [List.getElem?_set]
  unfold rowL VI
  by_cases e : i = j
  · subst e
    rw [if_pos rfl, if_pos (by simpa using h), List.getElem?_map, List.getElem?_map, List.getElem?_range h]
    show _ = some (V.int (put L i v i))
    rw [put_same]
  · rw [if_neg e, List.getElem?_map, List.getElem?_map, List.getElem?_map, List.getElem?_map]
    by_cases hj : j < 12
    · rw [List.getElem?_range hj]
      show some (V.int (L j)) = some (V.int (put L i v j))
      rw [put_ne (fun z => e z.symm)]
    · rw [List.getElem?_eq_none (by simp; omega)] <;> rfl
theorem rowL_const (c : Int) : List.replicate 12 (V.int c) = VI (rowL fun _ => c) := rfl
/-- two rows being changed -/
structure RS (H0 : Hp) (lo hi : Addr) (H : Hp) (L U : Nat → Int) : Prop where
  l : H lo = some (.lst (VI (rowL L)))
  u : H hi = some (.lst (VI (rowL U)))
  keep : ∀ a o, H0 a = some o → a ≠ lo → a ≠ hi → H a = some o
  ne : lo ≠ hi
  lo0 : ∃ o, H0 lo = some o
  hi0 : ∃ o, H0 hi = some o
section
variable {K : PySem.W.Frag} {H0 H H' : Hp} {lo hi p : Addr} {L U : Nat → Int} {Q : VK} {i : Int} {v : Int}
theorem RS.to (r : RS H0 lo hi H L U) (s : Same H H') : RS H0 lo hi H' L U := ⟨s _ _ r.l, s _ _ r.u, fun a o h h1 h2 => s _ _ (r.keep a o h h1 h2), r.ne, r.lo0, r.hi0⟩
theorem RS.free (r : RS H0 lo hi H L U) {a : Addr} (h : H a = none) : H0 a = none := by
  cases e : H0 a with
  | none => rfl
  | some o =>
    by_cases h1 : a = lo
    · subst h1; rw [r.l] at h; cases h
    · by_cases h2 : a = hi
      · subst h2; rw [r.u] at h; cases h
      · rw [r.keep a o e h1 h2] at h; cases h
theorem RS.dg (r : RS H0 lo hi H L U) {a : Addr} {g : Nat → Option Int} (h : DG H0 a g) (h1 : a ≠ lo) (h2 : a ≠ hi) : DG H a g := by
  obtain ⟨kvs, h3, h4⟩ := h
  exact ⟨kvs, r.keep _ _ h3 h1 h2, h4⟩
/-- the rows are new: nothing old is changed -/
theorem RS.same (r : RS H0 lo hi H L U) {H1 : Hp} (s : Same H1 H0) (h1 : H1 lo = none) (h2 : H1 hi = none) : Same H1 H := fun a o e => r.keep a o (s _ _ e) (ne_of_none e h1) (ne_of_none e h2)
theorem RS.getL (r : RS H0 lo hi H L U) (h0 : 0 ≤ i) (h1 : i < 12) (q : Q (.int (L i.toNat)) H) : rIxL K (.ref lo) (.int i) H Q :=
  w_ixI (ns := rowL L) (SqL.of r.l) h0 (by rw [rowL_len]; exact h1) (by rw [rowL_get L (by omega)]; exact q)
theorem RS.getU (r : RS H0 lo hi H L U) (h0 : 0 ≤ i) (h1 : i < 12) (q : Q (.int (U i.toNat)) H) : rIxL K (.ref hi) (.int i) H Q :=
  w_ixI (ns := rowL U) (SqL.of r.u) h0 (by rw [rowL_len]; exact h1) (by rw [rowL_get U (by omega)]; exact q)
theorem ix12 {L : Nat → Int} (h0 : 0 ≤ i) (h1 : i < 12) : ixN (VI (rowL L)).length i = some i.toNat := by
  unfold ixN
  rw [if_pos h0, List.length_map, rowL_len, if_pos (by omega)]
theorem RS.setL {Q : Hp → Prop} (r : RS H0 lo hi H L U) (h0 : 0 ≤ i) (h1 : i < 12) (q : ∀ H', RS H0 lo hi H' (put L i.toNat v) U → Q H') : rSetL (.ref lo) (.int i) (.int v) H Q := by
  refine ⟨lo, _, i, i.toNat, rfl, rfl, r.l, ix12 h0 h1, q _ ⟨?_, ?_, ?_, r.ne, r.lo0, r.hi0⟩⟩
  · rw [upd_same, rowL_set L (by omega)]
  · rw [upd_ne r.ne.symm]; exact r.u
  · intro a o h h3 h4
    rw [upd_ne h3]; exact r.keep a o h h3 h4
theorem RS.setU {Q : Hp → Prop} (r : RS H0 lo hi H L U) (h0 : 0 ≤ i) (h1 : i < 12) (q : ∀ H', RS H0 lo hi H' L (put U i.toNat v) → Q H') : rSetL (.ref hi) (.int i) (.int v) H Q := by
  refine ⟨hi, _, i, i.toNat, rfl, rfl, r.u, ix12 h0 h1, q _ ⟨?_, ?_, ?_, r.ne, r.lo0, r.hi0⟩⟩
  · rw [upd_ne r.ne]; exact r.l
  · rw [upd_same, rowL_set U (by omega)]
  · intro a o h h3 h4
    rw [upd_ne h4]; exact r.keep a o h h3 h4
end
end K45
/-! #### K45Tool4 -/
namespace K45
open PySem PySem.Spec PyProof.Rows L2
/-! ### a static method, called by its class -/
structure SMet (K : PySem.W.Frag) (C : Addr) (mc : Value) (m : Str) (p g : Addr) : Prop where
  at_ : PySem.W.findCls K (.ref C) mc m = some (.get (.builtin "staticmethod.__get__") (.ref p) .none (.ref C))
  rc : ∃ rest, PySem.W.recIn K p "staticmethod" = some (.ref g :: rest)
  kp : PySem.W.keepIn K (.ref g) = true
def tSMeth (C : Addr) (sp : Sp) (ta : TE) (t : TA) : TE := fun σ H Q => ta σ H fun x H1 => x = .ref C ∧ t σ H1 fun vs H2 => sp vs H2 Q E0
theorem w_sm {C : Addr} {sp : Sp} {t : TA} {σ : L2.St} {H : Hp} {Q : VK} (q : t σ H fun vs H2 => sp vs H2 Q E0) : tSMeth C sp (tC (.ref C)) t σ H Q := ⟨rfl, q⟩
section
variable {X : Cx} {k : Nat} {C p g : Addr} {mc : Value} {sp : Sp} {o e : Expr} {es : List Expr} {m : Str} {pos apos : Pos} {ta : TE} {t : TA} {pl : Sem Bool} {fd : FuncData} {ps : List Str}
theorem pe_smeth (he : PE X o ta) (r : ClX.CRead X.K C mc) (c : SMet X.K C mc m p g) (F : FnOk X.prog X.w X.K X.mg X.base CX0 k g fd ps sp) (hb : Binds X.K fd ps []) (hr : Room k X.A) (ha : PA X (e :: es) t)
    (hst : starEach (e :: es) X.env = (false, eval e X.env) :: starEach es X.env := by rfl) (hpl : (backTo pos (starEach es X.env)).any (·.1) = false := by rfl)
    (ht : eval (.Call (.Attribute o m apos) (e :: es) [] pos) X.env = (do
      let ov ← eval o X.env
      standAt apos.atName
      let (f, first) ← holding [ov] (getMethod ov m pl)
      callWith pos f first (backTo pos (starEach (e :: es) X.env)) (backToKw pos (keywordEach [] X.env))) := by rfl) :
    PE X (.Call (.Attribute o m apos) (e :: es) [] pos) (tSMeth C sp ta t) := by
  refine ⟨fun pins s σ H Q I h => ?_⟩
  refine PySem.W.methodCall_KW (pl := pl) (thn (he.run pins s σ H _ I h) fun u s1 ⟨x, H1, I1, rx, ex, q⟩ => ?_) ht
  subst ex
  obtain rfl : u = Value.ref C := rx
  obtain ⟨rest, hp⟩ := c.rc
  refine PySem.W.method_cls I1.kIn r.ga (PySem.W.cls_bind I1.kIn r.rd c.at_ (wpAny_call (PySem.W.sm_get (s := { s1 with toks := s1.toks + 1 }) I1.kIn hp (PySem.W.handed_on rfl ?_))))
  have I2 : Inv X pins σ H1 { s1 with toks := s1.toks + 1 } := I1.tok _
  refine PySem.W.callWith_K (h₀ := X.base) I2.ok.mod.kin c.kp (thn (ha.run pos pins _ σ H1 _ I2 q) fun us s3 ⟨vs, H2, I3, rv, q2⟩ => ⟨I3.kIn, ?_⟩) hst hpl
  have q3 : sp (vs ++ []) H2 Q E0 := by rw [List.append_nil]; exact q2
  exact run_fn (ds := []) F hr hb .nil pass0 I3 rv q3
end
/-! ### INDEXES.index -/
def rIdx (K : PySem.W.Frag) : V → List V → Hp → VK → Prop := fun x xs H Q => ∃ p, ∃ ys : List Str, ∃ z j, x = .ref p ∧ xs = [.str z] ∧ SqT K H p (ys.map V.str) ∧ ys[j]? = some z ∧ (∀ m, m < j → ys[m]? ≠ some z) ∧ Q (.int (j : Nat)) H
theorem pe_idxK {X : Cx} {K : PySem.W.Frag} {o e1 : Expr} {to : TE} {t : TA} {apos cpos : Pos} (e : X.K = K) (ho : PE X o to) (ha : PA X [e1] t)
    (hbase : attributeBase o "index" X.env (eval o X.env) = eval o X.env := by rfl)
    (hfew : ((backTo cpos (starEach [e1] X.env)).all (fun x => !x.1) && (backToKw cpos (keywordEach [] X.env)).all (fun x => x.1.isSome)
      && decide (([e1] : List Expr).length + ([] : List Keyword).length + (if ([] : List Keyword).isEmpty then 0 else 1) < 30)) = true := by rfl)
    (hline : (apos.endLine == cpos.line) = true := by rfl) (hs : starEach [e1] X.env = (false, eval e1 X.env) :: starEach [] X.env := by rfl) (hplain : (backTo cpos (starEach [] X.env)).any (·.1) = false := by rfl) :
    PE X (.Call (.Attribute o "index" apos) [e1] [] cpos) (tBM K "tuple" (rIdx K) to t) := by
  subst e
  exact pe_bm PySem.F.plainAttrs_tuple PySem.F.slot_tuple_index PySem.F.type_tuple_index mt_tup_index ho ha hbase hfew hline hs hplain
/-! ### tuples, any kind -/
section
variable {K : PySem.W.Frag} {H : Hp} {Q : VK} {p q : Addr} {xs ys : List V}
theorem w_slT {lo hi : Option Int} (h : SqT K H p xs) (k : ∀ q H', Same H H' → SqT K H' q (cutV xs lo hi) → Q (.ref q) H') : rSlA K (.ref p) lo hi H Q := by
  refine ⟨p, xs, rfl, h, fun e => ?_, fun e => new_at fun q H' hq sm hh => k q H' sm (SqT.of hh)⟩
  refine k p H (Same.refl _) ?_
  have e2 : cutV xs lo hi = xs := by
    unfold cutV
    rw [e.1, e.2, List.drop_zero, Nat.sub_zero, List.take_length]
  rw [e2]; exact h
theorem w_catT (hp : SqT K H p xs) (hq : SqT K H q ys) (hl : xs.length + ys.length ≤ sizeLine) (k : ∀ r H', Same H H' → SqT K H' r (xs ++ ys) → Q (.ref r) H') : rCatA K (.ref p) (.ref q) H Q := by
  refine ⟨p, q, xs, ys, rfl, rfl, hp, hq, hl, fun e => ?_, fun _ e => ?_, fun _ _ => new_at fun r H' hr sm hh => k r H' sm (SqT.of hh)⟩
  · subst e; exact k q H (Same.refl _) hq
  · subst e; exact k p H (Same.refl _) (by rw [List.append_nil]; exact hp)
end
/-! ### names of items -/
def ixs : List Str := ["0", "1", "2", "3", "4", "5", "6", "7", "8", "9", "10", "11"]
def nmW : List Str := ["w0", "w1", "w2", "w3", "w4", "w5", "w6", "w7", "w8", "w9", "w10", "w11"]
def nmD : List Str := ["d0", "d1", "d2", "d3", "d4", "d5", "d6", "d7", "d8", "d9", "d10", "d11"]
def nm (d : Bool) (i : Nat) : Str := if d then nmD.getD i "" else nmW.getD i ""
def ix (i : Nat) : Str := ixs.getD i ""
theorem nm_facts : ∀ d : Bool, ∀ i : Fin 12, cutS (nm d i) none (some 1) = (if d = true then ("d" : Str) else ("w" : Str)) ∧ cutS (nm d i) (some 1) none = ix i ∧ (nm d i).length ≤ sizeLine ∧ ixs[i.val]? = some (ix i) ∧ (∀ m : Fin 12, m.val < i.val → ixs[m.val]? ≠ some (ix i)) ∧
    inV (.str (ix i)) (ixs.map V.str) = true := by decide +kernel
/-! ### fields -/
theorem w_fld {K : PySem.W.Frag} {f : Str} {σ : L2.St} {H : Hp} {Q : VK} {ta : TE} (q : ta σ H fun x H1 => ∃ a C dx fs v, x = .ref a ∧ H1 a = some (.ins C dx fs) ∧ Cls K C ∧ NoAttr K C f ∧ fs.lookup f = some v ∧ Q v H1) : tFld K ta f σ H Q := q
theorem w_sfld {K : PySem.W.Frag} {f : Str} {σ : L2.St} {H : Hp} {D : Ends} {ta tv : TE} (q : tv σ H fun y H1 => ta σ H1 fun x H2 => ∃ a C dx fs, x = .ref a ∧ H2 a = some (.ins C dx fs) ∧ Cls K C ∧ NoAttr K C f ∧ fs.length < 1000 ∧
  D.nx σ (upd H2 a (.ins C dx (putF f y fs)))) : sFld K ta tv f D σ H := q
theorem upd_name (H : Hp) (x : Addr) (o : HO) : ∃ H', upd H x o = H' ∧ H' x = some o ∧ ∀ y u, H y = some u → y ≠ x → H' y = some u :=
  ⟨_, rfl, upd_same, fun y u h n => by rw [upd_ne n]; exact h⟩
/-- all but x stays -/
def But (x : Addr) (H H' : Hp) : Prop := ∀ y u, H y = some u → y ≠ x → H' y = some u
theorem But.trans {x : Addr} {H H1 H2 : Hp} (a : But x H H1) (b : But x H1 H2) : But x H H2 := fun y u h n => b y u (a y u h n) n
theorem But.same {x : Addr} {H H1 : Hp} (s : Same H H1) : But x H H1 := fun y u h _ => s y u h
theorem But.to {x a : Addr} {H H1 : Hp} {o u : HO} (b : But x H H1) (hx : H x = some o) (h : H a = some u) (n : o ≠ u) : H1 a = some u := b a u h (by rintro rfl; rw [hx] at h; exact n (Option.some.inj h))
theorem But.tup {x a C dx : Addr} {H H1 : Hp} {fs : List (Str × V)} {xs : List V} (b : But x H H1) (hx : H x = some (.ins C dx fs)) (h : H a = some (.tup xs)) : H1 a = some (.tup xs) := b.to hx h (fun z => by cases z)
theorem w_itup {K : PySem.W.Frag} {σ : L2.St} {H : Hp} {tl : TE} {R : It → Hp → Prop} (q : tl σ H fun x H1 => ∃ a, x = .ref a ∧ (∃ xs, SqT K H1 a xs) ∧ R (Itt K a) H1) : iTup K tl σ H R := q
/-! ### methods -/
structure CalM (P : Program) (w : World) (K : PySem.W.Frag) (mg : Str → Option Value) (base : Heap) (k : Nat) (C : Addr) (m : Str) (ps : List Str) (sp : Sp) : Prop where
  ok : ∃ f fd, Meth K C m f ∧ FnOk P w K mg base CX0 k f fd ps sp ∧ Binds K fd ps []
def tMethC (C : Addr) (m : Str) (sp : Sp) (ta : TE) (t : TA) : TE := fun σ H Q => ta σ H fun x H1 => ∃ a dx fs, x = .ref a ∧ H1 a = some (.ins C dx fs) ∧ fs.lookup m = none ∧
  t σ H1 fun vs H2 => sp (x :: vs) H2 Q E0
theorem w_methC {C : Addr} {m : Str} {sp : Sp} {ta : TE} {t : TA} {σ : L2.St} {H : Hp} {Q : VK} (q : ta σ H fun x H1 => ∃ a dx fs, x = .ref a ∧ H1 a = some (.ins C dx fs) ∧ fs.lookup m = none ∧
  t σ H1 fun vs H2 => sp (x :: vs) H2 Q E0) : tMethC C m sp ta t σ H Q := q
section
variable {X : Cx} {k : Nat} {C : Addr} {m : Str} {ps : List Str} {sp : Sp} {o e : Expr} {es : List Expr} {pos apos : Pos} {ta : TE} {t : TA} {pl : Sem Bool}
theorem pe_calM (he : PE X o ta) (cl : Cls X.K C) (c : CalM X.prog X.w X.K X.mg X.base k C m ps sp) (hr : Room k X.A) (ha : PA X (e :: es) t)
    (hst : starEach (e :: es) X.env = (false, eval e X.env) :: starEach es X.env := by rfl) (hpl : (backTo pos (starEach es X.env)).any (·.1) = false := by rfl)
    (ht : eval (.Call (.Attribute o m apos) (e :: es) [] pos) X.env = (do
      let ov ← eval o X.env
      standAt apos.atName
      let (f, first) ← holding [ov] (getMethod ov m pl)
      callWith pos f first (backTo pos (starEach (e :: es) X.env)) (backToKw pos (keywordEach [] X.env))) := by rfl) : PE X (.Call (.Attribute o m apos) (e :: es) [] pos) (tMethC C m sp ta t) := by
  obtain ⟨f, fd, M, F, b⟩ := c.ok
  have h := pe_meth (E := E0) (dvs := []) he cl M F hr b .nil pass0 ha hst hpl ht
  have e1 : tMeth C m sp [] E0 ta t = tMethC C m sp ta t := by
    unfold tMeth tMethC
    funext σ H Q
    congr 1
    funext x H1
    simp only [List.append_nil]
  rw [← e1]
  exact h
end
/-! ### the fits -/
structure FitC (K : PySem.W.Frag) (C : Addr) : Prop where
  cls : Cls K C
  no : ∀ f ∈ (["own_places", "own_arity", "own_rest", "own_bounds"] : List Str), NoAttr K C f
def fitF (tp : Addr) (k rest : Int) (lb : Addr) : List (Str × V) := [("own_places", .ref tp), ("own_arity", .int k), ("own_rest", .int rest), ("own_bounds", .ref lb)]
structure FitAt (K : PySem.W.Frag) (H : Hp) (C x dx tp lb : Addr) (ps : List Int) (k : Nat) (rest : Int) (b : List Int) : Prop where
  x : H x = some (.ins C dx (fitF tp (k : Int) rest lb))
  p : SqT K H tp (VI ps)
  b : H lb = some (.lst (VI b))
def Fit (K : PySem.W.Frag) (H : Hp) (C x : Addr) (ps : List Int) (k : Nat) (rest : Int) (b : List Int) : Prop := ∃ dx tp lb, FitAt K H C x dx tp lb ps k rest b
theorem FitAt.to {K : PySem.W.Frag} {H H' : Hp} {C x dx tp lb : Addr} {ps : List Int} {k : Nat} {rest : Int} {b : List Int} (e : Same H H') (h : FitAt K H C x dx tp lb ps k rest b) : FitAt K H' C x dx tp lb ps k rest b := ⟨e _ _ h.x, Same.seqT e h.p, e _ _ h.b⟩
theorem Fit.to {K : PySem.W.Frag} {H H' : Hp} {C x : Addr} {ps : List Int} {k : Nat} {rest : Int} {b : List Int} (e : Same H H') (h : Fit K H C x ps k rest b) : Fit K H' C x ps k rest b := by
  obtain ⟨dx, tp, lb, h⟩ := h
  exact ⟨dx, tp, lb, FitAt.to e h⟩
/-- a field of it -/
theorem FitAt.get {K : PySem.W.Frag} {H : Hp} {C x dx tp lb : Addr} {ps : List Int} {k : Nat} {rest : Int} {b : List Int} (h : FitAt K H C x dx tp lb ps k rest b) (c : FitC K C) {f : Str} {v : V} {A : V → Prop} (hf : f ∈ (["own_places", "own_arity", "own_rest", "own_bounds"] : List Str)) (l : (fitF tp (k : Int) rest lb).lookup f = some v) (q : A v) :
    ∃ a C dx fs v, V.ref x = .ref a ∧ H a = some (.ins C dx fs) ∧ Cls K C ∧ NoAttr K C f ∧ fs.lookup f = some v ∧ A v := ⟨x, C, dx, _, v, rfl, h.x, c.cls, c.no f hf, l, q⟩
theorem w_dnew {σ : L2.St} {H : Hp} {Q : VK} (k : ∀ p H', H p = none → Same H H' → H' p = some (.dK []) → Q (.ref p) H') : tDNewK σ H Q := new_at k
theorem dg_nil {H : Hp} {p : Addr} (h : H p = some (.dK [])) : DG H p fun _ => none := ⟨[], h, by simp, fun i => rfl⟩
def nfGo : Nat → List Int → List Int
  | 0, l => l
  | n + 1, l => if l ≠ [] ∧ l.getD (l.length - 1) 0 = 0 then nfGo n l.dropLast else l
def nf (l : List Int) : List Int := nfGo l.length l
def Norm (K : PySem.W.Frag) (H : Hp) (p : Addr) (ns : List Int) : Prop := ∃ a b, H p = some (.tup [.ref a, .ref b]) ∧ SqT K H a (VI (nf ns)) ∧ SqT K H b (VI [0])
theorem Norm.to {K : PySem.W.Frag} {H H' : Hp} {p : Addr} {ns : List Int} (e : Same H H') (h : Norm K H p ns) : Norm K H' p ns := by
  obtain ⟨a, b, h1, h2, h3⟩ := h
  exact ⟨a, b, e _ _ h1, Same.seqT e h2, Same.seqT e h3⟩
theorem Norm.but {K : PySem.W.Frag} {H H' : Hp} {p x C dx : Addr} {fs : List (Str × V)} {ns : List Int} (e : But x H H') (hx : H x = some (.ins C dx fs)) (h : Norm K H p ns) : Norm K H' p ns := by
  obtain ⟨a, b, h1, h2, h3⟩ := h
  have key : ∀ {a : Addr} {xs : List V}, SqT K H a xs → SqT K H' a xs := by
    intro a xs h
    rcases h with h | h
    · rcases h with h | ⟨o, h⟩
      · exact SqT.of (e.tup hx h)
      · exact .inl (.inr ⟨o, e.to hx h (fun z => by cases z)⟩)
    · exact .inr h
  exact ⟨a, b, e.tup hx h1, key h2, key h3⟩
/-! ### making a Schedule -/
structure CalMk (P : Program) (w : World) (K : PySem.W.Frag) (mg : Str → Option Value) (base : Heap) (k : Nat) (x : Str) (C : Addr) (n : Nat) (ks : List Str) (ps : List Str) (sp : Sp) : Prop where
  ok : ∃ f fd, Mk K C f ∧ FnOk P w K mg base CX0 k f fd ps sp ∧ KBn K fd ps (n + 1) ks (fun us ws => us ++ ws) (fun vs zs => vs ++ zs)
  g : mg x = some (.ref C)
def tMk (C : Addr) (n m : Nat) (sp : Sp) (t tk : TA) : TE := fun σ H Q => t σ H fun vs H1 => tk σ H1 fun zs H2 => vs.length = n ∧ zs.length = m ∧ ∀ x dx, H2 x = none → H2 dx = none → dx ≠ x →
  sp ((.ref x :: vs) ++ zs) (upd (upd H2 dx (.own x)) x (.ins C dx [])) (fun v H3 => v = .non ∧ Q (.ref x) H3) E0
theorem w_mk {C : Addr} {n m : Nat} {sp : Sp} {t tk : TA} {σ : L2.St} {H : Hp} {Q : VK} (q : t σ H fun vs H1 => tk σ H1 fun zs H2 => vs.length = n ∧ zs.length = m ∧ ∀ x dx, H2 x = none → H2 dx = none → dx ≠ x →
  sp ((.ref x :: vs) ++ zs) (upd (upd H2 dx (.own x)) x (.ins C dx [])) (fun v H3 => v = .non ∧ Q (.ref x) H3) E0) : tMk C n m sp t tk σ H Q := q
section
variable {X : Cx} {k n : Nat} {C : Addr} {x : Str} {ps ks : List Str} {sp : Sp} {p pos : Pos} {e : Expr} {es : List Expr} {kws : List Keyword} {t tk : TA}
theorem pe_mk (c : CalMk X.prog X.w X.K X.mg X.base k x C n ks ps sp) (hr : Room (k + 1) X.A) (ha : PA X (e :: es) t) (hkw : PK X kws tk) (hg : Gl X x := by rfl)
    (hall : (backToKw pos (keywordEach kws X.env)).all (·.1.isSome) = true := by rfl) (hks : (backToKw pos (keywordEach kws X.env)).filterMap (·.1) = ks := by rfl) (hdb : (x == ("__debug__" : Str)) = false := by decide)
    (he : starEach (e :: es) X.env = (false, eval e X.env) :: starEach es X.env := by rfl) (hpl : ((backTo pos (starEach (e :: es) X.env)).any (·.1) || (backToKw pos (keywordEach kws X.env)).any (·.1.isNone)) = false := by rfl) :
    PE X (.Call (.Name x p) (e :: es) kws pos) (tMk C n ks.length sp t tk) := by
  obtain ⟨f, fd, M, F, b⟩ := c.ok
  exact pe_makeK (E := E0) (p := p) M F hr hg c.g b pass0 ha hkw hall hks hdb he hpl
end
theorem made_same {H H3 : Hp} {x dx C : Addr} (hx : H x = none) (hd : H dx = none) (b : But x (upd (upd H dx (.own x)) x (.ins C dx [])) H3) : Same H H3 := fun y u e => by
  have n1 : y ≠ x := ne_of_none e hx
  refine b y u ?_ n1
  rw [upd_ne n1, upd_ne (ne_of_none e hd)]
  exact e
theorem made_keep {H : Hp} {x dx C : Addr} (hx : H x = none) (hd : H dx = none) : Same H (upd (upd H dx (.own x)) x (.ins C dx [])) := fun y u e => by
  rw [upd_ne (ne_of_none e hx), upd_ne (ne_of_none e hd)]
  exact e
def schF (k : Int) (ps pl : Addr) : List (Str × V) := [("own_arity", .int k), ("own_spine", .ref ps), ("own_levels", .ref pl)]
def Sch (K : PySem.W.Frag) (H : Hp) (x : Addr) (k : Int) (sp lv : List Int) : Prop := ∃ dx ps pl, H x = some (.ins (He.ga K "Schedule") dx (schF k ps pl)) ∧ Norm K H ps sp ∧ Norm K H pl lv
theorem Sch.to {K : PySem.W.Frag} {H H' : Hp} {x : Addr} {k : Int} {sp lv : List Int} (e : Same H H') (h : Sch K H x k sp lv) : Sch K H' x k sp lv := by
  obtain ⟨dx, ps, pl, h1, h2, h3⟩ := h
  exact ⟨dx, ps, pl, e _ _ h1, h2.to e, h3.to e⟩
def Items (a b : Int) (ns : List Int) : Prop := a ≤ ns.length ∧ ns.length ≤ b ∧ ∀ x ∈ ns, 0 ≤ x ∧ x ≤ 1000000
/-- (tuple(..), (0,)) -/
def Str2 (H : Hp) (s : Addr) (fr lp : List Int) : Prop := ∃ a b, H s = some (.tup [.ref a, .ref b]) ∧ H a = some (.tup (VI fr)) ∧ H b = some (.tup (VI lp))
theorem Str2.to {H H' : Hp} {s : Addr} {fr lp : List Int} (e : Same H H') (h : Str2 H s fr lp) : Str2 H' s fr lp := by
  obtain ⟨a, b, h1, h2, h3⟩ := h
  exact ⟨a, b, e _ _ h1, e _ _ h2, e _ _ h3⟩
theorem Str2.strm {K : PySem.W.Frag} {H : Hp} {s : Addr} {fr lp : List Int} (h : Str2 H s fr lp) : Strm K H s fr lp := by
  obtain ⟨a, b, h1, h2, h3⟩ := h
  exact ⟨a, b, SqT.of h1, SqT.of h2, SqT.of h3⟩
theorem Str2.but {H H' : Hp} {x C dx s : Addr} {fs : List (Str × V)} {fr lp : List Int} (e : But x H H') (hx : H x = some (.ins C dx fs)) (h : Str2 H s fr lp) : Str2 H' s fr lp := by
  obtain ⟨a, b, h1, h2, h3⟩ := h
  exact ⟨a, b, e.tup hx h1, e.tup hx h2, e.tup hx h3⟩
def spSc (K : PySem.W.Frag) : Sp := fun vs H Q _ => ∃ (x s l dx : Addr) (k : Nat) (sp lv : List Int), vs = [.ref x, .int (k : Int), .ref s, .ref l] ∧ H x = some (.ins (He.ga K "Schedule") dx []) ∧ 2 ≤ k ∧ k ≤ 9 ∧
  Str2 H s sp [0] ∧ Str2 H l lv [0] ∧ Items 0 12 sp ∧ Items 1 12 lv ∧ 1 ≤ lv.getD 0 0 ∧
  ∀ H', But x H H' → Sch K H' x (k : Int) sp lv → Q .non H'
theorem pl1 {f : Str} {v : V} : (putF f v []).length < 1000 := Nat.lt_of_le_of_lt (length_putF f v []) (by decide)
theorem pl2 {f g : Str} {v u : V} : (putF g u (putF f v [])).length < 1000 := Nat.lt_of_le_of_lt (length_putF _ _ _) (Nat.lt_of_le_of_lt (Nat.succ_le_succ (length_putF f v [])) (by decide))
theorem pl3 {f g h : Str} {v u w : V} : (putF h w (putF g u (putF f v []))).length < 1000 := Nat.lt_of_le_of_lt (length_putF _ _ _) (Nat.lt_of_le_of_lt (Nat.succ_le_succ (Nat.le_trans (length_putF _ _ _) (Nat.succ_le_succ (length_putF f v [])))) (by decide))
/-! ### dicts: walks and puts -/
theorem w_dput {σ : L2.St} {H : Hp} {D : Ends} {td ty tv : TE} (q : tv σ H fun v H1 => td σ H1 fun x H2 => ty σ H2 fun y H3 => ∃ a H4, x = .ref a ∧ DPut H3 a y v H4 ∧ D.nx σ H4) : sDPut td ty tv D σ H := q
theorem w_ik {σ : L2.St} {H : Hp} {td : TE} {R : It → Hp → Prop} (q : td σ H fun x H1 => ∃ d o, x = .ref d ∧ ((∃ kvs, H1 d = some (.frz o (.dK kvs)) ∧ R (Itk d o kvs) H1) ∨ ∃ kvs, H1 d = some (.frz o (.dT kvs)) ∧ R (Itkt d o kvs) H1)) : iKeys td σ H R := q
theorem w_iit {σ : L2.St} {H : Hp} {td : TE} {R : It → Hp → Prop} (q : td σ H fun x H1 => ∃ d o kvs, x = .ref d ∧ H1 d = some (.frz o (.dK kvs)) ∧ R (Iti d o kvs) H1) : iItems td σ H R := q
/-- a lock, taken off -/
theorem lock_back {H HL H' : Hp} {d : Addr} {u : HO} (h : H d = some u) (b : But d H HL) (s : Same HL H') : Same H (upd H' d u) := fun y w e => by
  by_cases c : y = d
  · subst c
    rw [upd_same, ← h, e]
  · rw [upd_ne c]
    exact s _ _ (b y w e c)
theorem w_eqS {H : Hp} {Q : VK} {a b : Str} (q : Q (.bl (decide (V.str a = V.str b))) H) : rEq (.str a) (.str b) H Q := ⟨rfl, q⟩
theorem nm_more : ∀ d : Bool, ∀ i : Fin 12, decide (V.str (nm d i) = V.str "w0") = (!d && decide (i.val = 0)) ∧ (nm d i).cps.toList[0]? = some (if d then 100 else 119) := by decide +kernel
theorem nm_d : ∀ d : Bool, decide (V.str ⟨#[if d then 100 else 119]⟩ = V.str "d") = d := by decide +kernel
abbrev Its := List (Bool × Nat × Int)
def kvOf (its : Its) : List (Key × V) := its.map fun t => (.inr (nm t.1 t.2.1), .int t.2.2)
def addIt (b : Bool) (g : Nat → Option Int) (t : Bool × Nat × Int) : Nat → Option Int := if t.1 = b then fun j => if j = t.2.1 then some t.2.2 else g j else g
def itOf (b : Bool) (its : Its) : Nat → Option Int := its.foldl (addIt b) fun _ => none
theorem itOf_succ (b : Bool) (its : Its) {i : Nat} (h : i < its.length) : itOf b (its.take (i + 1)) = addIt b (itOf b (its.take i)) its[i] := by
  unfold itOf
  rw [List.take_succ, List.getElem?_eq_getElem h, List.foldl_append] <;> rfl
theorem lows_ok {its : Its} {i : Nat} {k : Key} {v : V} (h : (kvOf its)[i]? = some (k, v)) : ∃ hi : i < its.length, k = .inr (nm its[i].1 its[i].2.1) ∧ v = .int its[i].2.2 := by
  unfold kvOf at h
  rw [List.getElem?_map] at h
  cases e : its[i]? with
  | none => rw [e] at h; cases h
  | some t =>
    rw [e] at h
    obtain ⟨hi, rfl⟩ := List.getElem?_eq_some_iff.mp e
    have z := Option.some.inj h
    injection z with z1 z2
    exact ⟨hi, z1.symm, z2.symm⟩
theorem w_dget {σ : L2.St} {H : Hp} {Q : VK} {td ty : TE} (q : td σ H fun x H1 => ty σ H1 fun y H2 => ∃ a v, x = .ref a ∧ DGet H2 a y (some v) ∧ Q v H2) : tDGet td ty σ H Q := q
/-! ### the law's machine -/
def mkM (sc : Addr) (at_ : Int) (lf : Addr) : List (Key × V) := [(.inr "script", .ref sc), (.inr "at", .int at_), (.inr "left", .ref lf)]
structure MOk (K : PySem.W.Frag) (H : Hp) (m sc lf : Addr) (script : List Int) (at_ : Nat) : Prop where
  hm : H m = some (.dK (mkM sc at_ lf))
  hs0 : (Rd H sc (.lst (VI script)) ∧ sc ≠ m ∧ sc ≠ lf) ∨ ∀ H' : Hp, SqL K H' sc (VI script)
  hl : ∃ left : List Int, H lf = some (.lst (VI left)) ∧ left.length = script.length
  hn : script.length ≤ 10000
/-- all but the machine stays -/
def Chg (m lf : Addr) (H H' : Hp) : Prop := ∀ y u, H y = some u → y ≠ m → y ≠ lf → H' y = some u
theorem Chg.refl {m lf : Addr} {H : Hp} : Chg m lf H H := fun _ _ h _ _ => h
theorem Chg.of {m lf : Addr} {H H' : Hp} (s : Same H H') : Chg m lf H H' := fun y u h _ _ => s y u h
theorem Chg.trans {m lf : Addr} {H H1 H2 : Hp} (a : Chg m lf H H1) (b : Chg m lf H1 H2) : Chg m lf H H2 := fun y u h n1 n2 => b y u (a y u h n1 n2) n1 n2
theorem Chg.to {m lf a : Addr} {H H' : Hp} {u : HO} (c : Chg m lf H H') (n1 : a ≠ m) (n2 : a ≠ lf) (h : H a = some u) : H' a = some u := c a u h n1 n2
section
variable {K : PySem.W.Frag} {H H' : Hp} {m sc lf : Addr} {script : List Int} {at_ : Nat}
theorem MOk.to (e : Same H H') (h : MOk K H m sc lf script at_) : MOk K H' m sc lf script at_ := by
  obtain ⟨left, h1, h2⟩ := h.hl
  exact ⟨e _ _ h.hm, h.hs0.imp (fun z => ⟨Same.rd e z.1, z.2⟩) id, ⟨left, e _ _ h1, h2⟩, h.hn⟩
theorem MOk.s (h : MOk K H m sc lf script at_) : SqL K H sc (VI script) := h.hs0.elim (fun z => .inl z.1) fun z => z H
theorem Chg.rd {sc : Addr} {u : HO} (c : Chg m lf H H') (n1 : sc ≠ m) (n2 : sc ≠ lf) (h : Rd H sc u) : Rd H' sc u := by
  rcases h with h | ⟨o, h⟩
  · exact .inl (c _ _ h n1 n2)
  · exact .inr ⟨o, c _ _ h n1 n2⟩
theorem MOk.renew {left : List Int} {n : Nat} (h : MOk K H m sc lf script at_) (c : Chg m lf H H') (hm : H' m = some (.dK (mkM sc (n : Nat) lf))) (hl : H' lf = some (.lst (VI left))) (e : left.length = script.length) : MOk K H' m sc lf script n :=
  ⟨hm, h.hs0.imp (fun z => ⟨c.rd z.2.1 z.2.2 z.1, z.2⟩) id, ⟨left, hl, e⟩, h.hn⟩
theorem MOk.ne (M : MOk K H m sc lf script at_) {p : Addr} (h : H p = none) : p ≠ m ∧ p ≠ lf := by
  obtain ⟨left, h1, h2⟩ := M.hl
  constructor
  · rintro rfl; rw [M.hm] at h; cases h
  · rintro rfl; rw [h1] at h; cases h
theorem MOk.free (M : MOk K H' m sc lf script at_) (c : Chg m lf H H') {p : Addr} (h : H' p = none) : H p = none := by
  obtain ⟨n1, n2⟩ := M.ne h
  cases e : H p with
  | none => rfl
  | some o => rw [c p o e n1 n2] at h; cases h
theorem MOk.gat (M : MOk K H m sc lf script at_) : DGet H m (.str "at") (some (.int (at_ : Int))) := DGet.k (k := .inr "at") M.hm
theorem MOk.gsc (M : MOk K H m sc lf script at_) : DGet H m (.str "script") (some (.ref sc)) := DGet.k (k := .inr "script") M.hm
theorem MOk.glf (M : MOk K H m sc lf script at_) : DGet H m (.str "left") (some (.ref lf)) := DGet.k (k := .inr "left") M.hm
end
theorem w_disp {σ : L2.St} {H : Hp} {Q : VK} {trs : List (TE × TE)} (k : ∀ p H1, H p = none → Same H H1 → H1 p = some (.dK []) → tPairs trs σ H1 fun ps H2 => H2 p = some (.dK []) ∧ ∃ kvs : List (Key × V), ps = kvs.map (fun kv => (kV kv.1, kv.2)) ∧ kvs.length ≤ 15 ∧ Q (.ref p) (upd H2 p (.dK (mergeK [] kvs)))) : tDisp trs σ H Q :=
  fun p hp => k p _ hp (Same.new hp) upd_same
theorem w_ppn {σ : L2.St} {H : Hp} {Q : List (V × V) → Hp → Prop} (q : Q [] H) : tPairs [] σ H Q := q
theorem w_ppc {σ : L2.St} {H : Hp} {Q : List (V × V) → Hp → Prop} {tk tv : TE} {r : List (TE × TE)} (q : tk σ H fun x H1 => tv σ H1 fun y H2 => tPairs r σ H2 fun ps H3 => Q ((x, y) :: ps) H3) : tPairs ((tk, tv) :: r) σ H Q := q
theorem MOk.set {K : PySem.W.Frag} {HB H : Hp} {m sc lf D : Addr} {script : List Int} {n n' : Nat} {o : HO} (MB : MOk K HB m sc lf script n) (hD : HB D = none) (M : MOk K H m sc lf script n') : MOk K (upd H D o) m sc lf script n' := by
  obtain ⟨dm, dl⟩ := MB.ne hD
  obtain ⟨left, l1, l2⟩ := M.hl
  refine ⟨by rw [upd_ne dm.symm]; exact M.hm, ?_, ⟨left, by rw [upd_ne dl.symm]; exact l1, l2⟩, M.hn⟩
  rcases MB.hs0 with ⟨z1, z2, z3⟩ | z
  · have ne : sc ≠ D := by
      rintro rfl
      rcases z1 with z1 | ⟨o, z1⟩ <;> rw [z1] at hD <;> cases hD
    rcases M.hs0 with ⟨y1, _⟩ | y
    · refine .inl ⟨?_, z2, z3⟩
      rcases y1 with y1 | ⟨o, y1⟩
      · exact .inl (by rw [upd_ne ne]; exact y1)
      · exact .inr ⟨o, by rw [upd_ne ne]; exact y1⟩
    · exact .inr y
  · exact .inr z
theorem MOk.tup {K : PySem.W.Frag} {H H' : Hp} {m sc lf a : Addr} {script : List Int} {n : Nat} {xs : List V} (M : MOk K H m sc lf script n) (c : Chg m lf H H') (h : SqT K H a xs) : SqT K H' a xs := by
  obtain ⟨left, l1, l2⟩ := M.hl
  rcases h with h | h
  · rcases h with h | ⟨o, h⟩
    · exact SqT.of (c _ _ h (by rintro rfl; rw [M.hm] at h; cases h) (by rintro rfl; rw [l1] at h; cases h))
    · exact .inl (.inr ⟨o, c _ _ h (by rintro rfl; rw [M.hm] at h; cases h) (by rintro rfl; rw [l1] at h; cases h)⟩)
  · exact .inr h
theorem MOk.strm {K : PySem.W.Frag} {H H' : Hp} {m sc lf r : Addr} {script : List Int} {n : Nat} {fr lp : List Int} (M : MOk K H m sc lf script n) (c : Chg m lf H H') (h : Strm K H r fr lp) : Strm K H' r fr lp := by
  obtain ⟨a, b, h1, h2, h3⟩ := h
  exact ⟨a, b, M.tup c h1, M.tup c h2, M.tup c h3⟩
/-! ### displays of dicts of ints -/
def kvI (ns : List (Nat × Int)) : List (Key × V) := ns.map fun t => (.inl (t.1 : Int), .int t.2)
def NewD (ns : List (Int × Int)) (H : Hp) (Q : VK) : Prop := ∀ p H', H p = none → Same H H' → H' p = some (.dK (ns.map fun t => (.inl t.1, .int t.2))) → Q (.ref p) H'
theorem newD {ns : List (Int × Int)} {H : Hp} {Q : VK} (h : ∀ p H', H p = none → Same H H' → H' p = some (.dK (ns.map fun t => (.inl t.1, .int t.2))) → Q (.ref p) H') : NewD ns H Q := h
section
variable {σ : L2.St} {H : Hp} {Q : VK} {i j : Int} {v w c : Int} {n m : Nat}
theorem w_d1v (e : σ[n]? = some (some (.int v))) (k : NewD [(i, v)] H Q) : tDisp [(tC (.int i), tVar n)] σ H Q := fun p hp =>
  ⟨_, e, upd_same, [(.inl i, .int v)], rfl, show 1 ≤ 15 by decide, k p _ hp (Same.mut (Same.new hp) hp) upd_same⟩
theorem w_d1p (e : σ[n]? = some (some (.int v))) (k : NewD [(i, v + c)] H Q) : tDisp [(tC (.int i), tOp (rI0 fun i j => .int (i + j)) (tVar n) (tC (.int c)))] σ H Q := fun p hp =>
  ⟨_, e, _, _, rfl, rfl, upd_same, [(.inl i, .int (v + c))], rfl, show 1 ≤ 15 by decide, k p _ hp (Same.mut (Same.new hp) hp) upd_same⟩
theorem w_d2v (h : j ≠ i) (e : σ[n]? = some (some (.int v))) (e2 : σ[m]? = some (some (.int w))) (k : NewD [(i, v), (j, w)] H Q) : tDisp [(tC (.int i), tVar n), (tC (.int j), tVar m)] σ H Q := fun p hp => by
  refine ⟨_, e, _, e2, upd_same, [(.inl i, .int v), (.inl j, .int w)], rfl, show 2 ≤ 15 by decide, k p _ hp (Same.mut (Same.new hp) hp) ?_⟩
  rw [upd_same]
  have hn : ¬ ((Sum.inl i : Key) = Sum.inl j) := by
    intro z; injection z with z; exact h z.symm
  show some (HO.dK (putK (putK [] (.inl i) (.int v)) (.inl j) (.int w))) = _
  have e1 : putK ([] : List (Key × V)) (.inl i) (.int v) = [(.inl i, .int v)] := rfl
  rw [e1, putK_new _ (by rw [valV_neg hn] <;> rfl)] <;> rfl
end
def ofL (ns : List (Nat × Int)) : Nat → Option Int := fun i => (ns.find? fun t => decide (t.1 = i)).map (·.2)
theorem valV_kvI (ns : List (Nat × Int)) (i : Nat) : valV (kvI ns) (.inl (i : Int)) = (ofL ns i).map V.int := by
  induction ns with
  | nil => rfl
  | cons t r ih =>
    unfold ofL
    rw [List.find?_cons]
    by_cases c : t.1 = i
    · rw [decide_eq_true c]
      have e : ((Sum.inl (t.1 : Int) : Key), V.int t.2).1 = Sum.inl (i : Int) := by rw [c]
      exact valV_pos (p := ((Sum.inl (t.1 : Int) : Key), V.int t.2)) e
    · rw [decide_eq_false c]
      have e : ¬ ((Sum.inl (t.1 : Int) : Key), V.int t.2).1 = Sum.inl (i : Int) := by
        intro z; injection z with z; omega
      exact (valV_neg (p := ((Sum.inl (t.1 : Int) : Key), V.int t.2)) e).trans ih
/-- a dict of ints, its entries told -/
def DGk (H : Hp) (a : Addr) (g : Nat → Option Int) : Prop := DG H a g ∧ ∃ ns : List (Nat × Int), H a = some (.dK (ns.map fun t => (.inl (t.1 : Int), .int t.2))) ∧ ns.length ≤ 15 ∧ (∀ t ∈ ns, t.1 < 12 ∧ g t.1 = some t.2) ∧ ∀ i x, g i = some x → (i, x) ∈ ns
theorem dgk_of {H : Hp} {a : Addr} {ns : List (Nat × Int)} (h : H a = some (.dK (kvI ns))) (hl : ns.length ≤ 15) (h1 : ∀ t ∈ ns, t.1 < 12 ∧ ofL ns t.1 = some t.2) : DGk H a (ofL ns) := by
  refine ⟨⟨_, h, by unfold kvI; simp; omega, fun i => valV_kvI ns i⟩, ns, h, hl, h1, fun i x e => ?_⟩
  unfold ofL at e
  cases e2 : ns.find? fun t => decide (t.1 = i) with
  | none => rw [e2] at e; cases e
  | some t =>
    rw [e2] at e
    have z1 := List.mem_of_find?_eq_some e2
    have z2 : t.1 = i := of_decide_eq_true (List.find?_some (p := fun t : Nat × Int => decide (t.1 = i)) e2)
    have z3 : t.2 = x := Option.some.inj e
    rw [← z2, ← z3]
    exact z1
end K45
/-! #### K45Tool5 -/
namespace K45
open PySem PySem.Spec PyProof.Rows L2
/-! ### a new dict, filled with keywords -/
theorem push_update (h : Heap) (o : Obj) (f : Obj → Obj) : (h.push o).update h.objs.size f = h.push (f o) := by
  obtain ⟨objs, l⟩ := h
  show (⟨(objs.push o).modify objs.size f, l⟩ : Heap) = ⟨objs.push (f o), l⟩
  congr 1
  apply Array.ext
  · simp
  · intro i h1 h2
    rw [Array.getElem_modify]
    by_cases c : objs.size = i
    · subst c
      simp
    · rw [if_neg c]
      have hi : i < objs.size := by simp at h1; omega
      rw [Array.getElem_push_lt hi, Array.getElem_push_lt hi]
section
variable {prog : Program} {w : World} {A : Around} {E : Value → Shared → Prop}
theorem ns_push {h : Heap} {g : _} {d : _} {t : Tok} {os : _} {es : List DictEntry} {n : Nat} {k : Str} {v : Value} {Q : Unit → Shared → Prop}
    (hs : ∀ e ∈ es, e.key.isStr k = false) (hr : ∀ e ∈ es, e.refKey = false)
    (hQ : Q () ⟨h.push (PySem.W.dictOf (es ++ [⟨PyData.keyHash w.params k, .str k t, v⟩]) (n + 1)), g, d, t + 1, os⟩) :
    wpAny (model prog w) A (nsSet h.objs.size k v) Q E ⟨h.push (PySem.W.dictOf es n), g, d, t, os⟩ := by
  have e1 : es.any (·.key.isStr k) = false := by
    cases q : es.any (·.key.isStr k) with
    | false => rfl
    | true => obtain ⟨e, he, z⟩ := List.any_eq_true.mp q; rw [hs e he] at z; cases z
  have e2 : es.any (·.refKey) = false := by
    cases q : es.any (·.refKey) with
    | false => rfl
    | true => obtain ⟨e, he, z⟩ := List.any_eq_true.mp q; rw [hr e he] at z; cases z
  have e : Obj.putName k (PyData.keyHash w.params k) (.str k t) v (PySem.W.dictOf es n) = PySem.W.dictOf (es ++ [⟨PyData.keyHash w.params k, .str k t, v⟩]) (n + 1) := by
    rw [PySem.W.putName_dict, PySem.W.putL_new hs]
    show PySem.W.dictOf _ (if es.any (·.key.isStr k) then n else n + 1) = _
    rw [e1, if_neg Bool.false_ne_true]
  have D : (h.push (PySem.W.dictOf es n)).get? h.objs.size = some (PySem.W.dictOf es n) := Heap.get?_push_size h rfl
  have c : aRefKeyMayBeTheName k es.toArray = false := by
    rw [aRefKeyMayBeTheName_at, ← Array.any_toList, ← Array.any_toList]
    show (!es.any (·.key.isStr k) && es.any (·.refKey)) = false
    rw [e2, Bool.and_false]
  unfold nsSet
  refine wpAny_bind (wpAny_bind (wpAny_askSetting (wpAny_pure (wpAny_bind (wpAny_mkText (wpAny_bind (wpAny_loadPart D ?_)))))))
  dsimp only
  rw [c]
  refine wpAny_updatePart D ?_
  rw [← e] at hQ
  show Q () ⟨(h.push (PySem.W.dictOf es n)).update h.objs.size _, g, d, t + 1, os⟩
  rw [push_update]
  exact hQ
theorem ns_fill {h : Heap} {g : _} {d : _} {os : _} {Q : PUnit → Shared → Prop} : ∀ (ex : List (Str × Value)) (t : Tok) (es : List DictEntry) (n : Nat),
    (∀ e ∈ es, ∀ x ∈ ex, e.key.isStr x.1 = false) → (∀ e ∈ es, e.refKey = false) → (ex.map (·.1)).Nodup →
    Q ⟨⟩ ⟨h.push (PySem.W.dictOf (es ++ PySem.W.kwEs w.params t ex) (n + ex.length)), g, d, t + ex.length, os⟩ →
    wpAny (model prog w) A (forIn ex PUnit.unit fun x _ => (nsSet h.objs.size x.1 x.2 >>= fun _ => pure (ForInStep.yield PUnit.unit))) Q E ⟨h.push (PySem.W.dictOf es n), g, d, t, os⟩
  | [], t, es, n, _, _, _, hQ => by
    rw [List.forIn_nil]
    refine wpAny_pure ?_
    have e : es ++ PySem.W.kwEs w.params t [] = es := List.append_nil _
    rw [e] at hQ
    exact hQ
  | x :: r, t, es, n, hs, hr, hn, hQ => by
    obtain ⟨hn1, hn2⟩ := List.nodup_cons.mp (show (x.1 :: r.map (·.1)).Nodup from hn)
    rw [List.forIn_cons]
    refine wpAny_bind (wpAny_bind (ns_push (fun e he => hs e he x (.head _)) hr (wpAny_pure ?_)))
    show wpAny (model prog w) A (forIn r PUnit.unit fun x _ => (nsSet h.objs.size x.1 x.2 >>= fun _ => pure (ForInStep.yield PUnit.unit))) Q E _
    refine ns_fill r (t + 1) _ _ (fun e he y hy => ?_) (fun e he => ?_) hn2 ?_
    · rcases List.mem_append.mp he with he | he
      · exact hs e he y (.tail _ hy)
      · obtain rfl := List.mem_singleton.mp he
        show (x.1 == y.1) = false
        exact beq_eq_false_iff_ne.mpr fun q => hn1 (by rw [q]; exact List.mem_map_of_mem hy)
    · rcases List.mem_append.mp he with he | he
      · exact hr e he
      · obtain rfl := List.mem_singleton.mp he
        rfl
    · have e1 : es ++ PySem.W.kwEs w.params t (x :: r) = (es ++ [⟨PyData.keyHash w.params x.1, .str x.1 t, x.2⟩]) ++ PySem.W.kwEs w.params (t + 1) r := by
        rw [List.append_assoc] <;> rfl
      rw [e1] at hQ
      have e2 : n + (x :: r).length = n + 1 + r.length := by
        rw [List.length_cons]; omega
      have e3 : t + (x :: r).length = t + 1 + r.length := by
        rw [List.length_cons, Nat.add_comm r.length 1]
        exact (Nat.add_assoc t 1 r.length).symm
      rw [e2, e3] at hQ
      exact hQ
/-- the keywords' dict, as the layer tracks it -/
theorem kw_pairs {P : Program} : ∀ (ex : List (Str × Value)) (t : Tok), Pairs (mixKind P w) (PySem.W.kwEs w.params t ex) (ex.map fun q => ((Sum.inr q.1 : Key), q.2))
  | [], _ => Pairs.nil
  | x :: r, t => Pairs.cons (mixKind_str P w x.1 t) rfl (kw_pairs r (t + 1))
theorem kw_kv : ∀ {ks : List Str} {zs : List V} {ws : List Value}, Vals zs ws → KV ((ks.zip zs).map fun q => ((Sum.inr q.1 : Key), q.2)) ((ks.zip ws).map fun q => ((Sum.inr q.1 : Key), q.2))
  | [], _, _, _ => .nil
  | k :: ks, _, _, .nil => .nil
  | k :: ks, _, _, .cons r rs => .cons ⟨rfl, r⟩ (kw_kv rs)
theorem kw_ok {P : Program} {H : Hp} {h : Heap} {zs : List V} {ws : List Value} {ks : List Str} (t : Tok) (n : Nat) (hD : (h.objs.size == sysModules) = false) (hk : ks.Nodup) (hl : ks.length ≤ 30) (hz : Vals zs ws) (hlen : zs.length = ks.length) :
    ObjOk P w H (h.push (PySem.W.dictOf (PySem.W.kwEs w.params t (ks.zip ws)) n)) h.objs.size (.dK ((ks.zip zs).map fun q => (.inr q.1, q.2))) := by
  have hs : sizeLine = 16777216 := sizeLine_eq
  refine ⟨by rw [List.length_map, List.length_zip]; omega, hD, _, kw_kv hz, _, _, _, Heap.get?_push_size h rfl, ⟨rfl, rfl, rfl⟩, rfl, fun e he => ?_, kw_pairs _ t, ?_⟩
  · obtain ⟨k, u, hk, hh⟩ := PySem.W.kwEs_key _ t e (List.mem_toArray.mp he)
    exact ⟨.inr k, by rw [hk]; exact mixKind_str P w k u, hh.trans rfl⟩
  · have wl : ws.length = ks.length := by rw [← hz.length]; exact hlen
    have e : ((ks.zip ws).map fun q => ((Sum.inr q.1 : Key), q.2)).map (·.1) = ks.map Sum.inr := by
      rw [List.map_map]
      show (ks.zip ws).map (fun q => (Sum.inr q.1 : Key)) = _
      have z : (ks.zip ws).map (fun q => (Sum.inr q.1 : Key)) = ((ks.zip ws).map Prod.fst).map Sum.inr := by rw [List.map_map] <;> rfl
      rw [z, List.map_fst_zip (by omega)]
    rw [e]
    exact List.Pairwise.map _ (fun a b hab z => hab (Sum.inr.inj z)) hk
end
/-! ### a method with ** -/
def kvS (ks : List Str) (zs : List V) : List (Key × V) := (ks.zip zs).map fun q => (.inr q.1, q.2)
def FnKw (P : Program) (w : World) (K : PySem.W.Frag) (mg : Str → Option Value) (base : Heap) (k : Nat) (f : Addr) (ks : List Str) (sp : Sp) : Prop :=
  ∀ (A : Around) (outer : List Env) (s : Shared) (H : Hp) (u : Value) (x : V) (ws : List Value) (zs : List V) (Q : VK), Room k A → Env0 P w K mg base A outer s H → RelV x u → Vals zs ws → zs.length = ks.length →
    (∀ d, H d = none → sp [x, .ref d] (upd H d (.dK (kvS ks zs))) Q E0) → codeAny (model P w) A (.call (.ref f) ⟨[u], ks.zip ws⟩) (CR CX0 outer P w H s Q E0) s
theorem fn_kw {P : Program} {w : World} {K : PySem.W.Frag} {mg : Str → Option Value} {base : Heap} {k : Nat} {f : Addr} {fd : FuncData} {x qual pa pb : Str} {params : Arguments} {body : List Stmt} {scope : Scope} {N ks : List Str} {sp : Sp}
    (F : FunD K x qual params body scope [] [] f fd) (S : FnScope N [pa, pb] scope) (hk : ks.Nodup) (hl : ks.length ≤ 30)
    (hb : ∀ (kV doc pm : Value) (an : Option Addr) (cdv ct u : Value) (ws : List Value), ws.length = ks.length →
      bindArgs (PySem.W.fnOf x qual params body scope .none kV doc pm an cdv ct) ⟨[u], ks.zip ws⟩ = (do
        let d ← alloc { cls := .type "dict", data := .dict #[] }
        forIn (ks.zip ws) PUnit.unit fun y _ => (nsSet d y.1 y.2 >>= fun _ => pure (ForInStep.yield PUnit.unit))
        pure [(pa, u), (pb, .ref d)]))
    (hbody : ∀ (cdv : Value) (A : Around) (outer : List Env) (s : Shared) (H : Hp) (vs : List V) (Q : VK) (E : XK), Room k (A.deeper (envOfC qual scope s.heap.objs.size f cdv)) → sp vs H Q E →
      ∃ t, PSs (cxOf CX0 P w K mg base N qual scope f cdv A outer s H E) body t ∧ t { nx := fun _ H' => Q .non H', rt := Q } (L2.start N vs) H) : FnKw P w K mg base (k + 1) f ks sp := by
  intro A outer s H u x ws zs Q hr e0 ru rz hlen hq
  obtain ⟨oc, od, dV, kV, doc, pm, an, cdv, ct, osl, rfl, lk, hcd, hD, _⟩ := F.ex
  obtain rfl : dV = .none := by
    rcases hD with ⟨_, e⟩ | ⟨e, _⟩
    · exact e
    · exact absurd rfl e
  have wl : ws.length = ks.length := by rw [← rz.length]; exact hlen
  have hn : H s.heap.objs.size = none := e0.hok.fresh (Nat.le_refl _)
  have hsz : (s.heap.objs.size == sysModules) = false := by
    exact beq_eq_false_iff_ne.mpr (Nat.ne_of_gt (StX.env0_big e0))
  refine StX.run_bnd lk hcd S hr e0 (G := fun xs H2 => ∃ d, H d = none ∧ xs = [x, V.ref d] ∧ H2 = upd H d (.dK (kvS ks zs))) (fun A' Ex Q' h => ?_) fun s2 H2 xs ⟨d, hd, ex, eH⟩ hr' => ?_
  · rw [hb _ _ _ _ _ _ u ws wl]
    obtain ⟨hh, g, dr, t, os⟩ := s
    have new := kw_ok (w := w) (P := P) (H := upd H hh.objs.size (.dK (kvS ks zs))) (h := hh) t (0 + (ks.zip ws).length) hsz hk hl rz hlen
    refine wpAny_bind (wpAny_alloc (wpAny_bind (ns_fill (ks.zip ws) t [] 0 (fun e he => (by cases he)) (fun e he => (by cases he)) (by rw [List.map_fst_zip (by omega)]; exact hk) (wpAny_pure ?_))))
    have e1 := StX.env0_laid e0 new
    have un := StX.un_laid (fs := frs outer) (s := ⟨hh, g, dr, t, os⟩) (o := PySem.W.dictOf (PySem.W.kwEs w.params t (ks.zip ws)) (0 + (ks.zip ws).length)) (u := .dK (kvS ks zs)) hn
    exact h ⟨hh.push (PySem.W.dictOf (PySem.W.kwEs w.params t (ks.zip ws)) (0 + (ks.zip ws).length)), g, dr, t + (ks.zip ws).length, os⟩ _ [x, V.ref hh.objs.size] [u, Value.ref hh.objs.size] ⟨e1.frames, e1.mod, e1.bs, e1.bsz, e1.funs, e1.frf, e1.hok, e1.bare⟩ un rfl (fun e s' z => z.elim) (.cons ru (.cons rfl .nil)) rfl ⟨_, hn, rfl, rfl⟩
  · subst ex eH
    exact hbody cdv A outer s2 _ _ Q E0 hr' (hq d hd)
end K45
/-! #### K45Tool6 -/
namespace K45
open PySem PySem.Spec PyProof.Rows L2
/-- o.m(k = v, ..), m a method with ** -/
def tKwM (C : Addr) (m : Str) (ks : List Str) (sp : Sp) (ta : TE) (tk : TA) : TE := fun σ H Q => ta σ H fun x H1 => ∃ a dx fs, x = .ref a ∧ H1 a = some (.ins C dx fs) ∧ fs.lookup m = none ∧
  tk σ H1 fun zs H2 => zs.length = ks.length ∧ ∀ d, H2 d = none → sp [x, .ref d] (upd H2 d (.dK (kvS ks zs))) Q E0
theorem w_kwM {C : Addr} {m : Str} {ks : List Str} {sp : Sp} {ta : TE} {tk : TA} {σ : L2.St} {H : Hp} {Q : VK} (q : ta σ H fun x H1 => ∃ a dx fs, x = .ref a ∧ H1 a = some (.ins C dx fs) ∧ fs.lookup m = none ∧
  tk σ H1 fun zs H2 => zs.length = ks.length ∧ ∀ d, H2 d = none → sp [x, .ref d] (upd H2 d (.dK (kvS ks zs))) Q E0) : tKwM C m ks sp ta tk σ H Q := q
section
variable {X : Cx} {k : Nat} {C f : Addr} {m : Str} {ks : List Str} {sp : Sp} {o : Expr} {kws : List Keyword} {pos apos : Pos} {ta : TE} {tk : TA} {pl : Sem Bool}
theorem pe_kwM (he : PE X o ta) (cl : Cls X.K C) (M : Meth X.K C m f) (F : FnKw X.prog X.w X.K X.mg X.base k f ks sp) (hr : Room k X.A) (hkw : PK X kws tk)
    (hall : (backToKw pos (keywordEach kws X.env)).all (·.1.isSome) = true := by rfl) (hks : (backToKw pos (keywordEach kws X.env)).filterMap (·.1) = ks := by rfl)
    (hpl : ((backTo pos (starEach [] X.env)).any (·.1) || (backToKw pos (keywordEach kws X.env)).any (·.1.isNone)) = false := by rfl)
    (ht : eval (.Call (.Attribute o m apos) [] kws pos) X.env = (do
      let ov ← eval o X.env
      standAt apos.atName
      let (f, first) ← holding [ov] (getMethod ov m pl)
      callWith pos f first (backTo pos (starEach [] X.env)) (backToKw pos (keywordEach kws X.env))) := by rfl) :
    PE X (.Call (.Attribute o m apos) [] kws pos) (tKwM C m ks sp ta tk) := by
  refine ⟨fun pins s σ H Q I h => ?_⟩
  refine PySem.W.methodCall_KW (pl := pl) (thn (he.run pins s σ H _ I h) fun u s1 ⟨x, H1, I1, rx, a, dx, fs, ex, ea, l, q⟩ => ?_) ht
  subst ex
  obtain rfl : u = Value.ref a := rx
  refine getmeth_ok I1 ea cl M l ?_
  refine PySem.W.callWith_KW0 (first := [.ref a]) (h₀ := X.base) I.ok.mod.kin M.kp hall ?_ hpl
  refine thn (hkw.run pos pins s1 σ H1 _ I1 q) fun ws s2 ⟨zs, H2, I2, rz, l2, q2⟩ => ⟨I2.kIn, ?_⟩
  rw [hks]
  refine wpAny_call (codeAny_mono (F X.A X.stack s2 H2 (.ref a) (.ref a) ws zs Q hr I2.env0 rfl rz l2 q2) fun r s' hq => ?_)
  cases r with
  | error e => exact pass0 pins σ H2 s2 e s' I2 hq
  | ok fl =>
    cases fl with
    | ret u => exact I2.after hq
    | next => exact False.elim hq
    | brk => exact False.elim hq
    | cont => exact False.elim hq
end
end K45
/-! #### K45Gen -/
namespace K45
open PySem PySem.Spec PyProof.Rows L2 GenW
/-! ### a generator up to its first item -/
abbrev TY := Ends → VK → L2.St → Hp → Prop
def YP (X : Cx) (yl : VK) : Protocol := fun _ _ v s _ => ∃ pins x σ H, Inv X pins σ H s ∧ RelV x v ∧ yl x H
structure YC (X : Cx) (A : Around) (c : Code) (fs : List Frame) (gd : Bool → Bool) : Prop where
  over : A.over c fs = X.A
  split : splitAtGen fs = none
  guard : fs.any Frame.guarded = false
  gd : gd false = false
def YK (X : Cx) (pins : List (Addr × Obj)) (A : Around) (R : GenEnd) (yl : VK) (n : Nat) (s₀ : Shared) (c : Code) (fs : List Frame) (K : Flow → Sem PySem.Fin) (D : Ends) : Prop :=
  ∀ s f, SP X pins D f s → Seg (model X.prog X.w) A R (YP X yl) (n + 1) s₀ c (K f) fs s
structure YS (X : Cx) (st : Stmt) (t : TY) : Prop where
  run : ∀ (A : Around) (R : GenEnd) (n : Nat) (s₀ : Shared) (c : Code) (fs : List Frame) (K : Flow → Sem PySem.Fin) (J : Value → Sem PySem.Fin) (gd : Bool → Bool) (lv : List Value → List Value) (pins : List (Addr × Obj)) (s : Shared) (σ : L2.St) (H : Hp) (D : Ends) (yl : VK),
    YC X A c fs gd → YK X pins A R yl n s₀ c fs K D → Inv X pins σ H s → t D yl σ H → Seg (model X.prog X.w) A R (YP X yl) (n + 1) s₀ c ((exec st X.env).wrap K J gd lv) fs s
structure YSs (X : Cx) (st : List Stmt) (t : TY) : Prop where
  run : ∀ (A : Around) (R : GenEnd) (n : Nat) (s₀ : Shared) (c : Code) (fs : List Frame) (K : Flow → Sem PySem.Fin) (J : Value → Sem PySem.Fin) (gd : Bool → Bool) (lv : List Value → List Value) (pins : List (Addr × Obj)) (s : Shared) (σ : L2.St) (H : Hp) (D : Ends) (yl : VK),
    YC X A c fs gd → YK X pins A R yl n s₀ c fs K D → Inv X pins σ H s → t D yl σ H → Seg (model X.prog X.w) A R (YP X yl) (n + 1) s₀ c ((execs st X.env).wrap K J gd lv) fs s
section
variable {X : Cx} {st : Stmt} {rest : List Stmt} {pos : Pos}
def tYP (t : TS) : TY := fun D _ σ H => t D σ H
theorem ys_ps {t : TS} (no : ∀ e s, X.xe e s → False) (h : PS X st t) : YS X st (tYP t) := by
  refine ⟨fun A R n s₀ c fs K J gd lv pins s σ H D yl g k I ht => seg_wrap ?_⟩
  rw [g.over]
  exact wpAny_mono (h.run pins s σ H D I ht) (fun f s' hs => k s' f hs) fun e s' hx => (no e s' hx).elim
def tYThen (t u : TY) : TY := fun D yl σ H => t { D with nx := fun σ' H' => u D yl σ' H' } yl σ H
theorem yss_cons {t u : TY} (a : YS X st t) (b : YSs X rest u) : YSs X (st :: rest) (tYThen t u) := by
  refine ⟨fun A R n s₀ c fs K J gd lv pins s σ H D yl g k I ht => seg_execs_cons ?_⟩
  refine a.run A R n s₀ c fs _ J gd lv pins s σ H { D with nx := fun σ' H' => u D yl σ' H' } yl g (fun s' f hs => ?_) I ht
  cases f with
  | next =>
    obtain ⟨σ', H', I', q⟩ := hs
    exact b.run A R n s₀ c fs K J gd lv pins s' σ' H' D yl g k I' q
  | brk => exact k s' .brk hs
  | cont => exact k s' .cont hs
  | ret u => exact k s' (.ret u) hs
theorem yss_one {t : TY} (a : YS X st t) : YSs X [st] t := by
  refine ⟨fun A R n s₀ c fs K J gd lv pins s σ H D yl g k I ht => seg_execs_cons ?_⟩
  refine a.run A R n s₀ c fs _ J gd lv pins s σ H D yl g (fun s' f hs => ?_) I ht
  cases f with
  | next => exact seg_execs_nil (k s' .next hs)
  | brk => exact k s' .brk hs
  | cont => exact k s' .cont hs
  | ret u => exact k s' (.ret u) hs
def tY0 : TY := fun D _ σ H => D.nx σ H
theorem yss_nil : YSs X [] tY0 := ⟨fun A R n s₀ c fs K J gd lv pins s σ H D yl g k I ht => seg_execs_nil (k s .next ⟨σ, H, I, ht⟩)⟩
def tYYield (te : TE) : TY := fun _ yl σ H => te σ H yl
theorem ys_yield {e : Expr} {yp : Pos} {te : TE} (no : ∀ e s, X.xe e s → False) (he : PE X e te) (hco : X.env.scope.isCoroutine = false := by rfl) (hi : interactive X.env = false := by rfl) : YS X (.Expr (.Yield (some e) yp) pos) (tYYield te) := by
  refine ⟨fun A R n s₀ c fs K J gd lv pins s σ H D yl g k I ht => ?_⟩
  refine seg_Expr_Yield g.split g.gd g.guard ?_ hco hi
  rw [g.over]
  refine wpAny_mono (he.run pins s σ H yl I ht) (fun v s' hv => ?_) fun e s' hx => (no e s' hx).elim
  obtain ⟨x, H1, I1, rv, q⟩ := hv
  exact fun kap _ => ⟨pins, x, σ, H1, I1, rv, q⟩
def tYIf (c : TT) (t u : TY) : TY := fun D yl σ H => c σ H fun b H1 => if b = true then t D yl σ H1 else u D yl σ H1
theorem ys_if {e : Expr} {a b : List Stmt} {tc : TT} {t u : TY} (no : ∀ e s, X.xe e s → False) (hc : PT X e tc) (ha : YSs X a t) (hb : YSs X b u) : YS X (.If e a b pos) (tYIf tc t u) := by
  refine ⟨fun A R n s₀ c fs K J gd lv pins s σ H D yl g k I ht => ?_⟩
  rw [exec_If]
  refine seg_bind_wrap (wpAny_standAt (seg_bind_wrap ?_))
  rw [g.over]
  refine wpAny_mono (hc.run pins s σ H _ I ht) (fun v s' hv => ?_) fun e s' hx => (no e s' hx).elim
  obtain ⟨H1, I1, q⟩ := hv
  cases v with
  | true =>
    rw [if_pos rfl] at q
    rw [if_pos rfl]
    exact ha.run A R n s₀ c fs K J gd lv pins s' σ H1 D yl g k I1 q
  | false =>
    rw [if_neg Bool.false_ne_true] at q
    rw [if_neg Bool.false_ne_true]
    exact hb.run A R n s₀ c fs K J gd lv pins s' σ H1 D yl g k I1 q
theorem yc_loop {A : Around} {c c' : Code} {fs : List Frame} {gd gd' : Bool → Bool} {k : Result → Sem PySem.Fin} {l kp : List Value} {p : Pos} (g : YC X A c fs gd) (hw : c'.weight = 0) (hu : c'.cUnits = 0) (hg : gd' false = false) : YC X A c' (.ret k none (gd false) l c p kp :: fs) gd' where
  over := (over_loop hw hu).trans g.over
  split := by
    show (splitAtGen fs).map _ = none
    rw [g.split] <;> rfl
  guard := by
    show (gd false || fs.any Frame.guarded) = false
    rw [g.gd, g.guard] <;> rfl
  gd := hg
/-- W: the invariant by the turn and a measure; N: what the body is to reach -/
def tYFor (wi : TI) (g : TG) (tb : TY) : TY := fun D yl σ H => wi σ H fun J H1 => ∃ W : Nat → Nat → L2.St → Hp → Prop, (∃ m, W 0 m σ H1) ∧ ∀ i m σ H, W i m σ H →
  (J.stop i H ∧ D.nx σ H) ∨ (J.go i H ∧ ∃ N : L2.St → Hp → Prop, (∀ σ' H', N σ' H' → ∃ m', m' < m ∧ W (i + 1) m' σ' H') ∧ ∀ x H', J.yld i H x H' → g x σ H' fun σ2 H2 => tb { D with nx := N, ct := N, bk := D.nx } yl σ2 H2)
theorem ys_for {tg iter : Expr} {body : List Stmt} {wi : TI} {g : TG} {tb : TY} (no : ∀ e s, X.xe e s → False) (hc : X.calm = true) (hi : PI X tg iter wi) (hg : PG X tg g) (hb : YSs X body tb)
    (hs : ∀ x, foldedSetIterable iter X.env x = pure x := by intro _; rfl) : YS X (.For tg iter body [] pos) (tYFor wi g tb) := by
  refine ⟨fun A R n s₀ c fs K J gd lv pins s σ H D yl G k I ht => ?_⟩
  rw [exec_For]
  refine seg_bind_wrap (wpAny_standAt (seg_bind_wrap ?_))
  rw [G.over]
  refine wpAny_mono (hi.run pins s σ H _ I ht) (fun v s1 h1 => ?_) fun e s' hx => (no e s' hx).elim
  refine seg_bind_wrap (wpAny_of_eq (hs v) (seg_bind_wrap (wpAny_standAt (seg_bind_wrap (wpAny_holding ?_)))))
  rw [G.over]
  refine wpAny_mono h1 (fun itv s2 h2 => ?_) fun e s' hx => (no e s' hx).elim
  obtain ⟨it, fp, tn, J', H2, e, I2, T, st2, f2, W, ⟨m0, w0⟩, turn⟩ := h2
  subst e
  have stat : ∀ {H' : Hp}, (∀ b ∈ fp, H' b = none) → ∀ b ∈ fp, FpOk X pins H' b := fun hn b hb => ⟨hn b hb, (f2 b hb).2⟩
  refine seg_call fun p => ?_
  have gl := fun (kk : Result → Sem PySem.Fin) (gd' : Bool → Bool) (h : gd' false = false) => yc_loop (k := kk) (c' := .forLoop tg (.ref it) body [] X.env) (l := lv []) (kp := []) (p := p) G rfl rfl h
  have loop : ∀ (m i : Nat) (s3 : Shared) (σ3 : L2.St) (H3 : Hp), Inv X pins σ3 H3 s3 → tn i s3.heap → (∀ b ∈ fp, H3 b = none) → W i m σ3 H3 →
      Seg (model X.prog X.w) A R (YP X yl) (n + 1) s₀ (.forLoop tg (.ref it) body [] X.env) ((model X.prog X.w).den (.forLoop tg (.ref it) body [] X.env))
        (.ret (fun r => ((match r with | .ok f => (.pure f : Sem Flow) | .error e => .raise e).onRaise (cameBack X.env)).wrap K J gd lv) none (gd false) (lv []) c p [] :: fs) s3 := by
    intro m
    induction m using Nat.strongRecOn with
    | ind m ih =>
      intro i s3 σ3 H3 I3 st3 fr3 w3
      show Seg _ A R _ _ s₀ _ ((forTurn tg (.ref it) body [] X.env).onRaise (fun x => do noteFrame x X.env; theTreesLotGoes x)) _ s3
      unfold forTurn
      rw [Sem.onRaise_eq_wrap]
      refine seg_bind_wrap (wpAny_standAt (seg_bind_wrap (wpAny_onRaise ?_)))
      rw [(gl _ id rfl).over]
      rcases turn i m σ3 H3 w3 with ⟨stop, qn⟩ | ⟨go, N, hN, step⟩
      · refine wpAny_mono (T.done X rfl rfl rfl hc i pins s3 σ3 H3 (fun _ _ => False) I3 (stat fr3) st3 stop) (fun r s4 hr => ?_) fun e s' hx => hx.elim
        obtain ⟨hr, I4⟩ := hr
        subst hr
        refine seg_again rfl ?_
        show Seg _ A R _ _ s₀ _ (.pure (.done .next)) _ s4
        exact seg_leaf (.ok .next) (k s4 .next ⟨σ3, H3, I4, qn⟩)
      · refine wpAny_mono (T.item X rfl rfl rfl hc i pins s3 σ3 H3 (fun _ _ => False) I3 (stat fr3) st3 go) (fun r s4 h4 => ?_) fun e s' hx => hx.elim
        obtain ⟨u, hr, h4⟩ := h4
        subst hr
        refine seg_bind_wrap ?_
        rw [(gl _ id rfl).over]
        refine wpAny_mono h4 (fun _ s5 h5 => ?_) fun e s' hx => hx.elim
        obtain ⟨x, H5, I5, r5, y5, st5, fr5⟩ := h5
        have I5' := I5.pinned (stat fr5) (T.obj _ _ st5)
        refine seg_bind_wrap ?_
        rw [(gl _ id rfl).over]
        refine wpAny_mono (hg.run _ s5 σ3 H5 x u _ I5' r5 (step x H5 y5)) (fun _ s6 h6 => ?_) fun e s' hx => (no e s' hx).elim
        obtain ⟨σ6, H6, I6, q6⟩ := h6
        rw [Sem.bind_eq_wrap', Sem.wrap_wrap]
        refine hb.run A R n s₀ _ _ _ _ _ _ (pins ++ pinsAt fp s5.heap) s6 σ6 H6 { D with nx := N, ct := N, bk := D.nx } yl (gl _ _ rfl) (fun s7 f q7 => ?_) I6 q6
        have again : ∀ {σ7 : L2.St} {H7 : Hp}, Inv X (pins ++ pinsAt fp s5.heap) σ7 H7 s7 → N σ7 H7 → Seg (model X.prog X.w) A R (YP X yl) (n + 1) s₀ (.forLoop tg (.ref it) body [] X.env) (.pure (.again (.forLoop tg (.ref it) body [] X.env)))
            (.ret (fun r => ((match r with | .ok f => (.pure f : Sem Flow) | .error e => .raise e).onRaise (cameBack X.env)).wrap K J gd lv) none (gd false) (lv []) c p [] :: fs) s7 := fun {σ7 H7} I7 n7 => by
          obtain ⟨m', hm, w7⟩ := hN σ7 H7 n7
          refine seg_again rfl (ih m' hm (i + 1) s7 σ7 H7 I7.unpinned (T.keep _ _ _ st5 fun b hb o e => (I7.pin (b, o) (List.mem_append_right _ (List.mem_append_right _ (mem_pinsAt hb e)))).1) (fun b hb => ?_) w7)
          obtain ⟨o, e, d⟩ := T.obj _ _ st5 b hb
          exact (I7.pin (b, o) (List.mem_append_right _ (List.mem_append_right _ (mem_pinsAt hb e)))).2.1
        cases f with
        | next => obtain ⟨σ7, H7, I7, n7⟩ := q7; exact again I7 n7
        | cont => obtain ⟨σ7, H7, I7, n7⟩ := q7; exact again I7 n7
        | brk =>
          obtain ⟨σ7, H7, I7, q7⟩ := q7
          exact seg_leaf (.ok .next) (k s7 .next ⟨σ7, H7, I7.unpinned, q7⟩)
        | ret v =>
          obtain ⟨x7, σ7, H7, I7, r7, q7⟩ := q7
          exact seg_leaf (.ok (.ret v)) (k s7 (.ret v) ⟨x7, σ7, H7, I7.unpinned, r7, q7⟩)
  exact loop m0 0 s2 σ H2 I2 st2 (fun b hb => (f2 b hb).1) w0
end
end K45
/-! #### K45Gen2 -/
namespace K45
open PySem PySem.Spec PyProof.Rows L2 GenW
/-- arguments, heap; what is wanted at its end (nothing came), and of its first item -/
abbrev SpY := List V → Hp → (Hp → Prop) → VK → Prop
def EndY (P : Program) (w : World) (outer : List Env) (H : Hp) (s : Shared) (QE : Hp → Prop) : Shared → Prop := fun s1 => ∃ H', s1.os = s.os ∧ AllBare s1.gens ∧ Un (frs outer) [] H H' s.heap s1.heap ∧ HOk P w H' s1.heap ∧ QE H'
def RY (P : Program) (w : World) (outer : List Env) (H : Hp) (s : Shared) (QE : Hp → Prop) : GenEnd := fun _ _ r s1 => ((r = .ok (.ret .none) ∨ r = .ok .next) ∧ EndY P w outer H s QE s1) ∨ ∃ e, r = .error e ∧ False
def ItemY (P : Program) (w : World) (outer : List Env) (H : Hp) (s : Shared) (a : Addr) (QY : VK) (v : Value) (s1 : Shared) : Prop :=
  ∃ x H', RelV x v ∧ s1.os = s.os ∧ AllBare s1.gens ∧ Un (frs outer) [] H H' s.heap s1.heap ∧ HOk P w H' s1.heap ∧ QY x H' ∧ ∃ o vs, s1.heap.get? a = some o ∧ o.cls = .type "generator" ∧ o.data = .fields vs
def GMadeY (P : Program) (w : World) (k : Nat) (outer : List Env) (H : Hp) (s : Shared) (QE : Hp → Prop) (QY : VK) (u : Value) (s' : Shared) : Prop :=
  ∃ (a : Addr) (g : Nat) (c : Code), u = .ref a ∧ s'.heap.IsGen a g ∧ s'.gens[g]? = some (.fresh c) ∧ s'.os = s.os ∧ AllBare s'.gens ∧ s'.heap.NoLimit ∧ (∀ b o, s.heap.get? b = some o → s'.heap.get? b = some o) ∧
    ∀ (A : Around) (s2 : Shared), Room k A → A.frames = some outer → (∀ b o, s'.heap.get? b = some o → s2.heap.get? b = some o) → s2.os = s.os → AllBare s2.gens →
      Seg (model P w) A (RY P w outer H s QE) (fun _ _ v s1 _ => ItemY P w outer H s a QY v s1) 1 s2 c ((model P w).den c) [] s2
structure FnY (P : Program) (w : World) (K : PySem.W.Frag) (mg : Str → Option Value) (base : Heap) (k : Nat) (f : Addr) (fd : FuncData) (ps : List Str) (sp : SpY) : Prop where
  len : ∀ vs H QE QY, sp vs H QE QY → vs.length = ps.length
  run : ∀ (A : Around) (outer : List Env) (s : Shared) (H : Hp) (args : Args) (us : List Value) (vs : List V) (QE : Hp → Prop) (QY : VK), Room k A → Env0 P w K mg base A outer s H → BindsTo s fd args (ps.zip us) → Vals vs us → sp vs H QE QY →
    codeAny (model P w) A (.call (.ref f) args) (fun r s' => match r with | .ok (.ret u) => GMadeY P w k outer H s QE QY u s' | _ => False) s
abbrev gcxY (P : Program) (w : World) (K : PySem.W.Frag) (mg : Str → Option Value) (base : Heap) (N : List Str) (qual : Str) (scope : Scope) (f : Addr) (cd : Value) (A : Around) (outer : List Env) (s : Shared) (H : Hp) (pn : List (Addr × Obj)) : Cx :=
  (gcxOf P w K mg base N qual scope f cd A outer s H E0 pn).nox
/-- a generator def, by its body -/
theorem fnY_of {P : Program} {w : World} {K : PySem.W.Frag} {mg : Str → Option Value} {base : Heap} {k : Nat} {f : Addr} {fd : FuncData} {x qual : Str} {params : Arguments} {body : List Stmt} {scope : Scope} {N ps : List Str} {sp : SpY}
    (F : FunD K x qual params body scope [] [] f fd) (S : GScope N ps scope) (len : ∀ vs H QE QY, sp vs H QE QY → vs.length = ps.length)
    (hbody : ∀ (cdv : Value) (A : Around) (outer : List Env) (s : Shared) (H : Hp) (vs : List V) (QE : Hp → Prop) (QY : VK) (pn : List (Addr × Obj)), Room k (A.deeper (envOfC qual scope s.heap.objs.size f cdv)) → sp vs H QE QY →
      ∃ t, YSs (gcxY P w K mg base N qual scope f cdv A outer s H pn) body t ∧ t { nx := fun _ H' => QE H', rt := fun v H' => v = .non ∧ QE H' } QY (L2.start N vs) H) : FnY P w K mg base (k + 1) f fd ps sp := by
  refine ⟨len, fun A outer s H args us vs QE QY hr e0 hb r hsp => ?_⟩
  obtain ⟨oc, od, dV, kV, doc, pm, an, cdv, ct, osl, rfl, lk, hcd, hD, _⟩ := F.ex
  have KX : K.In s.heap := e0.mod.kin.keeps fun b o e => (e0.bs b o e).1
  have lim : s.heap.NoLimit := e0.mod.nolimit.keeps fun b o e => (e0.bs b o e).1
  have hl := len _ _ _ _ hsp
  have kind : ∀ y ∈ ps.zip us, scope.names.lookup y.1 = some .local ∨ (scope.names.lookup y.1 = some .cell ∧ ((cellsFrom (s.heap.objs.size + 1) scope.names []).lookup y.1).isSome = true) := by
    rintro ⟨n, v⟩ hy
    exact (S.par n (List.of_mem_zip hy).1).imp id fun q => ⟨q, PySem.W.cellsFrom_some _ _ _ (.inl q)⟩
  refine codeAny_call_generator hr.depth (KX _ _ lk) rfl S.co S.gen rfl (PySem.W.codeRec_of KX hcd) (hb _ _ _ _ (wpAny_newFunctionEnv_cells S.kind kind fun env he s1 X1 => ?_))
  subst he
  refine ⟨lim.keeps X1.toInCall.keep, ?_⟩
  have lim1 : s1.heap.NoLimit := lim.keeps X1.toInCall.keep
  obtain ⟨h1, tk, es1, hk1⟩ := X1.done
  have os1 : s1.os = s.os := by rw [es1]
  have gen1 : s1.gens = s.gens := by rw [es1]
  have kp1 := X1.toInCall.keep
  have main : ∀ (go : Obj) (nm qn : Value) (tk2 : Nat), go.cls = .type "generator" → go.data = .fields #[.int s1.gens.size 0, nm, qn] → go.slots = #[] → (∀ h : Heap, (h.push go).get? h.objs.size = some go) →
      GMadeY P w (k + 1) outer H s QE QY (.ref s1.heap.objs.size) { s1 with gens := s1.gens.push (.fresh (.func body (envOfC qual scope s.heap.objs.size f cdv))), toks := tk2, heap := s1.heap.push go } := by
    intro go nm qn tk2 gc gd gs hgp
    refine ⟨_, s1.gens.size, _, rfl, ⟨go, nm, qn, hgp _, gc, gd, gs⟩, Array.getElem?_push_size .., os1, AllBare.push (by rw [gen1]; exact e0.bare) rfl, lim1.keeps fun b o e => Heap.get?_push_of_some _ e, fun b o e => Heap.get?_push_of_some _ (kp1 b o e), ?_⟩
    intro Aw s2 hrw hfr hk2 hos hba
    have e0w : Env0 P w K mg base Aw outer s H := ⟨hfr, e0.mod, e0.bs, e0.bsz, e0.funs, e0.frf, e0.hok, e0.bare⟩
    obtain ⟨t, ht, hq⟩ := hbody cdv Aw outer s H vs QE QY [(s1.heap.objs.size, go)] (hrw.deeper _) hsp
    have I1 := inv_startG (E := E0) S hrw.hd e0w hl r X1
    have I2 := I1.call' (s' := s2) (ch := []) (hos.trans os1.symm) (Un.kept fun b o e => hk2 b o (Heap.get?_push_of_some _ e)) (I1.hok.kept fun b o e => hk2 b o (Heap.get?_push_of_some _ e)) hba fun b z => by simp at z
    have hea : s2.heap.get? s1.heap.objs.size = some go := hk2 _ _ (hgp _)
    have I3 : Inv (gcxY P w K mg base N qual scope f cdv Aw outer s H [(s1.heap.objs.size, go)]) [] (L2.start N vs) H s2 := by
      refine (Inv.pinnedG (pn := [(s1.heap.objs.size, go)]) (pins := []) I2 fun p hp => ?_).wish _
      obtain rfl := List.mem_singleton.mp hp
      exact ⟨hea, I1.hok.fresh (Nat.le_refl _), Nat.ne_of_gt X1.toInCall.ns.lt, I1.nofs (Nat.le_refl _), fun v z => by rw [gd] at z; cases z⟩
    refine seg_func ?_
    have run := ht.run Aw (RY P w outer H s QE) 0 s2 (.func body (envOfC qual scope s.heap.objs.size f cdv)) [] (fun fl => .pure (.done (.ret (match fl with | .ret v => v | _ => .none)))) (fun e => (leaving (envOfC qual scope s.heap.objs.size f cdv) e).wrap (fun _ => .raise e) .raise id id) id id [] s2 (L2.start N vs) H _ QY ⟨over_func, rfl, rfl, rfl⟩ (fun s' fl hs => ?_) I3 hq
    · refine seg_imp (fun _ _ _ _ z => z) (fun n s₀ v s1' kap kap' hkk hY => ?_) 1 run
      obtain ⟨pins, xx, σ, H', I, rv, q⟩ := hY
      exact ⟨xx, H', rv, I.os, I.bare, I.base, I.hok, q, go, _, (I.pin (s1.heap.objs.size, go) (List.mem_append_left _ (List.mem_singleton.mpr rfl))).1, gc, gd⟩
    · cases fl with
      | next =>
        obtain ⟨σ', H', I, q⟩ := hs
        exact seg_end (.ok (.ret .none)) (.inl ⟨.inl rfl, H', I.os, I.bare, I.base, I.hok, q⟩)
      | brk => obtain ⟨_, _, _, q⟩ := hs; exact False.elim q
      | cont => obtain ⟨_, _, _, q⟩ := hs; exact False.elim q
      | ret u =>
        obtain ⟨v, σ', H', I, rv, ev, q⟩ := hs
        subst ev
        obtain rfl : u = Value.none := rv
        exact seg_end (.ok (.ret .none)) (.inl ⟨.inl rfl, H', I.os, I.bare, I.base, I.hok, q⟩)
  exact main _ _ _ _ rfl rfl rfl fun h => Heap.get?_push_size _ rfl
/-! ### for .. in g(..) whose body does not reach a second turn -/
abbrev TGY := L2.St → Hp → (Hp → Prop) → VK → Prop
structure PGY (X : Cx) (k : Nat) (e : Expr) (t : TGY) : Prop where
  run : ∀ (pins : List (Addr × Obj)) (s : Shared) (σ : L2.St) (H : Hp) (QE : Hp → Prop) (QY : VK), Inv X pins σ H s → t σ H QE QY → wpAny (model X.prog X.w) X.A (eval e X.env)
    (fun u s' => ∃ H1 sc, Inv X pins σ H1 sc ∧ GMadeY X.prog X.w k X.stack H1 sc QE QY u s') X.xe s
def tCallY (sp : SpY) (t : TA) : TGY := fun σ H QE QY => t σ H fun vs H1 => sp vs H1 QE QY
section
variable {X : Cx} {k : Nat} {f : Addr} {fd : FuncData} {ps : List Str} {sp : SpY} {x : Str} {p pos : Pos} {e : Expr} {es : List Expr} {t : TA}
theorem pgy_call (F : FnY X.prog X.w X.K X.mg X.base k f fd ps sp) (hr : Room k X.A) (hm : X.mg x = some (.ref f)) (hk : PySem.W.keepIn X.K (.ref f) = true) (hb : Binds X.K fd ps []) (ha : PA X (e :: es) t) (hg : Gl X x := by rfl)
    (hdb : (x == ("__debug__" : Str)) = false := by decide) (he : starEach (e :: es) X.env = (false, eval e X.env) :: starEach es X.env := by rfl) (hpl : (backTo pos (starEach es X.env)).any (·.1) = false := by rfl) :
    PGY X k (.Call (.Name x p) (e :: es) [] pos) (tCallY sp t) := by
  refine ⟨fun pins s σ H QE QY I h => wpAny_Call_Name_kw (ld_glob I hg hm ?_ hdb)⟩
  refine PySem.W.callWith_K (h₀ := X.base) I.ok.mod.kin hk (thn (ha.run pos pins s σ H _ I h) fun us s1 h1 => ?_) he hpl
  obtain ⟨vs, H1, I1, r, q⟩ := h1
  refine ⟨I1.kIn, ?_⟩
  have hl2 : (us ++ []).length = ps.length := by rw [List.append_nil, ← r.length]; exact F.len _ _ _ _ q
  refine wpAny_call (codeAny_mono (F.run X.A X.stack s1 H1 ⟨us, []⟩ (us ++ []) vs QE QY hr I1.env0 (hb s1 us I1.kIn hl2) (by rw [List.append_nil]; exact r) q) fun r s' hq => ?_)
  cases r with
  | error e => exact False.elim hq
  | ok fl =>
    cases fl with
    | ret u => exact ⟨H1, s1, I1, hq⟩
    | next => exact False.elim hq
    | brk => exact False.elim hq
    | cont => exact False.elim hq
end
def tForY (tg : TGY) (g : TG) (tb : TS) : TS := fun D σ H => tg σ H (fun H1 => D.nx σ H1) fun x H1 => g x σ H1 fun σ2 H2 => tb { D with nx := fun _ _ => False, ct := fun _ _ => False, bk := D.nx } σ2 H2
theorem ps_forY {X : Cx} {k : Nat} {tg iter : Expr} {body : List Stmt} {t : TGY} {g : TG} {tb : TS} {pos : Pos} (hp : PassesOwn (model X.prog X.w) X.A X.env X.xe) (hc : X.calm = true) (hr : Room (k + 1) X.A) (hi : PGY X k iter t) (hg : PG X tg g) (hb : PSs X body tb)
    (hs : ∀ x, foldedSetIterable iter X.env x = pure x := by intro _; rfl) : PS X (.For tg iter body [] pos) (tForY t g tb) := by
  refine ⟨fun pins s σ H D I h => ?_⟩
  refine wpAny_For (thn (hi.run pins s σ H _ _ I h) fun v s1 h1 => ?_) hs
  obtain ⟨H1, sc, I1, a, gn, c, rfl, hgen, hgs, hos, hbr, hlim, hkp, wake⟩ := h1
  refine wpAny_pyIter_gen hgen ?_
  refine codeAny_forLoop_any (fun _ s' => s' = s1) ?_ 0 rfl
  rintro n s' rfl
  refine wpAny_passesOwn hp ?_
  have seg := wake X.A.in1 (s'.setGen gn .running) hr.in1 I1.ok.frames (fun b o e => e) hos (allBare_setGen hbr rfl)
  refine next_genG (n := 1) (F := fun _ => fun _ => EndY X.prog X.w X.stack H1 sc fun H1 => D.nx σ H1) (Er := fun _ _ => False) (I.ok.hd hc) hlim hr.depth hgen hgs ⟨rfl, seg⟩ (fun v s₁ gs' hbare hv => ?_) (fun s₁ hp' h' hk => ?_) fun e s₁ he => he.elim
  · obtain ⟨x, H', rv, os1, b1, un, hok, q, o, vs, ho, hcl, hd⟩ := hv
    have I2 : Inv X pins σ H' (s₁.setGen gn gs') := I1.call' (ch := []) (s' := s₁.setGen gn gs') os1 un hok (allBare_setGen b1 hbare) fun b z => by simp at z
    refine go_of (s := s₁.setGen gn gs') ho hcl hd (by decide) ?_
    refine wpAny_passesOwn hp (thn (hg.run pins _ σ H' x v _ I2 rv q) fun _ s3 h3 => ?_)
    obtain ⟨σ3, H3, I3, q3⟩ := h3
    refine wpAny_passesOwn hp (thn (hb.run pins s3 σ3 H3 _ I3 q3) fun f s4 h4 => ?_)
    cases f with
    | next => obtain ⟨_, _, _, z⟩ := h4; exact z.elim
    | cont => obtain ⟨_, _, _, z⟩ := h4; exact z.elim
    | brk => exact h4
    | ret v => exact h4
  · obtain ⟨H', os1, b1, un, hok, q⟩ := hp'
    have I2 : Inv X pins σ H' { s₁.setGen gn .finished with heap := h' } := I1.call' (ch := []) (s' := { s₁.setGen gn .finished with heap := h' }) os1 (un.trans (Un.kept hk)) (hok.kept hk) (allBare_setGen b1 rfl) fun b z => by simp at z
    exact wpAny_execs_nil ⟨σ, H', I2, q⟩
end K45
/-! #### K45Exc -/
namespace K45
open PySem PySem.Spec PyProof.Rows L2
/-! ### an own exception class over RuntimeError with an own __init__ -/
structure RtC (K : PySem.W.Frag) (C : Addr) : Prop where
  made : PySem.W.excInitIn K C rtTail "RuntimeError.__new__" = true
  over : PySem.W.excOver K C rtTail = true
  dct : PySem.W.hasDictIn K C = true
  sa : PySem.W.findIn K (.ref C) "__setattr__" = some (some (.builtin "object.__setattr__"))
  tk : ∀ f ∈ (["first", "second"] : List Str), PySem.W.takerIn K C f = some none
  exC : PySem.W.subIn K (.ref C) (.type "BaseException") = some true
  tyC : PySem.W.typeIn K (.ref C) = some (.type "type")
  kC : PySem.W.keepIn K (.ref C) = true
section
variable {X : Cx} {pins : List (Addr × Obj)} {σ : L2.St} {H : Hp} {s : Shared} {a C dx : Addr} {f : Str} {y : V} {u : Value} {fs : List (Str × V)} {Q : Unit → Shared → Prop} {E : Value → Shared → Prop} {A : Around}
/-- self.f = y, the first one: a dict is laid, it becomes the object's, it takes the field -/
theorem rt_new (T : RtC X.K C) (I : Inv X pins σ H s) (e : H a = some (exo a C none)) (hf : f ∈ (["first", "second"] : List Str)) (ry : RelV y u)
    (h : ∀ dx s', H dx = none → dx ≠ a → Inv X pins σ (upd (upd (upd H dx (exd dx [])) a (exo a C (some dx))) dx (exd dx [(f, y)])) s' → Q () s') : wpAny (model X.prog X.w) A (setAttr (.ref a) f u) Q E s := by
  obtain ⟨cd, hc, hd⟩ := PySem.W.any_some T.dct
  obtain ⟨t1, ho⟩ := exo_at I.hok e
  obtain ⟨hp, g, d, t, os⟩ := s
  refine PySem.W.set_plain I.kIn (ox := PySem.W.excObj C t1 none .none) (od := none) ⟨ho, rfl, rfl, trivial⟩ T.sa ?_
  refine PySem.W.osa_openX (od := none) PySem.F.store_RuntimeError I.kIn (ox := PySem.W.excObj C t1 none .none) ⟨ho, rfl, rfl, trivial⟩ T.over (T.tk f hf) fun b => ?_
  refine wpAny_bind (wpAny_pure (wpAny_bind (PySem.W.instanceDict_exc ho (PySem.W.looks_clsIn I.kIn hc) hd ?_)))
  have hax : a < hp.objs.size := Heap.lt_size ho
  have hne : hp.objs.size ≠ a := Nat.ne_of_gt hax
  have hn : H hp.objs.size = none := I.hok.fresh (Nat.le_refl _)
  -- the three states
  have k1 : ∀ b o, hp.get? b = some o → (hp.push (PySem.W.dictOf [] 0)).get? b = some o := fun b o z => Heap.get?_push_of_some _ z
  have ns0 : (hp.push (PySem.W.dictOf [] 0)).Ns hp.objs.size (fun _ => none) := ⟨_, #[], _, Heap.get?_push_size _ rfl, rfl, fun e he => absurd he (by simp), fun _ => rfl⟩
  have I1 := I.laid (t' := t + 1) (a := hp.objs.size) (o := exd hp.objs.size []) k1 (Nat.le_refl _) (exd_ok (mA := fun _ => none) (Heap.Ns1.of_empty ns0) fun f => True.intro)
  have ea1 : upd H hp.objs.size (exd hp.objs.size []) a = some (exo a C none) := by rw [upd_ne hne.symm]; exact e
  have ho1 : (hp.push (PySem.W.dictOf [] 0)).get? a = some (PySem.W.excObj C t1 none .none) := k1 _ _ ho
  have other : ∀ b o, b ≠ a → (hp.push (PySem.W.dictOf [] 0)).get? b = some o → ((hp.push (PySem.W.dictOf [] 0)).update a fun o => { o with dict := some hp.objs.size }).get? b = some o := fun b o hb z => (Heap.get?_update_ne _ _ _ _ hb).trans z
  have ho2 : ((hp.push (PySem.W.dictOf [] 0)).update a fun o => { o with dict := some hp.objs.size }).get? a = some (PySem.W.excObj C t1 (some hp.objs.size) .none) := Heap.get?_update_self _ ho1 rfl
  have I2 := I1.write (t' := t + 1) (x := a) (e := a) (o := exo a C (some hp.objs.size)) (by rw [ea1]; exact True.intro) (.inl rfl) other ⟨_, ho2⟩ (exo_ok ho2)
  have ns2 : ((hp.push (PySem.W.dictOf [] 0)).update a fun o => { o with dict := some hp.objs.size }).Ns hp.objs.size (fun _ => none) := by
    obtain ⟨o, es, ep, z1, z2⟩ := ns0
    exact ⟨o, es, ep, other _ _ hne z1, z2⟩
  show wpAny _ _ (Builtin.ObjectAttr.storeInDict hp.objs.size (.str f t) f u) _ _ _
  refine PySem.HandSPX.store_in_new ns2 fun h' tk' hn' hs => ?_
  refine h hp.objs.size _ hn hne ?_
  have ed2 : upd (upd H hp.objs.size (exd hp.objs.size [])) a (exo a C (some hp.objs.size)) hp.objs.size = some (exd hp.objs.size []) := by rw [upd_ne hne, upd_same]
  have hd' : ∃ o, h'.get? hp.objs.size = some o := by
    obtain ⟨o, _, _, z, _⟩ := hn'
    exact ⟨o, z⟩
  exact I2.write (t' := tk') (x := hp.objs.size) (e := hp.objs.size) (o := exd hp.objs.size [(f, y)]) (by rw [ed2]; exact True.intro) (.inl rfl) (fun b o hb z => (hs.2 b hb).trans z) hd' (exd_ok hn' (relO_put (fs := []) ry fun g => True.intro))
/-- self.f = y, a further one -/
theorem rt_old (T : RtC X.K C) (I : Inv X pins σ H s) (e : H a = some (exo a C (some dx))) (ed : H dx = some (exd dx fs)) (hl : fs.length ≤ 900) (hf : f ∈ (["first", "second"] : List Str)) (ry : RelV y u)
    (h : ∀ s', Inv X pins σ (upd H dx (exd dx ((f, y) :: fs))) s' → Q () s') : wpAny (model X.prog X.w) A (setAttr (.ref a) f u) Q E s := by
  obtain ⟨cd, hc, hd⟩ := PySem.W.any_some T.dct
  obtain ⟨t1, ho⟩ := exo_at I.hok e
  obtain ⟨mA, hns, rel⟩ := exd_at I.hok ed
  have hw := within_of rel
  obtain ⟨hp, g, d, t, os⟩ := s
  obtain ⟨oD, _, _, hoD, _, _⟩ := hns.count hw
  refine PySem.W.set_plain I.kIn (ox := PySem.W.excObj C t1 (some dx) .none) (od := some oD) ⟨ho, rfl, rfl, hoD⟩ T.sa ?_
  refine PySem.W.osa_openX (od := some oD) PySem.F.store_RuntimeError I.kIn (ox := PySem.W.excObj C t1 (some dx) .none) ⟨ho, rfl, rfl, hoD⟩ T.over (T.tk f hf) fun b => ?_
  refine wpAny_bind (wpAny_pure (wpAny_bind (wpAny_bind (wpAny_loadPart ho (wpAny_bind ((PySem.W.looks_clsIn (I.tok (t + 1)).kIn hc).here ?_))))))
  rw [hd]
  refine wpAny_pure (a := some dx) ?_
  show wpAny _ _ (Builtin.ObjectAttr.storeInDict dx (.str f t) f u) _ _ _
  refine PySem.OEX.store_in_old hns hw (by rw [List.length_map]; omega) fun h' tk' hn' hs => ?_
  have hd' : ∃ o, h'.get? dx = some o := by
    obtain ⟨o, _, _, z, _⟩ := hn'
    exact ⟨o, z⟩
  exact h _ (I.write (t' := tk') (x := dx) (e := dx) (o := exd dx ((f, y) :: fs)) (by rw [ed]; exact True.intro) (.inl rfl) (fun b o hb z => (hs.2 b hb).trans z) hd' (exd_ok hn' (relO_put ry rel)))
/-- RuntimeError.__init__(self, ..) -/
theorem rt_init {us : List Value} {Q : Value → Shared → Prop} (T : RtC X.K C) (I : Inv X pins σ H s) (e : H a = some (exo a C none)) (hl : us.length ≤ sizeLine) (h : ∀ s', Inv X pins σ H s' → Q .none s') :
    wpAny (model X.prog X.w) A (call (.builtin "RuntimeError.__init__") (.ref a :: us)) Q E s := by
  obtain ⟨nm, N, qn, bs, bm, hdct, sn, sub, ab, col, dd, k0, k1, k2, k3, k5, hC, hT⟩ := PySem.W.excInit_of I.kIn T.made
  obtain ⟨t1, ho⟩ := exo_at I.hok e
  obtain ⟨hp, g, d, t, os⟩ := s
  refine wpAny_call (PySem.HandSPX.init_base PySem.F.excBase_RuntimeError hT hC ho hl fun h' t2 k hx => ?_)
  have J := I.write (t' := t) (x := a) (e := a) (o := exo a C none) (by rw [e]; exact True.intro) (.inl rfl) k ⟨_, hx⟩ (exo_ok hx)
  have eu : upd H a (exo a C none) = H := by
    funext b
    by_cases hb : b = a
    · subst hb; rw [upd_same, e]
    · exact upd_ne hb
  rw [eu] at J
  exact h _ J
end
/-! ### readings and rules -/
/-- B.__init__(self, ..), B an own class whose __init__ is RuntimeError's -/
def tRtI (K : PySem.W.Frag) (B : Addr) (tb : TE) (ta : TA) : TE := fun σ H Q => tb σ H fun x H0 => x = .ref B ∧ ta σ H0 fun vs H1 => ∃ (a C : Addr) (ws : List V), vs = .ref a :: ws ∧ ws.length ≤ 1000 ∧ RtC K C ∧ H1 a = some (exo a C none) ∧ Q .non H1
/-- self.f = e -/
def tRtS (K : PySem.W.Frag) (f : Str) (to te : TE) : TS := fun D σ H => te σ H fun y H1 => to σ H1 fun x H2 => ∃ a C : Addr, x = .ref a ∧ RtC K C ∧ f ∈ (["first", "second"] : List Str) ∧
  ((H2 a = some (exo a C none) ∧ ∀ dx, H2 dx = none → dx ≠ a → D.nx σ (upd (upd (upd H2 dx (exd dx [])) a (exo a C (some dx))) dx (exd dx [(f, y)]))) ∨
    ∃ (dx : Addr) (fs : List (Str × V)), H2 a = some (exo a C (some dx)) ∧ H2 dx = some (exd dx fs) ∧ fs.length ≤ 900 ∧ D.nx σ (upd H2 dx (exd dx ((f, y) :: fs))))
/-- C(e, ..), C's own __init__ keeping sp -/
def tMkR (C : Addr) (sp : Sp) (ta : TA) : L2.St → Hp → XK → Prop := fun σ H Q => ta σ H fun vs H1 => vs.length ≤ 1000 ∧ ∀ a, H1 a = none → sp (.ref a :: vs) (upd H1 a (exo a C none))
  (fun v H2 => v = .non ∧ ∃ (d : Addr) (fs : List (Str × V)), H2 a = some (exo a C (some d)) ∧ H2 d = some (exd d fs) ∧ H1 d = none ∧ Q (.ref C) (some d) (upd (del H2 a) d (.xd fs))) E0
section
variable {X : Cx} {o e : Expr} {es : List Expr} {to te : TE} {ta : TA} {f : Str} {p p' p1 p2 pos : Pos}
theorem pe_rtinit {B : Addr} {mc : Value} {pl : Sem Bool} (he : PE X o te) (r : ClX.CRead X.K B mc) (vV : PySem.W.findCls X.K (.ref B) mc "__init__" = some (.val (.builtin "RuntimeError.__init__"))) (ha : PA X (e :: es) ta)
    (hc : eval (.Call (.Attribute o "__init__" p2) (e :: es) [] pos) X.env = (do
      let ov ← eval o X.env
      standAt p2.atName
      let (f, first) ← holding [ov] (getMethod ov "__init__" pl)
      callWith pos f first (backTo pos (starEach (e :: es) X.env)) (backToKw pos (keywordEach [] X.env))) := by rfl)
    (hst : starEach (e :: es) X.env = (false, eval e X.env) :: starEach es X.env := by rfl) (hpl : (backTo pos (starEach es X.env)).any (·.1) = false := by rfl) :
    PE X (.Call (.Attribute o "__init__" p2) (e :: es) [] pos) (tRtI X.K B te ta) := by
  refine ⟨fun pins s σ H Q I h => ?_⟩
  refine PySem.W.methodCall_KW (pl := pl) (thn (he.run pins s σ H _ I h) fun u s1 h1 => ?_) hc
  obtain ⟨x, H1, I1, rx, ex, q⟩ := h1
  subst ex
  obtain rfl : u = Value.ref B := rx
  refine PySem.W.method_cls I1.kIn r.ga (PySem.W.cls_read I1.kIn r.rd vV (wpAny_pure (PySem.W.handed_on rfl ?_)))
  have I2 : Inv X pins σ H1 { s1 with toks := s1.toks + 1 } := I1.tok _
  refine PyProof.Rows.callWith_method1 (thn (ha.run pos pins _ σ H1 _ I2 q) fun us s2 h2 => ?_) hst hpl
  obtain ⟨vs, H2, I3, r1, a, C, ws, ev, hl, T, ea, q2⟩ := h2
  subst ev
  cases r1 with
  | @cons _ u0 _ ur ra rw' =>
    obtain rfl : u0 = Value.ref a := ra
    refine rt_init T I3 ea ?_ fun s' J => ⟨.non, H2, J, rfl, q2⟩
    rw [← Paired.length rw', sizeLine_eq]
    omega
theorem ps_rts (ho : PE X o to) (he : PE X e te) (hs : swapsWith e (some (.Attribute o f p')) pos.line X.env = pure false := by rfl) : PS X (.Assign [.Attribute o f p'] e pos) (tRtS X.K f to te) := by
  refine ⟨fun pins s σ H D I h => plainObj_wpAny_Assign_Attribute (thn (he.run pins s σ H _ I h) fun v s1 h1 => ?_) hs⟩
  obtain ⟨y, H1, I1, r1, q1⟩ := h1
  refine thn (ho.run pins s1 σ H1 _ I1 q1) fun u s2 h2 => ?_
  obtain ⟨x, H2, I2, r2, a, C, ex, T, hf, q⟩ := h2
  subst ex
  obtain rfl : u = Value.ref a := r2
  rcases q with ⟨ea, q⟩ | ⟨dx, fs, ea, ed, hl, q⟩
  · exact rt_new T I2 ea hf r1 fun dx s' n ne J => ⟨σ, _, J, q dx n ne⟩
  · exact rt_old T I2 ea ed hl hf r1 fun s' J => ⟨σ, _, J, q⟩
theorem pmk_rt {x : Str} {C fI : Addr} {k : Nat} {fd : FuncData} {ps : List Str} {sp : Sp} (T : RtC X.K C) (iC : PySem.W.findIn X.K (.ref C) "__init__" = some (some (.ref fI))) (tI : PySem.W.typeIn X.K (.ref fI) = some (.type "function"))
    (F : FnOk X.prog X.w X.K X.mg X.base CX0 k fI fd ps sp) (hr : Room (k + 1) X.A) (hb : Binds X.K fd ps []) (hm : X.mg x = some (.ref C)) (ha : PA X (e :: es) ta) (hg : Gl X x := by rfl)
    (hdb : (x == ("__debug__" : Str)) = false := by decide) (he : starEach (e :: es) X.env = (false, eval e X.env) :: starEach es X.env := by rfl) (hpl : (backTo pos (starEach es X.env)).any (·.1) = false := by rfl) :
    PMk X (.Call (.Name x p) (e :: es) [] pos) (tMkR C sp ta) := by
  intro pins s σ H Q I h
  refine wpAny_Call_Name_kw (ld_glob I hg hm ?_ hdb)
  refine PySem.W.callWith_K (h₀ := X.base) I.ok.mod.kin T.kC (thn (ha.run pos pins s σ H _ I h) fun us s1 h1 => ?_) he hpl
  obtain ⟨vs, H1, I1, r1, hz, q1⟩ := h1
  refine ⟨I1.kIn, ?_⟩
  show wpAny _ _ (call (.ref C) us) _ _ _
  obtain ⟨nm, N, qn, bs, bm, hdct, sn, sub, ab, col, dd, k0, k1, k2, k3, k5, hC, hT⟩ := PySem.W.excInit_of I1.kIn T.made
  obtain ⟨hp, g, dr, tk, os⟩ := s1
  have hn : H1 (hp.objs.size + 1) = none := I1.hok.fresh (Nat.le_succ _)
  have hq := q1 (hp.objs.size + 1) hn
  have kk : ∀ b o, hp.get? b = some o → ((hp.push (PySem.W.kdv_tup us)).push (PySem.HandSPX.excO C hp.objs.size)).get? b = some o := fun b o z => Heap.get?_push_of_some _ (Heap.get?_push_of_some _ z)
  have hget : ((hp.push (PySem.W.kdv_tup us)).push (PySem.HandSPX.excO C hp.objs.size)).get? (hp.objs.size + 1) = some (PySem.HandSPX.excO C hp.objs.size) := by heap_get
  have I2 := I1.laid (t' := tk) (a := hp.objs.size + 1) (o := exo (hp.objs.size + 1) C none) kk (Nat.le_succ _) (exo_ok hget)
  have r2 : Vals (V.ref (hp.objs.size + 1) :: vs) (Value.ref (hp.objs.size + 1) :: us) := .cons rfl r1
  have hl : (Value.ref (hp.objs.size + 1) :: us ++ []).length = ps.length := by
    rw [List.append_nil, ← r2.length]
    exact F.len _ _ _ _ hq
  have hus : us.length ≤ sizeLine := by
    rw [← Paired.length r1, sizeLine_eq]
    omega
  refine wpAny_call (PySem.HandSPX.call_own PySem.F.excBase_RuntimeError hT hC (PySem.W.looks_findIn I1.kIn iC) (fun self => PySem.W.bind_fn I1.kIn self tI) hus
    (codeAny_mono (F.run _ X.stack _ _ ⟨Value.ref (hp.objs.size + 1) :: us, []⟩ (Value.ref (hp.objs.size + 1) :: us ++ []) _ _ E0 (hr.make C us []) (I2.env0.make C us []) (hb _ (Value.ref (hp.objs.size + 1) :: us) I2.kIn hl) (by rw [List.append_nil]; exact r2) hq) fun r s' hq' => ?_))
  cases r with
  | error er => exact (show False from hq').elim
  | ok fl =>
    cases fl with
    | ret u =>
      obtain ⟨v, H2, os2, bare2, un2, hok2, rv, ev, d, fs, ea, ed, hd1, q2⟩ := hq'
      subst ev
      obtain ⟨h2, g2, d2, t2, os'⟩ := s'
      exact ⟨rv, mk_end (raises_own T.exC T.tyC) I1 (Nat.le_succ _) kk un2 hok2 os2 bare2 ea ed hd1 q2⟩
    | next => exact False.elim hq'
    | brk => exact False.elim hq'
    | cont => exact False.elim hq'
end
end K45
namespace K45
open PySem PySem.Spec PyProof.Rows L2
local macro_rules
  | `(tactic| exists ("hp", ())) => `(tactic| with_reducible first
    | assumption
    | (apply SqL.of; exists ("hp", ()))
    | (apply SqT.of; exists ("hp", ()))
    | (apply Same.seq; assumption; exists ("hp", ()))
    | (apply Same.seqT; assumption; exists ("hp", ()))
    | (apply Strm.to; assumption; exists ("hp", ()))
    | (apply DGn.to; assumption; exists ("hp", ()))
    | (apply FitAt.to; assumption; exists ("hp", ()))
    | (apply Fit.to; assumption; exists ("hp", ()))
    | (apply Norm.to; assumption; exists ("hp", ()))
    | (apply Str2.to; assumption; exists ("hp", ()))
    | (apply MOk.to; assumption; exists ("hp", ()))
    | (apply Sch.to; assumption; exists ("hp", ()))
    | apply upd_same
    | (apply Same.to; assumption; exists ("hp", ()))
    | (apply Chg.to; assumption; assumption; assumption; exists ("hp", ()))
    | (apply upd_at; assumption; exists ("hp", ())))
  | `(tactic| exists ("wp1", ())) => `(tactic| first
    | (with_reducible apply w_varG; first
      | with_reducible apply w_var0 | with_reducible apply w_var1 | with_reducible apply w_var2 | with_reducible apply w_var3 | with_reducible apply w_var4 | with_reducible apply w_var5 | with_reducible apply w_var6 | with_reducible apply w_var7 | with_reducible apply w_var8 | with_reducible apply w_var9 | with_reducible apply w_var10 | with_reducible apply w_var11 | with_reducible apply w_var12 | with_reducible apply w_var13 | with_reducible apply w_var14 | with_reducible apply w_var15
      | (with_reducible refine w_var (by with_unfolding_all rfl) ?_))
    | (with_reducible apply w_nameG; first
      | with_reducible apply w_name0 | with_reducible apply w_name1 | with_reducible apply w_name2 | with_reducible apply w_name3 | with_reducible apply w_name4 | with_reducible apply w_name5 | with_reducible apply w_name6 | with_reducible apply w_name7 | with_reducible apply w_name8 | with_reducible apply w_name9 | with_reducible apply w_name10 | with_reducible apply w_name11 | with_reducible apply w_name12 | with_reducible apply w_name13 | with_reducible apply w_name14 | with_reducible apply w_name15
      | with_reducible apply w_name)
    | (with_reducible refine w_aug (by with_unfolding_all rfl) ?_)
    | (with_reducible first
      | apply w_nxq | apply w_nxl | apply w_rtq | apply w_rtl | apply w_seq | apply w_asg | apply w_c | apply w_op | apply w_I0
      | apply w_if | apply w_test | apply w_B | apply w_bl | apply w_ret | apply w_retN | apply w_next | apply w_drop
      | apply w_eqI | apply w_neI | apply w_ifE | apply w_cb | apply w_cons | apply w_nil | apply w_ip | apply w_tup | apply w_lst | apply w_cal | apply w_calK | apply w_exb | apply w_andV | apply w_orV | apply w_notV | apply w_and | apply w_or | apply w_not | apply w_tt | apply w_ff | apply w_ntt | apply w_nff | apply w_chain | apply w_par | apply w_lc | apply w_for | apply w_enum | apply w_rng1 | apply w_rng2 | apply w_ilist | apply w_zip | apply w_yes | apply w_sl | apply w_part | apply w_nopart | apply w_exi | apply w_un | apply w_U | apply w_gcons | apply w_gnil | refine w_lenL (by exists ("hp", ())) ?_ | refine w_lenT (by exists ("hp", ())) ?_ | apply w_sm | apply w_kwM | apply w_dput | apply w_ppn | apply w_ppc | apply w_dget | apply w_ik | apply w_iit | apply w_eqS | apply w_mk | apply w_methC  | apply w_fld | apply w_sfld | apply w_itup | apply w_orT | apply w_gsub | apply w_isNo | apply w_notNo | apply w_dg1v | apply w_dg1p | apply w_dg2c | apply w_dg2p | apply w_dg2pc | apply w_dg2vc | apply w_mx2 | apply w_mn2 | apply w_bm | apply w_two | apply w_isN_int | apply w_isN_non | apply w_isN_ref | apply w_notN_int | apply w_notN_non | apply w_notN_ref | refine w_set2 (by simp only [List.set_cons_zero, List.set_cons_succ]; rfl) ?_ | refine w_set1 (by simp only [List.set_cons_zero, List.set_cons_succ]; rfl) ?_))
  | `(tactic| exists ("sm", ())) => `(tactic| with_reducible first
    | assumption
    | apply Same.refl
    | (apply Same.step; assumption; exists ("sm", ())))
  | `(tactic| exists ("fr", ())) => `(tactic| with_reducible first
    | assumption
    | (apply Same.free; assumption; exists ("fr", ())))
  | `(tactic| exists ("wq1", ())) => `(tactic| first
    | exists ("wp1", ())
    | (with_reducible first
      | refine w_newT0 (newT fun _ _ _ _ _ => ?_) | refine w_newT1 (newT fun _ _ _ _ _ => ?_) | refine w_newT2 (newT fun _ _ _ _ _ => ?_) | refine w_newT3 (newT fun _ _ _ _ _ => ?_)
      | refine w_newL0 (newL fun _ _ _ _ _ => ?_) | refine w_newL1 (newL fun _ _ _ _ _ => ?_) | refine w_newL2 (newL fun _ _ _ _ _ => ?_) | refine w_newL3 (newL fun _ _ _ _ _ => ?_) | refine w_dnew fun _ _ _ _ _ => ?_
      | refine w_neT0 (by exists ("hp", ())) (by exists ("hp", ())) ?_ | refine w_gtup (by exists ("hp", ())) (by with_unfolding_all rfl) ?_ | refine w_neL0 (by exists ("hp", ())) (by exists ("hp", ())) ?_))
  | `(tactic| exists ("wq", ())) => `(tactic| repeat exists ("wq1", ()))
  | `(tactic| exists ("wp", ())) => `(tactic| repeat exists ("wp1", ()))
/-! #### W1 -/
section
/-! ### is_integer -/
abbrev N_scInt : List Str := ["value", "low", "high"]
theorem scInt : FnScope N_scInt ["value", "low", "high"] (defScope sInt) := ⟨rfl, rfl, rfl, by decide +kernel, rfl, by decide +kernel, by decide +kernel⟩
def spInt : Sp := fun vs H Q _ => ∃ v lo hi : Int, vs = [.int v, .int lo, .int hi] ∧ Q (.bl (decide (lo ≤ v ∧ v ≤ hi))) H
abbrev N_scChk : List Str := ["value", "low", "high"]
theorem scChk : FnScope N_scChk ["value", "low", "high"] (defScope sChk) := ⟨rfl, rfl, rfl, by decide +kernel, rfl, by decide +kernel, by decide +kernel⟩
def spChk : Sp := fun vs H Q _ => ∃ v lo hi : Int, vs = [.int v, .int lo, .int hi] ∧ lo ≤ v ∧ v ≤ hi ∧ Q .non H
abbrev N_scAr : List Str := ["arity"]
theorem scAr : FnScope N_scAr ["arity"] (defScope sAr) := ⟨rfl, rfl, rfl, by decide +kernel, rfl, by decide +kernel, by decide +kernel⟩
def spAr : Sp := fun vs H Q _ => ∃ k : Nat, vs = [.int (k : Int)] ∧ 2 ≤ k ∧ k ≤ 9 ∧ Q .non H
abbrev N_scSpl : List Str := ["number", "arity", "exponent"]
theorem scSpl : FnScope N_scSpl ["number", "arity"] (defScope sSpl) := ⟨rfl, rfl, rfl, by decide +kernel, rfl, by decide +kernel, by decide +kernel⟩
def spSpl : Sp := fun vs H Q _ => ∃ n k : Nat, vs = [.int (n : Int), .int (k : Int)] ∧ 1 ≤ n ∧ 2 ≤ k ∧ k ≤ 9 ∧ RetT [.int (expo k n : Nat), .int (core k n : Nat)] H Q
abbrev N_scLSp : List Str := ["_law_number", "_law_k", "_law_found"]
theorem scLSp : FnScope N_scLSp ["_law_number", "_law_k"] (defScope sLSp) := ⟨rfl, rfl, rfl, by decide +kernel, rfl, by decide +kernel, by decide +kernel⟩
abbrev N_scPow : List Str := ["arity", "exponent", "found", "turn"]
theorem scPow : FnScope N_scPow ["arity", "exponent"] (defScope sPow) := ⟨rfl, rfl, rfl, by decide +kernel, rfl, by decide +kernel, by decide +kernel⟩
def spPow : Sp := fun vs H Q _ => ∃ k e : Nat, vs = [.int (k : Int), .int (e : Int)] ∧ k ≤ 9 ∧ e ≤ 11 ∧ Q (.int ((k ^ e : Nat) : Int)) H
abbrev N_scLPw : List Str := ["_law_k", "_law_height", "_law_found", "_law_turn"]
theorem scLPw : FnScope N_scLPw ["_law_k", "_law_height"] (defScope sLPw) := ⟨rfl, rfl, rfl, by decide +kernel, rfl, by decide +kernel, by decide +kernel⟩
/-! ### exponents, one turn -/
theorem splitG_fuel : ∀ f g k n, 2 ≤ k → 1 ≤ n → n ≤ f → n ≤ g → splitG f k n = splitG g k n
  | 0, _, _, _, _, h1, h2, _ => by omega
  | _, 0, _, _, _, h1, _, h3 => by omega
  | f + 1, g + 1, k, n, hk, h1, h2, h3 => by
    unfold splitG
    by_cases h : n % k = 0
    · have e : n = k * (n / k) := by
        have := Nat.div_add_mod n k
        omega
      have hp : 1 ≤ n / k := by
        rcases Nat.eq_zero_or_pos (n / k) with z | z
        · rw [z] at e; omega
        · exact z
      have hl : n / k < n := Nat.div_lt_self h1 (by omega)
      rw [if_pos h, if_pos h, splitG_fuel f g k (n / k) hk hp (by omega) (by omega)]
    · rw [if_neg h, if_neg h]
theorem expo_more {k n : Nat} (hk : 2 ≤ k) (hn : 1 ≤ n) (h : n % k = 0) : 1 ≤ n / k ∧ n / k < n ∧ expo k n = expo k (n / k) + 1 ∧ core k n = core k (n / k) := by
  have e : n = k * (n / k) := by
    have := Nat.div_add_mod n k
    omega
  have hp : 1 ≤ n / k := by
    rcases Nat.eq_zero_or_pos (n / k) with z | z
    · rw [z] at e; omega
    · exact z
  have hl : n / k < n := Nat.div_lt_self hn (by omega)
  obtain ⟨m, hm⟩ : ∃ m, n = m + 1 := ⟨n - 1, by omega⟩
  have u : splitG n k n = ((splitG m k (n / k)).1 + 1, (splitG m k (n / k)).2) := by
    have v : splitG (m + 1) k n = if n % k = 0 then ((splitG m k (n / k)).1 + 1, (splitG m k (n / k)).2) else (0, n) := rfl
    rw [if_pos h, ← hm] at v
    exact v
  have v : splitG m k (n / k) = splitG (n / k) k (n / k) := splitG_fuel _ _ _ _ hk hp (by omega) (Nat.le_refl _)
  unfold expo core
  rw [u, v]
  exact ⟨hp, hl, rfl, rfl⟩
theorem expo_done {k n : Nat} (hn : 1 ≤ n) (h : n % k ≠ 0) : expo k n = 0 ∧ core k n = n := by
  obtain ⟨m, rfl⟩ : ∃ m, n = m + 1 := ⟨n - 1, by omega⟩
  unfold expo core splitG
  rw [if_neg h]
  exact ⟨rfl, rfl⟩
theorem pow_small {k : Nat} (h1 : k ≤ 9) {n : Nat} (hn : n ≤ 11) : k ^ n ≤ 31381059609 := by
  have h2 : k ^ n ≤ 9 ^ n := Nat.pow_le_pow_left h1 _
  have h3 : 9 ^ n ≤ 9 ^ 11 := Nat.pow_le_pow_right (by decide) hn
  exact Nat.le_trans h2 h3
section
variable {P : Program} {w : World} {K : PySem.W.Frag} {mg : Str → Option Value} {base : Heap} {f : Addr} {fd : FuncData}
theorem ok_int {kws : List (Str × V)} (F : FunD K "is_integer" "is_integer" (defArgs sInt) (defBody sInt) (defScope sInt) [] kws f fd) (E : Glob K mg) : FnOk P w K mg base CX0 1 f fd ["value", "low", "high"] spInt := by
  refine F.ok scInt (fun vs H Q E h => ?_) (fun cdv A outer s H vs Q _ hr h => ?_)
  · obtain ⟨v, lo, hi, rfl, _⟩ := h
    rfl
  · obtain ⟨v, lo, hi, rfl, q⟩ := h
    refine ⟨_, PSs.nox (pss_cons (ps_if (PW.pt (pw_or (pt_not (pt_val (pe_callB (call_isiK' (K := K) rfl) (by rfl) E.n_isinstance PyProof.Rows.Boot.«isinstance» (pa_cons (pv 0) (pa_cons (pe_bltn (v := .ty "int") (by rfl) E.n_int PyProof.Rows.Boot.«int» rfl) pa_nil))))) (pw_or1 (pt_val (pe_callB (call_isiK' (K := K) rfl) (by rfl) E.n_isinstance PyProof.Rows.Boot.«isinstance» (pa_cons (pv 0) (pa_cons (pe_bltn (v := .ty "bool") (by rfl) E.n_bool PyProof.Rows.Boot.«bool» rfl) pa_nil)))))))
        (pss_one (ps_ret pe_bl))
        pss_nil)
      (pss_one (ps_ret (pe_and (pe_or (pe_cmpR op_isN' (pv 1) pe_non (nomark _)) (pe_one (pe_cmpR op_le (pv 1) (pv 0) (nomark _)))) (pe_one (pe_or (pe_cmpR op_isN' (pv 2) pe_non (nomark _)) (pe_one (pe_cmpR op_le (pv 0) (pv 2) (nomark _))))))))), ?_⟩
    refine w_start (σ' := [some (.int v), some (.int lo), some (.int hi)]) rfl ?_
    exists ("wp", ())
    refine w_isi "int" true tx_int (by decide +kernel) ?_
    exists ("wp", ())
    refine w_isi "bool" false tx_int (by decide +kernel) ?_
    exists ("wp", ())
    refine w_ite (fun h1 => ?_) (fun h1 => ?_)
    · exists ("wp", ())
      rw [show decide (lo ≤ v ∧ v ≤ hi) = decide (v ≤ hi) by rw [Bool.eq_iff_iff]; simp [h1]] at q
      exact q
    · rw [show decide (lo ≤ v ∧ v ≤ hi) = false by simp [h1]] at q
      exact q
abbrev CInt (P : Program) (w : World) (K : PySem.W.Frag) (mg : Str → Option Value) (base : Heap) := CalK P w K mg base CX0 1 "is_integer" ["value", "low", "high"] 1 ["low", "high"] spInt
theorem ok_chk {dvs : List V} (F : FunD K "check_integer" "check_integer" (defArgs sChk) (defBody sChk) (defScope sChk) dvs [] f fd) (c_is_integer : CInt P w K mg base) : FnOk P w K mg base CX0 2 f fd ["value", "low", "high"] spChk := by
  refine F.ok scChk (fun vs H Q E h => ?_) (fun cdv A outer s H vs Q _ hr h => ?_)
  · obtain ⟨v, lo, hi, rfl, _⟩ := h
    rfl
  · obtain ⟨v, lo, hi, rfl, h1, h2, q⟩ := h
    refine ⟨_, PSs.nox (pss_one (ps_if (pt_not (pt_val (pe_calK c_is_integer (hr.mono (by decide)) (pa_cons (pv 0) pa_nil) (pk_cons (pv 1) (pk_cons (pv 2) pk_nil)))))
        (pss_one ps_never)
        pss_nil)), ?_⟩
    refine w_start (σ' := [some (.int v), some (.int lo), some (.int hi)]) rfl ?_
    exists ("wp", ())
    refine ⟨rfl, rfl, v, lo, hi, rfl, ?_⟩
    rw [decide_eq_true ⟨h1, h2⟩]
    exists ("wp", ())
    exact q
abbrev CChk (P : Program) (w : World) (K : PySem.W.Frag) (mg : Str → Option Value) (base : Heap) := Cal P w K mg base CX0 2 "check_integer" ["value", "low", "high"] spChk
theorem ok_ar (F : FD K "check_arity" "check_arity" sAr f fd) (c_check_integer : CChk P w K mg base) : FnOk P w K mg base CX0 3 f fd ["arity"] spAr := by
  refine F.ok scAr (fun vs H Q E h => ?_) (fun cdv A outer s H vs Q _ hr h => ?_)
  · obtain ⟨k, rfl, _⟩ := h
    rfl
  · obtain ⟨k, rfl, h1, h2, q⟩ := h
    refine ⟨_, PSs.nox (pss_one (ps_expr (pe_cal c_check_integer (hr.mono (by decide)) (pa_cons (pv 0) (pa_cons pe_int (pa_cons pe_int pa_nil)))))), ?_⟩
    refine w_start (σ' := [some (.int k)]) rfl ?_
    exists ("wp", ())
    refine ⟨k, 2, 9, rfl, by omega, by omega, ?_⟩
    exists ("wp", ())
    exact q
theorem ok_spl (F : FD K "split_number" "split_number" sSpl f fd) : FnOk P w K mg base CX0 1 f fd ["number", "arity"] spSpl := by
  refine F.ok scSpl (fun vs H Q E h => ?_) (fun cdv A outer s H vs Q _ hr h => ?_)
  · obtain ⟨n, k, rfl, _⟩ := h
    rfl
  · obtain ⟨n, k, rfl, h1, h2, h3, q⟩ := h
    refine ⟨_, PSs.nox (pss_cons (ps_set (i := 2) scSpl.nd rfl (.inl rfl) pe_int)
      (pss_cons (ps_while PassesOwn.never (pt_cmpR op_eq (pe_op op_mod (pv 0) (pv 1)) pe_int (nomark _))
        (pss_cons (ps_aug (i := 0) scSpl.nd rfl (.inl rfl) (pv 1) ip_fdiv)
        (pss_one (ps_aug (i := 2) scSpl.nd rfl (.inl rfl) pe_int ip_add))))
      (pss_one (ps_ret (pe_tup (pa_cons (pv 2) (pa_cons (pv 0) pa_nil))))))), ?_⟩
    refine w_start (σ' := [some (.int n), some (.int k), none]) rfl ?_
    exists ("wp", ())
    refine ⟨fun m σ H' => H' = H ∧ ∃ e : Nat, 1 ≤ m ∧ expo k n = e + expo k m ∧ core k n = core k m ∧ σ = [some (.int m), some (.int k), some (.int e)], ⟨n, rfl, 0, h1, by omega, rfl, rfl⟩, ?_⟩
    rintro m σ H' ⟨rfl, e, hm, e1, e2, rfl⟩
    exists ("wp", ())
    refine w_I (by omega) ?_
    exists ("wp", ())
    refine w_ite (fun c => ⟨_, fun _ _ h => h, ?_⟩) (fun c => ?_)
    · have c' : m % k = 0 := by omega
      obtain ⟨a1, a2, a3, a4⟩ := expo_more h2 hm c'
      exists ("wp", ())
      refine ⟨_, _, rfl, rfl, ⟨by omega, by omega⟩, ?_⟩
      exists ("wp", ())
      exact ⟨m / k, a2, rfl, e + 1, a1, by omega, by omega, by simp⟩
    · have c' : m % k ≠ 0 := by omega
      obtain ⟨a1, a2⟩ := expo_done hm c'
      exists ("wp", ())
      refine ⟨size2, newT fun p H' hp sm hh => ?_⟩
      refine q p H' hp sm ?_
      rw [hh, e1, e2, a1, a2] <;> rfl
theorem ok_lsp (F : FD K "_law_split" "_law_split" sLSp f fd) : FnOk P w K mg base CX0 1 f fd ["_law_number", "_law_k"] spSpl := by
  refine F.ok scLSp (fun vs H Q E h => ?_) (fun cdv A outer s H vs Q _ hr h => ?_)
  · obtain ⟨n, k, rfl, _⟩ := h
    rfl
  · obtain ⟨n, k, rfl, h1, h2, h3, q⟩ := h
    refine ⟨_, PSs.nox (pss_cons (ps_set (i := 2) scLSp.nd rfl (.inl rfl) pe_int)
      (pss_cons (ps_while PassesOwn.never (pt_cmpR op_eq (pe_op op_mod (pv 0) (pv 1)) pe_int (nomark _))
        (pss_one (ps_par (i := 2) (j := 0) rfl scLSp.nd rfl rfl (by decide) rfl rfl (pa_cons (pe_op op_add (pv 2) pe_int) (pa_cons (pe_op op_fdiv (pv 0) (pv 1)) pa_nil)) (by rfl))))
      (pss_one (ps_ret (pe_tup (pa_cons (pv 2) (pa_cons (pv 0) pa_nil))))))), ?_⟩
    refine w_start (σ' := [some (.int n), some (.int k), none]) rfl ?_
    exists ("wp", ())
    refine ⟨fun m σ H' => H' = H ∧ ∃ e : Nat, 1 ≤ m ∧ expo k n = e + expo k m ∧ core k n = core k m ∧ σ = [some (.int m), some (.int k), some (.int e)], ⟨n, rfl, 0, h1, by omega, rfl, rfl⟩, ?_⟩
    rintro m σ H' ⟨rfl, e, hm, e1, e2, rfl⟩
    exists ("wp", ())
    refine w_I (by omega) ?_
    exists ("wp", ())
    refine w_ite (fun c => ⟨_, fun _ _ h => h, ?_⟩) (fun c => ?_)
    · have c' : m % k = 0 := by omega
      obtain ⟨a1, a2, a3, a4⟩ := expo_more h2 hm c'
      exists ("wp", ())
      refine w_I ⟨by omega, by omega⟩ ?_
      exists ("wp", ())
      exact ⟨m / k, a2, rfl, e + 1, a1, by omega, by omega, by simp⟩
    · have c' : m % k ≠ 0 := by omega
      obtain ⟨a1, a2⟩ := expo_done hm c'
      exists ("wp", ())
      refine ⟨size2, newT fun p H' hp sm hh => ?_⟩
      refine q p H' hp sm ?_
      rw [hh, e1, e2, a1, a2] <;> rfl
theorem ok_pow (F : FD K "power_of" "power_of" sPow f fd) (E : Glob K mg) : FnOk P w K mg base CX0 1 f fd ["arity", "exponent"] spPow := by
  refine F.ok scPow (fun vs H Q E h => ?_) (fun cdv A outer s H vs Q _ hr h => ?_)
  · obtain ⟨k, e, rfl, _⟩ := h
    rfl
  · obtain ⟨k, e, rfl, h1, h2, q⟩ := h
    refine ⟨_, PSs.nox (pss_cons (ps_set (i := 2) scPow.nd rfl (.inl rfl) pe_int)
      (pss_cons (ps_for PassesOwn.never rfl (pi_range1 (by rfl) E.n_range (pa_cons (pv 1) pa_nil)) (pg_name (i := 3) scPow.nd rfl (.inl rfl))
        (pss_one (ps_aug (i := 2) scPow.nd rfl (.inl rfl) (pv 0) ip_mul)))
      (pss_one (ps_ret (pv 2))))), ?_⟩
    refine w_start (σ' := [some (.int k), some (.int e), none, none]) rfl ?_
    exists ("wp", ())
    refine ⟨e, rfl, by omega, by omega, for_range (lo := 0) (n := e) (fun i σ H' => H' = H ∧ ∃ t, σ = [some (.int k), some (.int e), some (.int ((k ^ i : Nat) : Int)), t]) ⟨rfl, none, by simp⟩ ?_ ?_⟩
    · rintro i σ H' hi ⟨rfl, t, rfl⟩
      exists ("wp", ())
      have p2 := pow_small h1 (n := i) (by omega)
      refine ⟨_, _, rfl, rfl, .inl ⟨by omega, by omega⟩, rfl, some (.int (0 + i)), ?_⟩
      rw [Nat.pow_succ, Int.natCast_mul] <;> rfl
    · rintro σ H' ⟨rfl, t, rfl⟩
      exists ("wp", ())
      exact q
theorem ok_lpw (F : FD K "_law_power" "_law_power" sLPw f fd) (E : Glob K mg) : FnOk P w K mg base CX0 1 f fd ["_law_k", "_law_height"] spPow := by
  refine F.ok scLPw (fun vs H Q E h => ?_) (fun cdv A outer s H vs Q _ hr h => ?_)
  · obtain ⟨k, e, rfl, _⟩ := h
    rfl
  · obtain ⟨k, e, rfl, h1, h2, q⟩ := h
    refine ⟨_, PSs.nox (pss_cons (ps_set (i := 2) scLPw.nd rfl (.inl rfl) pe_int)
      (pss_cons (ps_for PassesOwn.never rfl (pi_range1 (by rfl) E.n_range (pa_cons (pv 1) pa_nil)) (pg_name (i := 3) scLPw.nd rfl (.inl rfl))
        (pss_one (ps_set (i := 2) scLPw.nd rfl (.inl rfl) (pe_op op_mul (pv 2) (pv 0)))))
      (pss_one (ps_ret (pv 2))))), ?_⟩
    refine w_start (σ' := [some (.int k), some (.int e), none, none]) rfl ?_
    exists ("wp", ())
    refine ⟨e, rfl, by omega, by omega, for_range (lo := 0) (n := e) (fun i σ H' => H' = H ∧ ∃ t, σ = [some (.int k), some (.int e), some (.int ((k ^ i : Nat) : Int)), t]) ⟨rfl, none, by simp⟩ ?_ ?_⟩
    · rintro i σ H' hi ⟨rfl, t, rfl⟩
      exists ("wp", ())
      have p2 := pow_small h1 (n := i) (by omega)
      refine w_I (.inl ⟨by omega, by omega⟩) ?_
      exists ("wp", ())
      refine ⟨rfl, some (.int (0 + i)), ?_⟩
      rw [Nat.pow_succ, Int.natCast_mul] <;> rfl
    · rintro σ H' ⟨rfl, t, rfl⟩
      exists ("wp", ())
      exact q
end
end
/-! #### W2 -/
section
/-! ### values and places: the mirror -/
def isUp (a : List Int) (i : Nat) : Bool := decide (a.getD i 0 > (0 :: a).getD i 0)
def known (a : List Int) : List Int := ((List.range a.length).filter (isUp a)).map fun i : Nat => (i : Int)
theorem before_getD (a : List Int) {i : Nat} (h : i < a.length) : (0 :: a.dropLast).getD i 0 = (0 :: a).getD i 0 := by
  cases i with
  | zero => rfl
  | succ i =>
    show a.dropLast.getD i 0 = a.getD i 0
    rw [List.getD_eq_getElem?_getD, List.getD_eq_getElem?_getD, List.getElem?_dropLast, if_pos (by omega)]
abbrev N_scPl : List Str := ["values", "before", "label", "value"]
theorem scPl : FnScope N_scPl ["values"] (defScope sPl) := ⟨rfl, rfl, rfl, by decide +kernel, rfl, by decide +kernel, by decide +kernel⟩
def spPl : Sp := fun vs H Q _ => ∃ (p : Addr) (a : List Int), vs = [.ref p] ∧ H p = some (.lst (VI a)) ∧ a.length ≤ 1000 ∧ RetT (VI (known a)) H Q
section
variable {P : Program} {w : World} {K : PySem.W.Frag} {mg : Str → Option Value} {base : Heap} {f : Addr} {fd : FuncData}
theorem ok_pl (F : FD K "places_in" "places_in" sPl f fd) (E : Glob K mg) : FnOk P w K mg base CX0 1 f fd ["values"] spPl := by
  refine F.ok scPl (fun vs H Q E h => ?_) (fun cdv A outer s H vs Q _ hr h => ?_)
  · obtain ⟨p, a, rfl, _⟩ := h
    rfl
  · obtain ⟨p, a, rfl, hp, hl, q⟩ := h
    refine ⟨_, PSs.nox (pss_cons (ps_set (i := 1) scPl.nd rfl (.inr rfl) (pe_op op_cat (pe_lst (pa_cons pe_int pa_nil)) (pe_callTy (call_listK (K := K) rfl) (by rfl) E.n_list PyProof.Rows.Boot.«list» (pa_cons (pe_slice (sl_listK (K := K) rfl) (pv 0) po_none (po_some (pe_un un_neg pe_int))) pa_nil))))
      (pss_one (ps_ret (pe_callTy (call_tupleK (K := K) rfl) (by rfl) E.n_tuple PyProof.Rows.Boot.«tuple» (pa_cons (pe_lc (own := [("label", 2), ("value", 3)]) rfl scPl.nd (pi_enumK (K := K) rfl (by rfl) E.n_enumerate (pa_cons (pv 0) pa_nil)) (blkOk_by (N := N_scPl) (sc := defScope sPl) (by decide +kernel)) (fun _ _ _ _ _ => (pg_tupK (K := K) (n := 2) rfl rfl (pgs_cons (pg_name (i := 2) scPl.nd rfl (.inl rfl) (.inr rfl)) (pgs_cons (pg_name (i := 3) scPl.nd rfl (.inl rfl) (.inr rfl)) pgs_nil)))) (fun _ _ _ _ _ => (pts_one (pt_cmpR op_gt (pv 3) (pe_ix (ix_listK (K := K) rfl) (pv 1) (pv 2) (fun _ _ => rfl)) (nomark _)))) (fun _ _ _ _ _ => (pv 2))) pa_nil))))), ?_⟩
    refine w_start (σ' := [some (.ref p), none, none, none]) rfl ?_
    exists ("wp", ())
    refine ⟨size1, newL fun p1 H1 hp1 s1 h1 => ?_⟩
    exists ("wp", ())
    refine w_slL (by exists ("hp", ())) fun p2 H2 hp2 s2 h2 => ?_
    exists ("wp", ())
    refine w_listL (by exists ("hp", ())) fun p3 H3 hp3 s3 h3 => ?_
    rw [cut_butlast] at h3
    exists ("wp", ())
    refine w_catL (by exists ("hp", ())) (by exists ("hp", ())) (small_le (by simp; omega)) fun p4 H4 hp4 s4 h4 => ?_
    have h4' : H4 p4 = some (.lst (VI (0 :: a.dropLast))) := by rw [h4]; simp [VI, List.map_dropLast]
    exists ("wp", ())
    refine ⟨p, VI a, rfl, (by exists ("hp", ())), fun D hD => ?_⟩
    refine lc_it (walk_enum (xs := VI a)) (CI H4 D fun i => ((List.range i).filter (isUp a)).map fun i : Nat => V.int (i : Int)) (ci_start hD rfl) (fun i H' _ p => ?_) (fun i x H' Hy hi p y => ?_) (fun H' p => ?_)
    · have := p.sm
      exists ("hp", ())
    · obtain ⟨T, u, v, rfl, sy, hT, e1, e2⟩ := pair_in y
      obtain ⟨hi', e2⟩ := vi_get e2
      cases Option.some.inj e1
      subst e2
      have := p.sm
      refine w_gtup (SqT.of hT) rfl ?_
      exists ("wp", ())
      refine ⟨rfl, ?_⟩
      exists ("wp", ())
      refine w_ixI (ns := 0 :: a.dropLast) (by exists ("hp", ())) (by omega) (by simp; omega) ?_
      exists ("wp", ())
      rw [Int.toNat_natCast, before_getD a hi']
      refine w_ite (fun c => ?_) (fun c => ?_)
      · exists ("wp", ())
        refine ci_add p sy ?_ ?_
        · rw [range_filter, if_pos (by unfold isUp; exact decide_eq_true (by omega))]
        · rw [List.length_map]
          have := List.length_filter_le (isUp a) (List.range i)
          rw [List.length_range] at this
          omega
      · refine ci_skip p sy ?_
        rw [range_filter, if_neg (by unfold isUp; intro z; exact c (by have := of_decide_eq_true z; omega))]
    · exists ("wp", ())
      have s5 := p.sm
      have h5 := p.at_
      refine w_tupL (by exists ("hp", ())) fun p6 H6 hp6 s6 h6 => ?_
      refine q p6 H6 (Same.free ?_ hp6) ?_ ?_
      · exact (((s1.trans s2).trans s3).trans s4).trans s5
      · exact ((((s1.trans s2).trans s3).trans s4).trans s5).trans s6
      · rw [h6]
        unfold known VI
        rw [List.map_map, List.length_map] <;> rfl
end
end
/-! #### W3 -/
section
abbrev N_scRe : List Str := ["values", "places"]
theorem scRe : FnScope N_scRe ["values", "places"] (defScope sRe) := ⟨rfl, rfl, rfl, by decide +kernel, rfl, by decide +kernel, by decide +kernel⟩
def lastOf (ns : List Int) : Int := if ns = [] then 0 else ns.getD (ns.length - 1) 0
def spRe (K : PySem.W.Frag) : Sp := fun vs H Q _ => ∃ (p t : Addr) (a ps : List Int), vs = [.ref p, .ref t] ∧ H p = some (.lst (VI a)) ∧ SqT K H t (VI ps) ∧ RetV (.int (a.length - lastOf ps)) H Q
abbrev N_scBo : List Str := ["places", "rest", "found", "earlier", "later"]
theorem scBo : FnScope N_scBo ["places", "rest"] (defScope sBo) := ⟨rfl, rfl, rfl, by decide +kernel, rfl, by decide +kernel, by decide +kernel⟩
def gapsOf (ps : List Int) : List Int := (List.range (ps.length - 1)).map fun i => ps.getD (i + 1) 0 - ps.getD i 0
def bnds (ps : List Int) (rest : Int) : List Int := if ps = [] then [] else gapsOf ps ++ [rest]
def spBo (K : PySem.W.Frag) : Sp := fun vs H Q _ => ∃ (t : Addr) (ps : List Int) (rest : Int), vs = [.ref t, .int rest] ∧ SqT K H t (VI ps) ∧ ps.length ≤ 1000 ∧ RetL (VI (bnds ps rest)) H Q
section
variable {P : Program} {w : World} {K : PySem.W.Frag} {mg : Str → Option Value} {base : Heap} {f : Addr} {fd : FuncData}
theorem ok_re (F : FD K "rest_of" "rest_of" sRe f fd) (E : Glob K mg) : FnOk P w K mg base CX0 1 f fd ["values", "places"] (spRe K) := by
  refine F.ok scRe (fun vs H Q E h => ?_) (fun cdv A outer s H vs Q _ hr h => ?_)
  · obtain ⟨p, t, a, ps, rfl, _⟩ := h
    rfl
  · obtain ⟨p, t, a, ps, rfl, hp, ht, q⟩ := h
    refine ⟨_, PSs.nox (pss_one (ps_ret (pe_op op_sub (pe_callB (call_lenK (K := K) rfl) (by rfl) E.n_len PySem.boot_len (pa_cons (pv 0) pa_nil)) (pe_ifExp (pt_cmpR (op_neDK (K := K) rfl hr.units) (pv 1) (pe_tup pa_nil) (nomark _)) (pe_ix (ix_tupK (K := K) rfl) (pv 1) (pe_un un_neg pe_int) (fun _ _ => rfl)) pe_int)))), ?_⟩
    refine w_start (σ' := [some (.ref p), some (.ref t)]) rfl ?_
    exists ("wq", ())
    rw [List.length_map]
    refine w_iteN (fun c => ?_) (fun c => ?_)
    · exists ("wq", ())
      refine w_ixN1T (ns := ps) (by exists ("hp", ())) (List.length_pos_iff.mpr c) ?_
      exists ("wq", ())
      have e : lastOf ps = ps.getD (ps.length - 1) 0 := if_neg c
      rw [← e]
      exact q _ (by exists ("sm", ()))
    · exists ("wq", ())
      have e : lastOf ps = 0 := if_pos c
      rw [← e]
      exact q _ (by exists ("sm", ()))
theorem drop_getD (ps : List Int) (i : Nat) : (ps.drop 1).getD i 0 = ps.getD (i + 1) 0 := by
  rw [List.getD_eq_getElem?_getD, List.getElem?_drop, List.getD_eq_getElem?_getD, Nat.add_comm]
theorem ok_bo (F : FD K "bounds_of" "bounds_of" sBo f fd) (E : Glob K mg) : FnOk P w K mg base CX0 1 f fd ["places", "rest"] (spBo K) := by
  refine F.ok scBo (fun vs H Q E h => ?_) (fun cdv A outer s H vs Q _ hr h => ?_)
  · obtain ⟨t, ps, rest, rfl, _⟩ := h
    rfl
  · obtain ⟨t, ps, rest, rfl, ht, hl, q⟩ := h
    refine ⟨_, PSs.nox (pss_cons (ps_setLc (i := 2) (own := [("earlier", 3), ("later", 4)]) rfl scBo.nd rfl rfl (sw_true rfl rfl rfl (by decide +kernel)) (pi_zipK (K := K) rfl (by rfl) E.n_zip (pa_cons (pv 0) (pa_cons (pe_slice (sl_tupK (K := K) rfl) (pv 0) (po_some pe_int) po_none) pa_nil))) (blkOk_by (N := N_scBo) (sc := defScope sBo) (by decide +kernel)) (fun _ _ _ _ _ => (pg_tupK (K := K) (n := 2) rfl rfl (pgs_cons (pg_name (i := 3) scBo.nd rfl (.inl rfl) (.inr rfl)) (pgs_cons (pg_name (i := 4) scBo.nd rfl (.inl rfl) (.inr rfl)) pgs_nil)))) (fun _ _ _ _ _ => pts_nil) (fun _ _ _ _ _ => (pe_op op_sub (pv 4) (pv 3))))
      (pss_one (ps_ret (pe_ifExp (pt_cmpR (op_neDK (K := K) rfl hr.units) (pv 0) (pe_tup pa_nil) (nomark _)) (pe_op op_cat (pv 2) (pe_lst (pa_cons (pv 1) pa_nil))) (pe_lst pa_nil))))), ?_⟩
    refine w_start (σ' := [some (.ref t), some (.int rest), none, none, none]) rfl ?_
    exists ("wq", ())
    refine w_slT1 (by exists ("hp", ())) fun t2 H1 s1 ht2 => ?_
    rw [← List.map_drop] at ht2
    exists ("wq", ())
    refine ⟨t, t2, VI ps, VI (ps.drop 1), rfl, .inr ⟨(by exists ("hp", ())), ht2, fun D hD => ?_⟩⟩
    refine lc_it (walk_zipT (n := ps.length - 1) (xs := VI ps) (ys := VI (ps.drop 1)) (by simp)) (CI H1 D fun i => VI ((List.range i).map fun i => ps.getD (i + 1) 0 - ps.getD i 0)) (ci_start hD rfl) (fun i H' _ p => ?_) (fun i x H' Hy hi p y => ?_) (fun H' p => ?_)
    · have := p.sm
      exact ⟨(by exists ("hp", ())), (by exists ("hp", ()))⟩
    · obtain ⟨T, u, v, rfl, sy, hT, e1, e2⟩ := pair_in y
      obtain ⟨_, rfl⟩ := vi_get e1
      obtain ⟨_, rfl⟩ := vi_get e2
      have := p.sm
      refine w_gtup (SqT.of hT) rfl ?_
      exists ("wq", ())
      refine ⟨rfl, ?_⟩
      exists ("wq", ())
      refine ci_add p sy ?_ (by simp; omega)
      rw [VI, VI, range_snoc, List.map_append, drop_getD] <;> rfl
    · have s2 := p.sm
      have h2 := p.at_
      exists ("wq", ())
      refine w_iteN (fun c => ?_) (fun c => ?_)
      · exists ("wq", ())
        refine w_catL (by exists ("hp", ())) (by exists ("hp", ())) (small_le (by simp; omega)) fun p4 H4 hp4 s4 h4 => ?_
        have e : VI (bnds ps rest) = VI ((List.range (ps.length - 1)).map fun i => ps.getD (i + 1) 0 - ps.getD i 0) ++ [.int rest] := by
          rw [bnds, if_neg c, VI, List.map_append] <;> rfl
        exact q _ _ (by exists ("fr", ())) (by exists ("sm", ())) (by rw [e]; exact h4)
      · exists ("wq", ())
        rename_i p5 H5 h5 s5 e5
        have e : VI (bnds ps rest) = [] := by
          rw [bnds, if_pos c] <;> rfl
        exact q _ _ (by exists ("fr", ())) (by exists ("sm", ())) (by rw [e]; exact e5)
end
end
/-! #### W4 -/
section
abbrev N_scIt : List Str := ["_law_row", "_law_index", "_law_front", "_law_loop"]
theorem scIt : FnScope N_scIt ["_law_row", "_law_index"] (defScope sIt) := ⟨rfl, rfl, rfl, by decide +kernel, rfl, by decide +kernel, by decide +kernel⟩
def itemOf (fr lp : List Int) (i : Nat) : Int := if i < fr.length then fr.getD i 0 else lp.getD ((i - fr.length) % lp.length) 0
def spIt (K : PySem.W.Frag) : Sp := fun vs H Q _ => ∃ (r : Addr) (fr lp : List Int) (i : Nat), vs = [.ref r, .int (i : Int)] ∧ Strm K H r fr lp ∧ lp ≠ [] ∧ lp.length ≤ 1000 ∧ Q (.int (itemOf fr lp i)) H
abbrev N_scPc : List Str := ["_law_k", "_law_a", "_law_b", "_law_number", "_law_found", "_law_power_here", "_law_height"]
theorem scPc : FnScope N_scPc ["_law_k", "_law_a", "_law_b", "_law_number"] (defScope sPc) := ⟨rfl, rfl, rfl, by decide +kernel, rfl, by decide +kernel, by decide +kernel⟩
def plGo (k n : Nat) (A B : Nat → Int) : Nat → Nat → Nat → Int → Int
  | 0, _, _, x => x
  | f + 1, p, h, x => if p < n then plGo k n A B f (p * k) (h + 1) (x + A (h + 1) + B (h + 1) * (((n - 1) / (p * k) : Nat) : Int)) else x
def placeOf (k : Nat) (A B : Nat → Int) (n : Nat) : Int := plGo k n A B n 1 0 (A 0 + ((n : Int) - 1) * B 0)
def spPc (K : PySem.W.Frag) : Sp := fun vs H Q _ => ∃ (k : Nat) (r s : Addr) (fa la fb lb : List Int) (n : Nat), vs = [.int (k : Int), .ref r, .ref s, .int (n : Int)] ∧ 2 ≤ k ∧ k ≤ 9 ∧ 1 ≤ n ∧ n ≤ 1000 ∧
  Strm K H r fa la ∧ la ≠ [] ∧ la.length ≤ 1000 ∧ Strm K H s fb lb ∧ lb ≠ [] ∧ lb.length ≤ 1000 ∧ RetV (.int (placeOf k (itemOf fa la) (itemOf fb lb) n)) H Q
section
variable {P : Program} {w : World} {K : PySem.W.Frag} {mg : Str → Option Value} {base : Heap} {f : Addr} {fd : FuncData}
theorem ok_it (F : FD K "_law_item" "_law_item" sIt f fd) (E : Glob K mg) : FnOk P w K mg base CX0 1 f fd ["_law_row", "_law_index"] (spIt K) := by
  refine F.ok scIt (fun vs H Q E h => ?_) (fun cdv A outer s H vs Q _ hr h => ?_)
  · obtain ⟨r, fr, lp, i, rfl, _⟩ := h
    rfl
  · obtain ⟨r, fr, lp, i, rfl, ⟨a, b, h1, h2, h3⟩, hn, hl, q⟩ := h
    refine ⟨_, PSs.nox (pss_cons (ps_asg (pv 0) (pg_tupK (K := K) (n := 2) rfl rfl (pgs_cons (pg_name (i := 2) scIt.nd rfl (.inl rfl)) (pgs_cons (pg_name (i := 3) scIt.nd rfl (.inl rfl)) pgs_nil))))
      (pss_one (ps_ret (pe_ifExp (pt_cmpR op_lt (pv 1) (pe_callB (call_lenK (K := K) rfl) (by rfl) E.n_len PySem.boot_len (pa_cons (pv 2) pa_nil)) (nomark _)) (pe_ix (ix_tupK (K := K) rfl) (pv 2) (pv 1) (fun _ _ => rfl)) (pe_ix (ix_tupK (K := K) rfl) (pv 3) (pe_op op_mod (pe_op op_sub (pv 1) (pe_callB (call_lenK (K := K) rfl) (by rfl) E.n_len PySem.boot_len (pa_cons (pv 2) pa_nil))) (pe_callB (call_lenK (K := K) rfl) (by rfl) E.n_len PySem.boot_len (pa_cons (pv 3) pa_nil))) (fun _ _ => rfl)))))), ?_⟩
    refine w_start (σ' := [some (.ref r), some (.int i), none, none]) rfl ?_
    exists ("wq", ())
    rw [List.length_map]
    refine w_ite (fun c => ?_) (fun c => ?_)
    · exists ("wq", ())
      refine w_ixTn h2 (by omega) ?_
      rw [itemOf, if_pos (by omega)] at q
      exact q
    · exists ("wq", ())
      rw [List.length_map, List.length_map]
      have hp : 0 < lp.length := List.length_pos_iff.mpr hn
      refine w_I (by omega) ?_
      have e : ((i : Int) - fr.length) % lp.length = (((i - fr.length) % lp.length : Nat) : Int) := by
        rw [Int.natCast_emod]
        congr 1
        omega
      rw [e]
      refine w_ixTn h3 (Nat.mod_lt _ hp) ?_
      rw [itemOf, if_neg (by omega)] at q
      exact q
theorem ok_pc (F : FD K "_law_place" "_law_place" sPc f fd) (c__law_item : Cal P w K mg base CX0 1 "_law_item" ["_law_row", "_law_index"] (spIt K)) : FnOk P w K mg base CX0 2 f fd ["_law_k", "_law_a", "_law_b", "_law_number"] (spPc K) := by
  refine F.ok scPc (fun vs H Q E h => ?_) (fun cdv A outer s H vs Q _ hr h => ?_)
  · obtain ⟨k, r, s, fa, la, fb, lb, n, rfl, _⟩ := h
    rfl
  · obtain ⟨k, r, s', fa, la, fb, lb, n, rfl, hk, hk9, hn, hn1, ha, ha0, ha1, hb, hb0, hb1, q⟩ := h
    refine ⟨_, PSs.nox (pss_cons (ps_set (i := 4) scPc.nd rfl (.inl rfl) (pe_op op_add (pe_cal c__law_item (hr.mono (by decide)) (pa_cons (pv 1) (pa_cons pe_int pa_nil))) (pe_op op_mul (pe_op op_sub (pv 3) pe_int) (pe_cal c__law_item (hr.mono (by decide)) (pa_cons (pv 2) (pa_cons pe_int pa_nil))))))
      (pss_cons (ps_asg (pe_tup (pa_cons pe_int (pa_cons pe_int pa_nil))) (pg_tupK (K := K) (n := 2) rfl rfl (pgs_cons (pg_name (i := 5) scPc.nd rfl (.inl rfl)) (pgs_cons (pg_name (i := 6) scPc.nd rfl (.inl rfl)) pgs_nil))))
      (pss_cons (ps_while PassesOwn.never (pt_cmpR op_lt (pv 5) (pv 3) (nomark _))
        (pss_cons (ps_par (i := 5) (j := 6) rfl scPc.nd rfl rfl (by decide) rfl rfl (pa_cons (pe_op op_mul (pv 5) (pv 0)) (pa_cons (pe_op op_add (pv 6) pe_int) pa_nil)) (by rfl))
        (pss_one (ps_set (i := 4) scPc.nd rfl (.inl rfl) (pe_op op_add (pe_op op_add (pv 4) (pe_cal c__law_item (hr.mono (by decide)) (pa_cons (pv 1) (pa_cons (pv 6) pa_nil)))) (pe_op op_mul (pe_cal c__law_item (hr.mono (by decide)) (pa_cons (pv 2) (pa_cons (pv 6) pa_nil))) (pe_op op_fdiv (pe_op op_sub (pv 3) pe_int) (pv 5))))))))
      (pss_one (ps_ret (pv 4)))))), ?_⟩
    refine w_start (σ' := [some (.int k), some (.ref r), some (.ref s'), some (.int n), none, none, none]) rfl ?_
    exists ("wq", ())
    refine ⟨r, fa, la, 0, rfl, (by exists ("hp", ())), ha0, ha1, ?_⟩
    exists ("wq", ())
    refine ⟨s', fb, lb, 0, rfl, (by exists ("hp", ())), hb0, hb1, ?_⟩
    exists ("wq", ())
    refine w_I (.inl ⟨by omega, by omega⟩) ?_
    exists ("wq", ())
    rename_i p1 H1 hp1 s1 h1
    refine ⟨fun m σ H' => H' = H1 ∧ ∃ (p h : Nat) (x : Int), σ = [some (.int k), some (.ref r), some (.ref s'), some (.int n), some (.int x), some (.int p), some (.int h)] ∧
      placeOf k (itemOf fa la) (itemOf fb lb) n = plGo k n (itemOf fa la) (itemOf fb lb) m p h x ∧ n ≤ p * 2 ^ m ∧ 1 ≤ p, ⟨n, rfl, 1, 0, _, rfl, rfl, ?_, Nat.le_refl _⟩, ?_⟩
    · have := Nat.lt_two_pow_self (n := n)
      omega
    rintro m σ H' ⟨rfl, p, h, x, rfl, e, h1, h2⟩
    exists ("wq", ())
    refine w_ite (fun c => ⟨_, fun _ _ h => h, ?_⟩) (fun c => ?_)
    · cases m with
      | zero =>
        exfalso
        simp only [Nat.pow_zero, Nat.mul_one] at h1
        omega
      | succ m =>
        have hpk : p * k ≤ 1000 * 9 := Nat.mul_le_mul (by omega) hk9
        have hpk1 : 1 ≤ p * k := Nat.mul_pos (by omega) (by omega)
        exists ("wq", ())
        refine w_I (.inl ⟨by omega, by omega⟩) ?_
        exists ("wq", ())
        refine ⟨r, fa, la, h + 1, rfl, (by exists ("hp", ())), ha0, ha1, ?_⟩
        exists ("wq", ())
        refine ⟨s', fb, lb, h + 1, rfl, (by exists ("hp", ())), hb0, hb1, ?_⟩
        exists ("wq", ())
        rw [← Int.natCast_mul]
        refine w_I ⟨by omega, by omega⟩ ?_
        have e2 : ((n : Int) - 1) / ((p * k : Nat) : Int) = (((n - 1) / (p * k) : Nat) : Int) := by
          rw [Int.natCast_ediv]
          congr 1
          omega
        rw [e2]
        have h3 : (n - 1) / (p * k) ≤ n - 1 := Nat.div_le_self _ _
        refine w_I (.inr (by
          generalize (n - 1) / (p * k) = d at h3
          exact ⟨by omega, by omega⟩)) ?_
        exists ("wq", ())
        refine ⟨m, by omega, rfl, p * k, h + 1, _, rfl, ?_, ?_, hpk1⟩
        · rw [e, plGo, if_pos (by omega)]
        · rw [Nat.pow_succ] at h1
          have : p * (2 ^ m * 2) = (p * 2) * 2 ^ m := by rw [Nat.mul_comm (2 ^ m) 2, Nat.mul_assoc]
          have h4 : (p * 2) * 2 ^ m ≤ (p * k) * 2 ^ m := Nat.mul_le_mul_right _ (Nat.mul_le_mul_left _ hk)
          omega
    · exists ("wq", ())
      have e3 : plGo k n (itemOf fa la) (itemOf fb lb) m p h x = x := by
        cases m with
        | zero => rfl
        | succ m => rw [plGo, if_neg (by omega)]
      rw [e, e3] at q
      exact q _ (by exists ("sm", ()))
end
end
/-! #### W5 -/
section
/-! ### places grow -/
section
variable {k : Nat} {A B : Nat → Int}
theorem plGo_ge (hA : ∀ i, 0 ≤ A i) (hB : ∀ i, 0 ≤ B i) : ∀ f n p h x, x ≤ plGo k n A B f p h x
  | 0, _, _, _, _ => Int.le_refl _
  | f + 1, n, p, h, x => by
    unfold plGo
    by_cases c : p < n
    · rw [if_pos c]
      have h1 := hA (h + 1)
      have h2 := Int.mul_nonneg (hB (h + 1)) (Int.natCast_nonneg ((n - 1) / (p * k)))
      exact Int.le_trans (by omega) (plGo_ge hA hB f n (p * k) (h + 1) _)
    · rw [if_neg c]; exact Int.le_refl _
theorem plGo_le (hA : ∀ i, 0 ≤ A i) (hB : ∀ i, 0 ≤ B i) (c : Int) (n : Nat) : ∀ f f' p h x x', f ≤ f' → x + c ≤ x' → plGo k n A B f p h x + c ≤ plGo k (n + 1) A B f' p h x'
  | 0, f', p, h, x, x', _, hx => Int.le_trans hx (plGo_ge hA hB f' (n + 1) p h x')
  | f + 1, 0, _, _, _, _, hf, _ => by omega
  | f + 1, f' + 1, p, h, x, x', hf, hx => by
    by_cases d : p < n
    · rw [plGo, if_pos d, plGo, if_pos (by omega)]
      refine plGo_le hA hB c n f f' (p * k) (h + 1) _ _ (by omega) ?_
      have h1 : (((n - 1) / (p * k) : Nat) : Int) ≤ (((n + 1 - 1) / (p * k) : Nat) : Int) := Int.ofNat_le.mpr (Nat.div_le_div_right (by omega))
      have h2 := Int.mul_le_mul_of_nonneg_left h1 (hB (h + 1))
      omega
    · rw [plGo, if_neg d]
      exact Int.le_trans hx (plGo_ge hA hB (f' + 1) (n + 1) p h x')
theorem place_step (hA : ∀ i, 0 ≤ A i) (hB : ∀ i, 0 ≤ B i) (h0 : 1 ≤ B 0) (n : Nat) : placeOf k A B n + 1 ≤ placeOf k A B (n + 1) := by
  refine plGo_le hA hB 1 n n (n + 1) 1 0 _ _ (by omega) ?_
  have e : ((n + 1 : Nat) : Int) - 1 = ((n : Int) - 1) + 1 := by omega
  rw [e, Int.add_mul]
  omega
theorem place_one (hA : ∀ i, 0 ≤ A i) : 0 ≤ placeOf k A B 1 := by
  have h := hA 0
  show 0 ≤ plGo k 1 A B 1 1 0 _
  unfold plGo
  rw [if_neg (by omega)]
  simp
  exact h
end
def Up (s : List Int) : Prop := ∀ i, i < s.length → s.getD i 0 = (0 :: s).getD i 0 ∨ s.getD i 0 = (0 :: s).getD i 0 + 1
theorem snoc_lt (s : List Int) (x : Int) {i : Nat} (h : i < s.length) : (s ++ [x]).getD i 0 = s.getD i 0 := by
  rw [List.getD_eq_getElem?_getD, List.getElem?_append_left h, List.getD_eq_getElem?_getD]
theorem snoc_at (s : List Int) (x : Int) : (s ++ [x]).getD s.length 0 = x := by
  rw [List.getD_eq_getElem?_getD, List.getElem?_append_right (Nat.le_refl _), Nat.sub_self] <;> rfl
theorem Up.snoc {s : List Int} {x : Int} (h : Up s) (hx : x = (0 :: s).getD s.length 0 ∨ x = (0 :: s).getD s.length 0 + 1) : Up (s ++ [x]) := by
  intro i hi
  rw [List.length_append] at hi
  rw [show (0 :: (s ++ [x])) = (0 :: s) ++ [x] from rfl]
  by_cases c : i < s.length
  · rw [snoc_lt s x c, snoc_lt (0 :: s) x (by simp; omega)]
    exact h i c
  · have e : i = s.length := by simp at hi; omega
    subst e
    rw [snoc_at, snoc_lt (0 :: s) x (by simp)]
    exact hx
theorem last_of (s : List Int) : (0 :: s).getD s.length 0 = if s = [] then 0 else s.getD (s.length - 1) 0 := by
  cases s with
  | nil => rfl
  | cons a r => rw [if_neg (by simp)] <;> rfl
abbrev N_scSe : List Str := ["_law_k", "_law_a", "_law_b", "_law_count", "_law_found", "_law_reached", "_law_label"]
theorem scSe : FnScope N_scSe ["_law_k", "_law_a", "_law_b", "_law_count"] (defScope sSe) := ⟨rfl, rfl, rfl, by decide +kernel, rfl, by decide +kernel, by decide +kernel⟩
def spSe (K : PySem.W.Frag) : Sp := fun vs H Q _ => ∃ (k : Nat) (r s : Addr) (fa la fb lb : List Int) (n : Nat), vs = [.int (k : Int), .ref r, .ref s, .int (n : Int)] ∧ 2 ≤ k ∧ k ≤ 9 ∧ n ≤ 100 ∧
  (Strm K H r fa la ∧ la ≠ [] ∧ la.length ≤ 1000) ∧ (Strm K H s fb lb ∧ lb ≠ [] ∧ lb.length ≤ 1000) ∧ ((∀ i, 0 ≤ itemOf fa la i) ∧ (∀ i, 0 ≤ itemOf fb lb i) ∧ 1 ≤ itemOf fb lb 0) ∧
  ∀ sn : List Int, sn.length = n → Up sn → RetL (VI sn) H Q
abbrev N_scKn : List Str := ["_law_seen_here", "_law_label"]
theorem scKn : FnScope N_scKn ["_law_seen_here"] (defScope sKn) := ⟨rfl, rfl, rfl, by decide +kernel, rfl, by decide +kernel, by decide +kernel⟩
def spKn : Sp := fun vs H Q _ => ∃ (p : Addr) (a : List Int), vs = [.ref p] ∧ H p = some (.lst (VI a)) ∧ a.length ≤ 1000 ∧ RetL (VI (known a)) H Q
abbrev N_scLB : List Str := ["_law_known_here", "_law_rest", "_law_found", "_law_index"]
theorem scLB : FnScope N_scLB ["_law_known_here", "_law_rest"] (defScope sLB) := ⟨rfl, rfl, rfl, by decide +kernel, rfl, by decide +kernel, by decide +kernel⟩
def spLB : Sp := fun vs H Q _ => ∃ (p : Addr) (ps : List Int) (rest : Int), vs = [.ref p, .int rest] ∧ H p = some (.lst (VI ps)) ∧ ps.length ≤ 1000 ∧ RetL (VI (bnds ps rest)) H Q
section
variable {P : Program} {w : World} {K : PySem.W.Frag} {mg : Str → Option Value} {base : Heap} {f : Addr} {fd : FuncData}
theorem ok_se (F : FD K "_law_seen" "_law_seen" sSe f fd) (E : Glob K mg) (c__law_place : Cal P w K mg base CX0 2 "_law_place" ["_law_k", "_law_a", "_law_b", "_law_number"] (spPc K)) : FnOk P w K mg base CX0 3 f fd ["_law_k", "_law_a", "_law_b", "_law_count"] (spSe K) := by
  refine F.ok scSe (fun vs H Q E h => ?_) (fun cdv A outer s H vs Q _ hr h => ?_)
  · obtain ⟨k, r, s, fa, la, fb, lb, n, rfl, _⟩ := h
    rfl
  · obtain ⟨k, r, s', fa, la, fb, lb, n, rfl, hk, hk9, hn, ⟨ha, ha0, ha1⟩, ⟨hb, hb0, hb1⟩, ⟨iA, iB, iC⟩, q⟩ := h
    refine ⟨_, PSs.nox (pss_cons (ps_par (i := 4) (j := 5) rfl scSe.nd rfl rfl (by decide) rfl rfl (pa_cons (pe_lst pa_nil) (pa_cons pe_int pa_nil)) (by rfl))
      (pss_cons (ps_for PassesOwn.never rfl (pi_range1 (by rfl) E.n_range (pa_cons (pv 3) pa_nil)) (pg_name (i := 6) scSe.nd rfl (.inl rfl))
        (pss_cons (ps_while PassesOwn.never (pt_cmpR op_le (pe_cal c__law_place (hr.mono (by decide)) (pa_cons (pv 0) (pa_cons (pv 1) (pa_cons (pv 2) (pa_cons (pe_op op_add (pv 5) pe_int) pa_nil))))) (pv 6) (nomark _))
          (pss_one (ps_set (i := 5) scSe.nd rfl (.inl rfl) (pe_op op_add (pv 5) pe_int))))
        (pss_one (ps_expr (pe_appK (K := K) rfl (pv 4) (pa_cons (pv 5) pa_nil))))))
      (pss_one (ps_ret (pv 4))))), ?_⟩
    refine w_start (σ' := [some (.int k), some (.ref r), some (.ref s'), some (.int n), none, none, none]) rfl ?_
    exists ("wq", ())
    rename_i p1 H1 hp1 s1 h1
    refine ⟨n, rfl, by omega, by omega, for_it (walk_range (lo := 0) (n := n)) (fun i σ H' => ∃ (sn : List Int) (r' : Nat) (t : Option V), σ = [some (.int k), some (.ref r), some (.ref s'), some (.int n), some (.ref p1), some (.int r'), t] ∧
      H' p1 = some (.lst (VI sn)) ∧ Same H H' ∧ sn.length = i ∧ Up sn ∧ (0 :: sn).getD i 0 = (r' : Int) ∧ r' ≤ i ∧ (i : Int) ≤ placeOf k (itemOf fa la) (itemOf fb lb) (r' + 1)) ?_ (fun _ _ _ _ _ => trivial) ?_ ?_⟩
    · exact ⟨[], 0, none, rfl, h1, s1, rfl, fun i h => (by cases h), rfl, Nat.le_refl _, place_one iA⟩
    · rintro i x σ H2 H3 hi ⟨sn, r', t, rfl, h2, s2, e1, up, e2, e3, e4⟩ ⟨rfl, rfl⟩
      have e0 : (fun i : Nat => V.int (0 + (i : Int))) i = V.int (i : Int) := congrArg V.int (by omega)
      rw [e0]
      exists ("wq", ())
      have st := place_step (k := k) iA iB iC (r' + 1)
      refine ⟨fun m σ H' => Same H3 H' ∧ ∃ r'' : Nat, σ = [some (.int k), some (.ref r), some (.ref s'), some (.int n), some (.ref p1), some (.int r''), some (.int i)] ∧
        (m = 1 ∧ r'' = r' ∨ m = 0 ∧ r'' = r' + 1 ∧ placeOf k (itemOf fa la) (itemOf fb lb) (r' + 1) ≤ i), ⟨1, Same.refl _, r', rfl, .inl ⟨rfl, rfl⟩⟩, ?_⟩
      rintro m σ H4 ⟨s4, r'', rfl, hm⟩
      exists ("wq", ())
      refine ⟨k, r, s', fa, la, fb, lb, r'' + 1, rfl, hk, hk9, by omega, by omega, (by exists ("hp", ())), ha0, ha1, (by exists ("hp", ())), hb0, hb1, fun H5 s5 => ?_⟩
      exists ("wq", ())
      refine w_ite (fun c => ⟨_, fun _ _ h => h, ?_⟩) (fun c => ?_)
      · rcases hm with ⟨rfl, rfl⟩ | ⟨rfl, rfl, e5⟩
        · exists ("wq", ())
          exact ⟨0, by omega, (by exists ("sm", ())), r'' + 1, rfl, .inr ⟨rfl, rfl, c⟩⟩
        · exfalso
          omega
      · exists ("wq", ())
        refine ⟨ty_lst (by exists ("hp", ())), ?_⟩
        exists ("wq", ())
        refine w_append (by exists ("hp", ())) (small_lt (by simp; omega)) ?_
        exists ("wq", ())
        have hs : Same H H5 := (by exists ("sm", ()))
        refine ⟨sn ++ [(r'' : Int)], r'', _, rfl, ?_, Same.mut hs hp1, by simp [e1], up.snoc ?_, ?_, by omega, ?_⟩
        · rw [upd_same, VI, VI, List.map_append] <;> rfl
        · rw [e1, e2]
          omega
        · have z := snoc_at (0 :: sn) (r'' : Int)
          rw [show (0 :: sn).length = i + 1 by simp [e1]] at z
          exact z
        · omega
    · rintro σ H2 ⟨sn, r', t, rfl, h2, s2, e1, up, e2, e3, e4⟩
      exists ("wq", ())
      exact q sn e1 up _ _ hp1 s2 h2
theorem ok_kn (F : FD K "_law_known" "_law_known" sKn f fd) (E : Glob K mg) : FnOk P w K mg base CX0 1 f fd ["_law_seen_here"] spKn := by
  refine F.ok scKn (fun vs H Q E h => ?_) (fun cdv A outer s H vs Q _ hr h => ?_)
  · obtain ⟨p, a, rfl, _⟩ := h
    rfl
  · obtain ⟨p, a, rfl, hp, hl, q⟩ := h
    refine ⟨_, PSs.nox (pss_one (ps_ret (pe_lc (own := [("_law_label", 1)]) rfl scKn.nd (pi_range1 (by rfl) E.n_range (pa_cons (pe_callB (call_lenK (K := K) rfl) (by rfl) E.n_len PySem.boot_len (pa_cons (pv 0) pa_nil)) pa_nil)) (blkOk_by (N := N_scKn) (sc := defScope sKn) (by decide +kernel)) (fun _ _ _ _ _ => (pg_name (i := 1) scKn.nd rfl (.inl rfl) (.inr rfl))) (fun _ _ _ _ _ => (pts_one (pt_cmpR op_gt (pe_ix (ix_listK (K := K) rfl) (pv 0) (pv 1) (fun _ _ => rfl)) (pe_ix (ix_listK (K := K) rfl) (pe_op op_cat (pe_lst (pa_cons pe_int pa_nil)) (pv 0)) (pv 1) (fun _ _ => rfl)) (nomark _)))) (fun _ _ _ _ _ => (pv 1))))), ?_⟩
    refine w_start (σ' := [some (.ref p), none]) rfl ?_
    exists ("wq", ())
    refine ⟨a.length, by simp, by omega, by omega, fun D hD => ?_⟩
    refine lc_rci (fun i => ((List.range i).filter (isUp a)).map fun i : Nat => V.int (i : Int)) hD (fun i H' hi p sm => ?_) (fun H' sm h' => ?_)
    · exists ("wq", ())
      refine ⟨rfl, ?_⟩
      exists ("wq", ())
      refine w_ixIn (ns := a) (by exists ("hp", ())) hi ?_
      exists ("wq", ())
      rename_i p5 H5 hp5 s5 h5
      refine w_catL (by exists ("hp", ())) (by exists ("hp", ())) (small_le (by simp; omega)) fun p6 H6 hp6 s6 h6 => ?_
      exists ("wq", ())
      refine w_ixIn (i := i) (ns := 0 :: a) (SqL.of h6) (by simp; omega) ?_
      exists ("wq", ())
      refine w_ite (fun c => ?_) (fun c => ?_)
      · exists ("wq", ())
        refine ci_add p (by exists ("sm", ())) ?_ ?_
        · rw [range_filter, if_pos (by unfold isUp; exact decide_eq_true (by omega))]
        · rw [List.length_map]
          have := List.length_filter_le (isUp a) (List.range i)
          rw [List.length_range] at this
          omega
      · refine ci_skip p (by exists ("sm", ())) ?_
        rw [range_filter, if_neg (by unfold isUp; intro z; exact c (by have := of_decide_eq_true z; omega))]
    · refine q _ _ (by exists ("fr", ())) (by exists ("sm", ())) ?_
      rw [h']
      unfold known VI
      rw [List.map_map] <;> rfl
theorem ok_lb (F : FD K "_law_bounds" "_law_bounds" sLB f fd) (E : Glob K mg) : FnOk P w K mg base CX0 1 f fd ["_law_known_here", "_law_rest"] spLB := by
  refine F.ok scLB (fun vs H Q E h => ?_) (fun cdv A outer s H vs Q _ hr h => ?_)
  · obtain ⟨p, ps, rest, rfl, _⟩ := h
    rfl
  · obtain ⟨p, ps, rest, rfl, hp, hl, q⟩ := h
    refine ⟨_, PSs.nox (pss_cons (ps_setLc (i := 2) (own := [("_law_index", 3)]) rfl scLB.nd rfl rfl (sw_true rfl rfl rfl (by decide +kernel)) (pi_range1 (by rfl) E.n_range (pa_cons (pe_op op_sub (pe_callB (call_lenK (K := K) rfl) (by rfl) E.n_len PySem.boot_len (pa_cons (pv 0) pa_nil)) pe_int) pa_nil)) (blkOk_by (N := N_scLB) (sc := defScope sLB) (by decide +kernel)) (fun _ _ _ _ _ => (pg_name (i := 3) scLB.nd rfl (.inl rfl) (.inr rfl))) (fun _ _ _ _ _ => pts_nil) (fun _ _ _ _ _ => (pe_op op_sub (pe_ix (ix_listK (K := K) rfl) (pv 0) (pe_op op_add (pv 3) pe_int) (fun _ _ => rfl)) (pe_ix (ix_listK (K := K) rfl) (pv 0) (pv 3) (fun _ _ => rfl)))))
      (pss_one (ps_ret (pe_op op_cat (pv 2) (pe_op op_rep (pe_lst (pa_cons (pv 1) pa_nil)) (pe_callTy call_intK (by rfl) E.n_int PyProof.Rows.Boot.«int» (pa_cons (pe_cmpR (op_neDK (K := K) rfl hr.units) (pv 0) (pe_lst pa_nil) (nomark _)) pa_nil))))))), ?_⟩
    refine w_start (σ' := [some (.ref p), some (.int rest), none, none]) rfl ?_
    exists ("wq", ())
    refine ⟨(ps.length : Int) - 1, by simp, by omega, by omega, fun D hD => ?_⟩
    rw [show ((ps.length : Int) - 1).toNat = ps.length - 1 by omega]
    refine lc_rci (fun i => VI ((List.range i).map fun i => ps.getD (i + 1) 0 - ps.getD i 0)) hD (fun i H' hi p sm => ?_) (fun H' sm h' => ?_)
    · exists ("wq", ())
      refine ⟨rfl, ?_⟩
      exists ("wq", ())
      refine w_ixIn (i := i + 1) (ns := ps) (by exists ("hp", ())) (by omega) ?_
      exists ("wq", ())
      refine w_ixIn (ns := ps) (by exists ("hp", ())) (by omega) ?_
      exists ("wq", ())
      refine ci_add p (by exists ("sm", ())) ?_ (by simp; omega)
      rw [VI, VI, range_snoc, List.map_append] <;> rfl
    · exists ("wq", ())
      rename_i p5 H5 hp5 s5 h5 p6 H6 hp6 s6 h6
      refine w_intB ?_
      by_cases c : ps = []
      · subst c
        refine w_rep (n := 0) (by exists ("hp", ())) (by omega) fun p7 H7 hp7 s7 h7 => ?_
        refine w_catL (by exists ("hp", ())) (by exists ("hp", ())) (small_le (by simp)) fun p8 H8 hp8 s8 h8 => ?_
        exact q _ _ (by exists ("fr", ())) (by exists ("sm", ())) h8
      · rw [decide_eq_false c]
        refine w_rep (n := 1) (by exists ("hp", ())) (by omega) fun p7 H7 hp7 s7 h7 => ?_
        refine w_catL (by exists ("hp", ())) (by exists ("hp", ())) (small_le (by simp; omega)) fun p8 H8 hp8 s8 h8 => ?_
        refine q _ _ (by exists ("fr", ())) (by exists ("sm", ())) ?_
        rw [h8, bnds, if_neg c, VI, VI, List.map_append] <;> rfl
end
end
/-! #### W6 -/
section
abbrev N_scPn : List Str := ["bounds", "arity", "found", "index", "bound", "exponent", "rest"]
theorem scPn : FnScope N_scPn ["bounds", "arity"] (defScope sPn) := ⟨rfl, rfl, rfl, by decide +kernel, rfl, by decide +kernel, by decide +kernel⟩
def Trip (D : Addr) (H : Hp) (vs : List V) (ls : List (Nat × Nat × Int)) : Prop := vs.length = ls.length ∧ ∀ (i : Nat) (x : V), vs[i]? = some x → ∃ (a : Addr) (l : Nat × Nat × Int), x = V.ref a ∧ ls[i]? = some l ∧ H a = some (.tup [.int (l.1 : Nat), .int (l.2.1 : Nat), .int l.2.2])
theorem Trip.to {D : Addr} {H H' : Hp} {vs : List V} {ls : List (Nat × Nat × Int)} (e : Same H H') (h : Trip D H vs ls) : Trip D H' vs ls :=
  ⟨h.1, fun i x hx => by
    obtain ⟨a, l, h1, h2, h3⟩ := h.2 i x hx
    exact ⟨a, l, h1, h2, e _ _ h3⟩⟩
theorem Trip.snoc {D : Addr} {H : Hp} {vs : List V} {ls : List (Nat × Nat × Int)} {a : Addr} {l : Nat × Nat × Int} (h : Trip D H vs ls) (e : H a = some (.tup [.int (l.1 : Nat), .int (l.2.1 : Nat), .int l.2.2])) : Trip D H (vs ++ [.ref a]) (ls ++ [l]) := by
  refine ⟨by simp [h.1], fun i x hx => ?_⟩
  by_cases c : i < vs.length
  · rw [List.getElem?_append_left c] at hx
    obtain ⟨a, l, h1, h2, h3⟩ := h.2 i x hx
    exact ⟨a, l, h1, by rw [List.getElem?_append_left (by rw [← h.1]; exact c)]; exact h2, h3⟩
  · rw [List.getElem?_append_right (by omega)] at hx
    have e0 : i - vs.length = 0 := by
      cases d : i - vs.length with
      | zero => rfl
      | succ j => rw [d] at hx; cases hx
    rw [e0] at hx
    refine ⟨a, l, (Option.some.inj hx).symm, ?_, e⟩
    rw [List.getElem?_append_right (by rw [← h.1]; omega), ← h.1, e0] <;> rfl
theorem Trip.upd {D : Addr} {H : Hp} {vs : List V} {ls : List (Nat × Nat × Int)} {xs ys : List V} (h : Trip D H vs ls) (e : H D = some (.lst xs)) : Trip D (upd H D (.lst ys)) vs ls :=
  ⟨h.1, fun i x hx => by
    obtain ⟨a, l, h1, h2, h3⟩ := h.2 i x hx
    refine ⟨a, l, h1, h2, ?_⟩
    rw [upd_ne (fun z => by rw [z, e] at h3; cases h3)]
    exact h3⟩
def plainsN (k : Nat) (b : List Int) (n : Nat) : List (Nat × Nat × Int) := ((List.range n).filter fun i => decide (core k (i + 1) ≠ 1)).map fun i => (expo k (i + 1), i + 1, b.getD i 0)
def plains (k : Nat) (b : List Int) : List (Nat × Nat × Int) := plainsN k b b.length
def spPn : Sp := fun vs H Q _ => ∃ (p : Addr) (b : List Int) (k : Nat), vs = [.ref p, .int (k : Int)] ∧ H p = some (.lst (VI b)) ∧ b.length ≤ 1000 ∧ 2 ≤ k ∧ k ≤ 9 ∧
  ∀ q H' us, H q = none → Same H H' → H' q = some (.lst us) → Trip q H' us (plains k b) → Q (.ref q) H'
abbrev N_scWi : List Str := ["_law_bounds_here", "_law_k", "_law_height", "_law_cap", "_law_low", "_law_high", "_law_index", "_law_exponent", "_law_rest", "_law_is_last"]
theorem scWi : FnScope N_scWi ["_law_bounds_here", "_law_k", "_law_height", "_law_cap"] (defScope sWi) := ⟨rfl, rfl, rfl, by decide +kernel, rfl, by decide +kernel, by decide +kernel⟩
def spWi : Sp := fun vs H Q _ => ∃ (p : Addr) (b : List Int) (k h : Nat) (cap : Int), vs = [.ref p, .int (k : Int), .int (h : Int), .int cap] ∧ H p = some (.lst (VI b)) ∧ b.length ≤ 1000 ∧ 2 ≤ k ∧ k ≤ 9 ∧
  RetT [.int (win k b h cap).1, .int (win k b h cap).2] H Q
abbrev N_scTo : List Str := ["_law_bounds_here", "_law_k", "_law_index"]
theorem scTo : FnScope N_scTo ["_law_bounds_here", "_law_k"] (defScope sTo) := ⟨rfl, rfl, rfl, by decide +kernel, rfl, by decide +kernel, by decide +kernel⟩
def spTo : Sp := fun vs H Q _ => ∃ (p : Addr) (b : List Int) (k : Nat), vs = [.ref p, .int (k : Int)] ∧ H p = some (.lst (VI b)) ∧ b.length ≤ 1000 ∧ 2 ≤ k ∧ k ≤ 9 ∧
  RetV (.int (topOf k b.length : Nat)) H Q
theorem fold_cast (f : Nat → Nat) : ∀ (l : List Nat) (a : Nat), (l.map fun i => ((f i : Nat) : Int)).foldl max (a : Int) = ((l.foldl (fun t i => max t (f i)) a : Nat) : Int)
  | [], a => rfl
  | i :: r, a => by
    show (r.map fun i => ((f i : Nat) : Int)).foldl max (max (a : Int) (f i : Int)) = _
    rw [show max (a : Int) (f i : Int) = ((max a (f i) : Nat) : Int) by omega]
    exact fold_cast f r (max a (f i))
section
variable {P : Program} {w : World} {K : PySem.W.Frag} {mg : Str → Option Value} {base : Heap} {f : Addr} {fd : FuncData}
theorem ok_pn (F : FD K "plain_numbers" "plain_numbers" sPn f fd) (E : Glob K mg) (c_split_number : Cal P w K mg base CX0 1 "split_number" ["number", "arity"] spSpl) : FnOk P w K mg base CX0 2 f fd ["bounds", "arity"] spPn := by
  refine F.ok scPn (fun vs H Q E h => ?_) (fun cdv A outer s H vs Q _ hr h => ?_)
  · obtain ⟨p, b, k, rfl, _⟩ := h
    rfl
  · obtain ⟨p, b, k, rfl, hp, hl, hk, hk9, q⟩ := h
    refine ⟨_, PSs.nox (pss_cons (ps_set (i := 2) scPn.nd rfl (.inl rfl) (pe_lst pa_nil))
      (pss_cons (ps_for PassesOwn.never rfl (pi_enumK (K := K) rfl (by rfl) E.n_enumerate (pa_cons (pv 0) pa_nil)) (pg_tupK (K := K) (n := 2) rfl rfl (pgs_cons (pg_name (i := 3) scPn.nd rfl (.inl rfl)) (pgs_cons (pg_name (i := 4) scPn.nd rfl (.inl rfl)) pgs_nil)))
        (pss_cons (ps_asg (pe_cal c_split_number (hr.mono (by decide)) (pa_cons (pe_op op_add (pv 3) pe_int) (pa_cons (pv 1) pa_nil))) (pg_tupK (K := K) (n := 2) rfl rfl (pgs_cons (pg_name (i := 5) scPn.nd rfl (.inl rfl)) (pgs_cons (pg_name (i := 6) scPn.nd rfl (.inl rfl)) pgs_nil))))
        (pss_one (ps_if (pt_cmpR op_ne (pv 6) pe_int (nomark _))
          (pss_one (ps_expr (pe_appK (K := K) rfl (pv 2) (pa_cons (pe_tup (pa_cons (pv 5) (pa_cons (pe_op op_add (pv 3) pe_int) (pa_cons (pv 4) pa_nil)))) pa_nil))))
          pss_nil))))
      (pss_one (ps_ret (pv 2))))), ?_⟩
    refine w_start (σ' := [some (.ref p), some (.int k), none, none, none, none, none]) rfl ?_
    exists ("wq", ())
    rename_i p1 H1 hp1 s1 h1
    refine ⟨p, VI b, rfl, (by exists ("hp", ())), for_it (walk_enum (xs := VI b)) (fun i σ H' => ∃ us t1 t2 t3 t4, σ = [some (.ref p), some (.int k), some (.ref p1), t1, t2, t3, t4] ∧ H' p1 = some (.lst us) ∧ Same H H' ∧ Trip p1 H' us (plainsN k b i)) ⟨[], _, _, _, _, rfl, h1, s1, rfl, fun i x h => by cases h⟩ ?_ ?_ ?_⟩
    · rintro i σ H2 _ ⟨us, t1, t2, t3, t4, rfl, h2, s2, tr⟩
      exact (by exists ("hp", ()))
    · rintro i x σ H2 H3 hi ⟨us, t1, t2, t3, t4, rfl, h2, s2, tr⟩ y
      obtain ⟨T, u, v, rfl, sy, hT, e1, e2⟩ := pair_in y
      obtain ⟨hi', rfl⟩ := vi_get e2
      cases Option.some.inj e1
      exists ("wq", ())
      refine ⟨i + 1, k, rfl, by omega, hk, hk9, fun q4 H4 hq4 s4 h4 => ?_⟩
      exists ("wq", ())
      have hlen : (plainsN k b i).length ≤ i := by
        unfold plainsN
        rw [List.length_map]
        have := List.length_filter_le (fun i => decide (core k (i + 1) ≠ 1)) (List.range i)
        rwa [List.length_range] at this
      have hs : plainsN k b (i + 1) = if decide (core k (i + 1) ≠ 1) = true then plainsN k b i ++ [(expo k (i + 1), i + 1, b.getD i 0)] else plainsN k b i := range_filter _ _ _
      refine w_iteN (fun c => ?_) (fun c => ?_)
      · exists ("wq", ())
        refine ⟨ty_lst (by exists ("hp", ())), ?_⟩
        exists ("wq", ())
        rename_i p5 H5 hp5 s5 h5
        refine w_append (xs := us) (by exists ("hp", ())) (small_lt (by rw [tr.1]; omega)) ?_
        exists ("wq", ())
        have t5 := (Trip.to (H' := H5) (by exists ("sm", ())) tr).snoc (a := p5) (l := (expo k (i + 1), i + 1, b.getD i 0)) h5
        refine ⟨_, _, _, _, _, rfl, upd_same, Same.mut (by exists ("sm", ())) hp1, ?_⟩
        rw [hs, if_pos (decide_eq_true (by omega))]
        exact t5.upd (xs := us) (by exists ("hp", ()))
      · exists ("wq", ())
        refine ⟨us, _, _, _, _, rfl, (by exists ("hp", ())), (by exists ("sm", ())), ?_⟩
        rw [hs, if_neg (fun z => (of_decide_eq_true z) (show core k (i + 1) = 1 by omega))]
        exact Trip.to (by exists ("sm", ())) tr
    · rintro σ H2 ⟨us, t1, t2, t3, t4, rfl, h2, s2, tr⟩
      rw [List.length_map] at tr
      exists ("wq", ())
      exact q p1 _ us hp1 s2 h2 tr
theorem ok_wi (F : FD K "_law_window" "_law_window" sWi f fd) (E : Glob K mg) (c__law_split : Cal P w K mg base CX0 1 "_law_split" ["_law_number", "_law_k"] spSpl) : FnOk P w K mg base CX0 2 f fd ["_law_bounds_here", "_law_k", "_law_height", "_law_cap"] spWi := by
  refine F.ok scWi (fun vs H Q E h => ?_) (fun cdv A outer s H vs Q _ hr h => ?_)
  · obtain ⟨p, b, k, h, cap, rfl, _⟩ := h
    rfl
  · obtain ⟨p, b, k, ht, cap, rfl, hp, hl, hk, hk9, q⟩ := h
    refine ⟨_, PSs.nox (pss_cons (ps_par (i := 4) (j := 5) rfl scWi.nd rfl rfl (by decide) rfl rfl (pa_cons pe_int (pa_cons (pv 3) pa_nil)) (by rfl))
      (pss_cons (ps_for PassesOwn.never rfl (pi_range1 (by rfl) E.n_range (pa_cons (pe_callB (call_lenK (K := K) rfl) (by rfl) E.n_len PySem.boot_len (pa_cons (pv 0) pa_nil)) pa_nil)) (pg_name (i := 6) scWi.nd rfl (.inl rfl))
        (pss_cons (ps_asg (pe_cal c__law_split (hr.mono (by decide)) (pa_cons (pe_op op_add (pv 6) pe_int) (pa_cons (pv 1) pa_nil))) (pg_tupK (K := K) (n := 2) rfl rfl (pgs_cons (pg_name (i := 7) scWi.nd rfl (.inl rfl)) (pgs_cons (pg_name (i := 8) scWi.nd rfl (.inl rfl)) pgs_nil))))
        (pss_cons (ps_set (i := 9) scWi.nd rfl (.inl rfl) (pe_cmpR op_eq (pe_op op_add (pv 6) pe_int) (pe_callB (call_lenK (K := K) rfl) (by rfl) E.n_len PySem.boot_len (pa_cons (pv 0) pa_nil)) (nomark _)))
        (pss_cons (ps_if (PW.pt (pw_and (pt_cmpR op_eq (pv 7) (pv 2) (nomark _)) (pw_and1 (pt_cmpR op_gt (pv 8) pe_int (nomark _)))))
          (pss_one (ps_set (i := 4) scWi.nd rfl (.inl rfl) (pe_callB (call_mx2 rfl) (by rfl) E.n_max PyProof.Rows.Boot.«max» (pa_cons (pv 4) (pa_cons (pe_ix (ix_listK (K := K) rfl) (pv 0) (pv 6) (fun _ _ => rfl)) pa_nil)))))
          pss_nil)
        (pss_one (ps_if (PW.pt (pw_and (pt_cmpR op_eq (pv 7) (pv 2) (nomark _)) (pw_and1 (pt_not (pt_val (pv 9))))))
          (pss_one (ps_set (i := 5) scWi.nd rfl (.inl rfl) (pe_callB (call_mn2 rfl) (by rfl) E.n_min PyProof.Rows.Boot.«min» (pa_cons (pv 5) (pa_cons (pe_ix (ix_listK (K := K) rfl) (pv 0) (pv 6) (fun _ _ => rfl)) pa_nil)))))
          pss_nil))))))
      (pss_one (ps_ret (pe_tup (pa_cons (pv 4) (pa_cons (pv 5) pa_nil))))))), ?_⟩
    refine w_start (σ' := [some (.ref p), some (.int k), some (.int ht), some (.int cap), none, none, none, none, none, none]) rfl ?_
    exists ("wq", ())
    refine ⟨b.length, by simp, by omega, by omega, for_it (walk_range (lo := 0) (n := b.length)) (fun i σ H' => ∃ t1 t2 t3 t4, σ = [some (.ref p), some (.int k), some (.int ht), some (.int cap), some (.int (winN k b ht cap i).1), some (.int (winN k b ht cap i).2), t1, t2, t3, t4] ∧ Same H H') ⟨_, _, _, _, rfl, Same.refl _⟩ (fun _ _ _ _ _ => trivial) ?_ ?_⟩
    · rintro i x σ H2 H3 hi ⟨t1, t2, t3, t4, rfl, s2⟩ ⟨rfl, rfl⟩
      have e0 : (fun i : Nat => V.int (0 + (i : Int))) i = V.int (i : Int) := congrArg V.int (by omega)
      rw [e0, winN_succ]
      exists ("wq", ())
      refine ⟨i + 1, k, rfl, by omega, hk, hk9, fun q4 H4 hq4 s4 h4 => ?_⟩
      exists ("wq", ())
      rw [List.length_map]
      refine w_ite (fun c => ?_) (fun c => ?_)
      · exists ("wq", ())
        refine w_ite (fun c2 => ?_) (fun c2 => ?_)
        · exists ("wq", ())
          refine w_ixIn (ns := b) (by exists ("hp", ())) hi ?_
          exists ("wq", ())
          have el : (winStep k b ht (winN k b ht cap i) i).1 = max (winN k b ht cap i).1 (b.getD i 0) := if_pos ⟨by omega, by omega⟩
          refine w_itT c ?_
          exists ("wq", ())
          refine w_iteN (fun c3 => ?_) (fun c3 => ?_)
          · exists ("wq", ())
            refine w_ixIn (ns := b) (by exists ("hp", ())) hi ?_
            exists ("wq", ())
            have eh : (winStep k b ht (winN k b ht cap i) i).2 = min (winN k b ht cap i).2 (b.getD i 0) := if_pos ⟨by omega, by omega⟩
            exact ⟨_, _, _, _, by rw [el, eh] <;> rfl, (by exists ("sm", ()))⟩
          · have eh : (winStep k b ht (winN k b ht cap i) i).2 = (winN k b ht cap i).2 := if_neg (by omega)
            exact ⟨_, _, _, _, by rw [el, eh] <;> rfl, (by exists ("sm", ()))⟩
        · have el : (winStep k b ht (winN k b ht cap i) i).1 = (winN k b ht cap i).1 := if_neg (by omega)
          exists ("wq", ())
          refine w_itT c ?_
          exists ("wq", ())
          refine w_iteN (fun c3 => ?_) (fun c3 => ?_)
          · exists ("wq", ())
            refine w_ixIn (ns := b) (by exists ("hp", ())) hi ?_
            exists ("wq", ())
            have eh : (winStep k b ht (winN k b ht cap i) i).2 = min (winN k b ht cap i).2 (b.getD i 0) := if_pos ⟨by omega, by omega⟩
            exact ⟨_, _, _, _, by rw [el, eh] <;> rfl, (by exists ("sm", ()))⟩
          · have eh : (winStep k b ht (winN k b ht cap i) i).2 = (winN k b ht cap i).2 := if_neg (by omega)
            exact ⟨_, _, _, _, by rw [el, eh] <;> rfl, (by exists ("sm", ()))⟩
      · have el : (winStep k b ht (winN k b ht cap i) i).1 = (winN k b ht cap i).1 := if_neg (by omega)
        have eh : (winStep k b ht (winN k b ht cap i) i).2 = (winN k b ht cap i).2 := if_neg (by omega)
        exists ("wq", ())
        refine w_itF c ?_
        exists ("wq", ())
        exact ⟨_, _, _, _, by rw [el, eh] <;> rfl, (by exists ("sm", ()))⟩
    · rintro σ H2 ⟨t1, t2, t3, t4, rfl, s2⟩
      exists ("wq", ())
      rename_i p5 H5 hp5 s5 h5
      exact q _ _ (by exists ("fr", ())) (by exists ("sm", ())) h5
theorem ok_to (F : FD K "_law_top" "_law_top" sTo f fd) (E : Glob K mg) (c__law_split : Cal P w K mg base CX0 1 "_law_split" ["_law_number", "_law_k"] spSpl) : FnOk P w K mg base CX0 2 f fd ["_law_bounds_here", "_law_k"] spTo := by
  refine F.ok scTo (fun vs H Q E h => ?_) (fun cdv A outer s H vs Q _ hr h => ?_)
  · obtain ⟨p, b, k, rfl, _⟩ := h
    rfl
  · obtain ⟨p, b, k, rfl, hp, hl, hk, hk9, q⟩ := h
    refine ⟨_, PSs.nox (pss_one (ps_ret (pe_op op_add pe_int (pe_callB (cr_maxK (K := K) rfl rfl) (by rfl) E.n_max PyProof.Rows.Boot.«max» (pa_cons (pe_op op_cat (pe_lst (pa_cons pe_int pa_nil)) (pe_lc (own := [("_law_index", 2)]) rfl scTo.nd (pi_range1 (by rfl) E.n_range (pa_cons (pe_callB (call_lenK (K := K) rfl) (by rfl) E.n_len PySem.boot_len (pa_cons (pv 0) pa_nil)) pa_nil)) (blkOk_by (N := N_scTo) (sc := defScope sTo) (by decide +kernel)) (fun _ _ _ _ _ => (pg_name (i := 2) scTo.nd rfl (.inl rfl) (.inr rfl))) (fun _ _ _ _ _ => pts_nil) (fun _ _ _ _ _ => (pe_ix (ix_tupK (K := K) rfl) (pe_cal c__law_split (hr.mono (by decide)) (pa_cons (pe_op op_add (pv 2) pe_int) (pa_cons (pv 1) pa_nil))) pe_int (fun _ _ => rfl))))) pa_nil))))), ?_⟩
    refine w_start (σ' := [some (.ref p), some (.int k), none]) rfl ?_
    exists ("wq", ())
    rename_i p1 H1 hp1 s1 h1
    refine ⟨b.length, by simp, by omega, by omega, fun D hD => ?_⟩
    refine lc_rci (fun i => VI ((List.range i).map fun i => ((expo k (i + 1) : Nat) : Int))) hD (fun i H' hi p sm => ?_) (fun H' sm h' => ?_)
    · exists ("wq", ())
      refine ⟨rfl, ?_⟩
      exists ("wq", ())
      refine ⟨i + 1, k, rfl, by omega, hk, hk9, fun q4 H4 hq4 s4 h4 => ?_⟩
      exists ("wq", ())
      refine w_ixT (SqT.of h4) rfl ?_
      refine ci_add p (by exists ("sm", ())) ?_ (by simp; omega)
      rw [VI, VI, range_snoc, List.map_append] <;> rfl
    · exists ("wq", ())
      refine w_catL (by exists ("hp", ())) (by exists ("hp", ())) (small_le (by simp; omega)) fun p2 H2 hp2 s2 h2 => ?_
      exists ("wq", ())
      refine w_maxL (a := 0) (ns := (List.range b.length).map fun i => ((expo k (i + 1) : Nat) : Int)) (SqL.of h2) ?_
      exists ("wq", ())
      have e := fold_cast (fun i => expo k (i + 1)) (List.range b.length) 0
      have e2 : (1 : Int) + ((List.range b.length).map fun i => ((expo k (i + 1) : Nat) : Int)).foldl max 0 = ((topOf k b.length : Nat) : Int) := by
        unfold topOf
        rw [show ((List.range b.length).map fun i => ((expo k (i + 1) : Nat) : Int)).foldl max 0 = _ from e]
        omega
      rw [e2]
      exact q _ (by exists ("sm", ()))
end
end
/-! #### W7 -/
section
/-! ### a list of lists -/
def Lists (D : Option Addr) (H : Hp) : List V → List (List Int) → Prop
  | [], [] => True
  | v :: vs, l :: ls => (∃ a : Addr, v = V.ref a ∧ some a ≠ D ∧ H a = some (.lst (VI l))) ∧ Lists D H vs ls
  | _, _ => False
theorem Lists.to {D : Option Addr} {H H' : Hp} (e : Same H H') : ∀ {vs : List V} {ls : List (List Int)}, Lists D H vs ls → Lists D H' vs ls
  | [], [], _ => trivial
  | v :: vs, l :: ls, ⟨⟨a, h1, h2, h3⟩, h⟩ => ⟨⟨a, h1, h2, e _ _ h3⟩, h.to e⟩
theorem Lists.app {D : Option Addr} {H : Hp} {us : List V} {ms : List (List Int)} (g : Lists D H us ms) : ∀ {vs : List V} {ls : List (List Int)}, Lists D H vs ls → Lists D H (vs ++ us) (ls ++ ms)
  | [], [], _ => g
  | v :: vs, l :: ls, ⟨h1, h⟩ => ⟨h1, Lists.app g h⟩
theorem Lists.len {D : Option Addr} {H : Hp} : ∀ {vs : List V} {ls : List (List Int)}, Lists D H vs ls → vs.length = ls.length
  | [], [], _ => rfl
  | v :: vs, l :: ls, ⟨_, h⟩ => congrArg (· + 1) h.len
theorem Lists.get {D : Option Addr} {H : Hp} : ∀ {vs : List V} {ls : List (List Int)} {i : Nat} {v : V}, Lists D H vs ls → vs[i]? = some v → ∃ (a : Addr) (l : List Int), v = V.ref a ∧ ls[i]? = some l ∧ H a = some (.lst (VI l))
  | [], _, i, v, _, h => by simp at h
  | u :: vs, [], _, _, h, _ => h.elim
  | u :: vs, l :: ls, 0, v, ⟨⟨a, h1, h2, h3⟩, _⟩, h => ⟨a, l, by simp at h; rw [← h]; exact h1, rfl, h3⟩
  | u :: vs, l :: ls, i + 1, v, ⟨_, h⟩, e => h.get (i := i) e
theorem Lists.one {D : Option Addr} {H : Hp} {p : Addr} {l : List Int} (n : some p ≠ D) (h : H p = some (.lst (VI l))) : Lists D H [V.ref p] [l] := And.intro (Exists.intro p (And.intro rfl (And.intro n h))) trivial
theorem Lists.forget {D : Option Addr} {H : Hp} : ∀ {vs : List V} {ls : List (List Int)}, Lists D H vs ls → Lists none H vs ls
  | [], [], _ => trivial
  | v :: vs, l :: ls, ⟨⟨a, h1, _, h3⟩, h⟩ => ⟨⟨a, h1, by simp, h3⟩, h.forget⟩
theorem Lists.upd {D : Addr} {H : Hp} {o : HO} : ∀ {vs : List V} {ls : List (List Int)}, Lists (some D) H vs ls → Lists (some D) (upd H D o) vs ls
  | [], [], _ => trivial
  | v :: vs, l :: ls, ⟨⟨a, h1, h2, h3⟩, h⟩ => ⟨⟨a, h1, h2, by rw [upd_ne (fun z => h2 (by rw [z]))]; exact h3⟩, h.upd⟩
abbrev N_scSu : List Str := ["_law_bounds_here", "_law_k", "_law_cap", "_law_found", "_law_height", "_law_low", "_law_high", "_law_longer", "_law_sums_here", "_law_part"]
theorem scSu : FnScope N_scSu ["_law_bounds_here", "_law_k", "_law_cap"] (defScope sSu) := ⟨rfl, rfl, rfl, by decide +kernel, rfl, by decide +kernel, by decide +kernel⟩
def spSu : Sp := fun vs H Q _ => ∃ (p : Addr) (b : List Int) (k : Nat) (cap : Int), vs = [.ref p, .int (k : Int), .int cap] ∧ H p = some (.lst (VI b)) ∧ b.length ≤ 19 ∧ 2 ≤ k ∧ k ≤ 9 ∧ 0 ≤ cap ∧ cap ≤ 2000 ∧ (∀ i, 0 ≤ b.getD i 0 ∧ b.getD i 0 ≤ 2000) ∧
  (∀ n, n ≤ topOf k b.length + 1 → (sumsN k b cap n).length ≤ sizeLine) ∧
  ∀ q H' us, Same H H' → H' q = some (.lst us) → Lists none H' us (sumsN k b cap (topOf k b.length + 1)) → Q (.ref q) H'
theorem span_snoc (lo : Int) (f : Int → List Int) (i : Nat) : ((List.range (i + 1)).map fun j : Nat => f (lo + (j : Int))) = ((List.range i).map fun j : Nat => f (lo + (j : Int))) ++ [f (lo + (i : Int))] := range_snoc _ _
theorem longer_eq (w : Int × Int) (s : List Int) : longer w s = (List.range (w.2 + 1 - (match s.getLast? with | some l => max w.1 l | none => w.1)).toNat).map fun j : Nat => s ++ [(match s.getLast? with | some l => max w.1 l | none => w.1) + (j : Int)] := by
  unfold longer span
  rw [List.map_map] <;> rfl
theorem flat_take {α β : Type} (f : α → List β) : ∀ (l : List α) (i : Nat) (x : α), l[i]? = some x → (l.take (i + 1)).flatMap f = (l.take i).flatMap f ++ f x := by
  intro l i x h
  rw [List.take_succ, h, List.flatMap_append]
  simp
theorem flat_le {α β : Type} (f : α → List β) (l : List α) (i : Nat) : ((l.take i).flatMap f).length ≤ (l.flatMap f).length := by
  have e : l.flatMap f = (l.take i).flatMap f ++ (l.drop i).flatMap f := by rw [← List.flatMap_append, List.take_append_drop]
  rw [e, List.length_append]
  omega
def tailL (s : List Int) : List Int := match s.getLast? with | some l => [l] | none => []
theorem cut_last (s : List Int) : cutV (VI s) (some (-1)) none = VI (tailL s) := by
  have e : HT.sIx (VI s).length 0 (some (-1)) = s.length - 1 := by
    show (if (-1 : Int) < 0 then ((-1 : Int) + ((VI s).length : Int)).toNat else min (-1 : Int).toNat (VI s).length) = s.length - 1
    rw [if_pos (by decide), List.length_map]; omega
  unfold cutV
  rw [e, HT.sIx_none, List.take_of_length_le (by rw [List.length_drop]; omega)]
  rcases List.eq_nil_or_concat s with rfl | ⟨r, x, rfl⟩
  · rfl
  · simp [VI, tailL]
def lowFrom (lo : Int) (s : List Int) : Int := match s.getLast? with | some l => max lo l | none => lo
theorem lowFrom_ge (lo : Int) (s : List Int) : lo ≤ lowFrom lo s := by
  unfold lowFrom
  cases s.getLast? with
  | none => exact Int.le_refl _
  | some l => exact Int.le_max_left ..
theorem max_tail (lo : Int) (s : List Int) : (tailL s).foldl max lo = lowFrom lo s := by
  unfold tailL lowFrom
  cases s.getLast? <;> rfl
section
variable {P : Program} {w : World} {K : PySem.W.Frag} {mg : Str → Option Value} {base : Heap} {f : Addr} {fd : FuncData}
theorem ok_su (F : FD K "_law_sums" "_law_sums" sSu f fd) (E : Glob K mg) (c__law_top : Cal P w K mg base CX0 2 "_law_top" ["_law_bounds_here", "_law_k"] spTo)
    (c__law_window : Cal P w K mg base CX0 2 "_law_window" ["_law_bounds_here", "_law_k", "_law_height", "_law_cap"] spWi) : FnOk P w K mg base CX0 3 f fd ["_law_bounds_here", "_law_k", "_law_cap"] spSu := by
  refine F.ok scSu (fun vs H Q E h => ?_) (fun cdv A outer s H vs Q _ hr h => ?_)
  · obtain ⟨p, b, k, cap, rfl, _⟩ := h
    rfl
  · obtain ⟨p, b, k, cap, rfl, hp, hl, hk, hk9, hcap0, hcap, hb, hsz, q⟩ := h
    refine ⟨_, PSs.nox (pss_cons (ps_set (i := 3) scSu.nd rfl (.inl rfl) (pe_lst (pa_cons (pe_lst pa_nil) pa_nil)))
      (pss_cons (ps_for PassesOwn.never rfl (pi_range1 (by rfl) E.n_range (pa_cons (pe_op op_add (pe_cal c__law_top (hr.mono (by decide)) (pa_cons (pv 0) (pa_cons (pv 1) pa_nil))) pe_int) pa_nil)) (pg_name (i := 4) scSu.nd rfl (.inl rfl))
        (pss_cons (ps_asg (pe_cal c__law_window (hr.mono (by decide)) (pa_cons (pv 0) (pa_cons (pv 1) (pa_cons (pv 4) (pa_cons (pv 2) pa_nil))))) (pg_tupK (K := K) (n := 2) rfl rfl (pgs_cons (pg_name (i := 5) scSu.nd rfl (.inl rfl)) (pgs_cons (pg_name (i := 6) scSu.nd rfl (.inl rfl)) pgs_nil))))
        (pss_cons (ps_set (i := 7) scSu.nd rfl (.inl rfl) (pe_lst pa_nil))
        (pss_cons (ps_for PassesOwn.never rfl (pi_listK (K := K) rfl (pv 3)) (pg_name (i := 8) scSu.nd rfl (.inr rfl))
          (pss_one (ps_set (i := 7) scSu.nd rfl (.inl rfl) (pe_op op_cat (pv 7) (pe_lc (own := [("_law_part", 9)]) rfl scSu.nd (pi_range2 (by rfl) E.n_range (pa_cons (pe_callB (cr_maxK (K := K) rfl rfl) (by rfl) E.n_max PyProof.Rows.Boot.«max» (pa_cons (pe_op op_cat (pe_lst (pa_cons (pv 5) pa_nil)) (pe_slice (sl_listK (K := K) rfl) (pv 8) (po_some (pe_un un_neg pe_int)) po_none)) pa_nil)) (pa_cons (pe_op op_add (pv 6) pe_int) pa_nil))) (blkOk_by (N := N_scSu) (sc := defScope sSu) (by decide +kernel)) (fun _ _ _ _ _ => (pg_name (i := 9) scSu.nd rfl (.inl rfl) (.inr rfl))) (fun _ _ _ _ _ => pts_nil) (fun _ _ _ _ _ => (pe_op op_cat (pv 8) (pe_lst (pa_cons (pv 9) pa_nil)))))))))
        (pss_one (ps_set (i := 3) scSu.nd rfl (.inl rfl) (pv 7)))))))
      (pss_one (ps_ret (pv 3))))), ?_⟩
    refine w_start (σ' := [some (.ref p), some (.int k), some (.int cap), none, none, none, none, none, none, none]) rfl ?_
    exists ("wq", ())
    rename_i p1 H1 hp1 s1 h1 p2 H2 hp2 s2 h2
    refine ⟨p, b, k, rfl, (by exists ("hp", ())), by omega, hk, hk9, fun H3 s3 => ?_⟩
    exists ("wq", ())
    refine ⟨((topOf k b.length + 1 : Nat) : Int), by simp, by omega, ?_, ?_⟩
    · have := top_small (k := k) hk hl
      omega
    rw [Int.toNat_natCast]
    have li0 : Lists none H3 [V.ref p1] [[]] := by
      have h1' : H3 p1 = some (.lst []) := (by exists ("hp", ()))
      exact Lists.one (l := []) (by simp) h1'
    refine for_it (walk_range (lo := 0) (n := topOf k b.length + 1)) (fun h σ H' => ∃ F us t4 t5 t6 t7 t8, σ = [some (.ref p), some (.int k), some (.int cap), some (.ref F), t4, t5, t6, t7, t8, none] ∧ H' F = some (.lst us) ∧ Same H H' ∧ Lists none H' us (sumsN k b cap h)) ⟨p2, [.ref p1], none, none, none, none, none, rfl, (by exists ("hp", ())), (by exists ("sm", ())), li0⟩ (fun _ _ _ _ _ => trivial) ?_ ?_
    · rintro h x σ H4 H4' hi ⟨F, us, t4, t5, t6, t7, t8, rfl, h4, s4, li⟩ ⟨rfl, rfl⟩
      have e0 : (fun i : Nat => V.int (0 + (i : Int))) h = V.int (h : Int) := congrArg V.int (by omega)
      rw [e0]
      exists ("wq", ())
      refine ⟨p, b, k, h, cap, rfl, (by exists ("hp", ())), by omega, hk, hk9, fun q5 H5 hq5 s5 h5 => ?_⟩
      exists ("wq", ())
      rename_i Lg H6 hp6 s6 h6
      refine ⟨F, rfl, ⟨us, (by exists ("hp", ()))⟩, ?_⟩
      refine for_it (walk_list (xs := us)) (fun i σ H' => ∃ G ys t8, σ = [some (.ref p), some (.int k), some (.int cap), some (.ref F), some (.int h), some (.int (win k b h cap).1), some (.int (win k b h cap).2), some (.ref G), t8, none] ∧ H' G = some (.lst ys) ∧ Same H6 H' ∧ Lists none H' ys (((sumsN k b cap h).take i).flatMap (longer (win k b h cap)))) ⟨Lg, _, _, rfl, h6, Same.refl _, trivial⟩ ?_ ?_ ?_
      · rintro i σ H7 _ ⟨G, ys, t8, rfl, h7, s7, l7⟩
        exact (by exists ("hp", ()))
      · rintro i x σ H7 H7' hi7 ⟨G, ys, t8, rfl, h7, s7, l7⟩ ⟨rfl, hx⟩
        obtain ⟨a, s', rfl, hs0, hs'⟩ := (Lists.to (H' := H7') (by exists ("sm", ())) li).get hx
        exists ("wq", ())
        rename_i p8 H8 hp8 s8 h8
        refine w_slL (xs := VI s') (by exists ("hp", ())) fun p9 H9 hp9 s9 h9 => ?_
        rw [cut_last] at h9
        exists ("wq", ())
        refine w_catL (by exists ("hp", ())) (by exists ("hp", ())) (small_le (by unfold tailL; cases s'.getLast? <;> simp)) fun p10 H10 hp10 s10 h10 => ?_
        exists ("wq", ())
        refine w_maxL (a := (win k b h cap).1) (ns := tailL s') (SqL.of h10) ?_
        rw [max_tail]
        exists ("wq", ())
        have w1 := ((win_lo k b h cap _ b.length).mp (Int.le_refl _)).1
        have w2 := ((win_hi k b h cap _ b.length).mp (Int.le_refl _)).1
        have w3 := lowFrom_ge (win k b h cap).1 s'
        have w4 : 0 ≤ (win k b h cap).2 := (win_hi k b h cap 0 b.length).mpr ⟨hcap0, fun i _ _ _ => (hb i).1⟩
        have w5 : (win k b h cap).1 ≤ 2000 := (win_lo k b h cap 2000 b.length).mpr ⟨by omega, fun i _ _ _ => (hb i).2⟩
        have row := mem_sums.mp (List.mem_of_getElem? hs0)
        have w6 := row.len
        have w7 : lowFrom (win k b h cap).1 s' ≤ 2000 := by
          unfold lowFrom
          cases e : s'.getLast? with
          | none => exact w5
          | some l =>
            have hl1 : l ∈ s' := List.mem_of_getLast? e
            obtain ⟨j, hj, rfl⟩ := List.mem_iff_getElem.mp hl1
            have z1 := row.hi j (by omega)
            have z2 := ((win_hi k b j cap _ b.length).mp (Int.le_refl _)).1
            have z3 : (win k b j cap).2 ≤ cap := z2
            rw [List.getD_eq_getElem?_getD, List.getElem?_eq_getElem hj] at z1
            have z4 : s'[j] ≤ (win k b j cap).2 := z1
            show max (win k b h cap).1 s'[j] ≤ 2000
            omega
        refine ⟨lowFrom (win k b h cap).1 s', (win k b h cap).2 + 1, rfl, ⟨by unfold win at *; omega, by unfold win at *; omega, by unfold win at *; omega, by unfold win at *; omega⟩, fun D hD => ?_⟩
        have Same7 : Same H7' H10 := (by exists ("sm", ()))
        have le7 := longer_eq (win k b h cap) s'
        refine lc_it (walk_range (lo := lowFrom (win k b h cap).1 s')) (fun j H' => ∃ zs, H' D = some (.lst zs) ∧ Lists (some D) H' zs ((List.range j).map fun j : Nat => s' ++ [lowFrom (win k b h cap).1 s' + (j : Int)]) ∧ Same H10 H') ⟨[], upd_same, trivial, Same.new hD⟩ (fun _ _ _ _ => trivial) ?_ ?_
        · rintro j x H11 H11' hj ⟨zs, h11, l11, s11⟩ ⟨rfl, rfl⟩
          exists ("wq", ())
          refine ⟨rfl, ?_⟩
          exists ("wq", ())
          rename_i p12 H12 hp12 s12 h12
          refine w_catL (xs := VI s') (by exists ("hp", ())) (by exists ("hp", ())) (small_le (by have := top_small (k := k) hk hl; simp; omega)) fun p13 H13 hp13 s13 h13 => ?_
          have h13' : H13 p13 = some (.lst (VI (s' ++ [lowFrom (win k b h cap).1 s' + (j : Int)]))) := by
            rw [h13, VI, VI, List.map_append] <;> rfl
          have hD13 : H13 D = some (.lst zs) := (by exists ("hp", ()))
          have hD12 : H12 D = some (.lst zs) := (by exists ("hp", ()))
          refine ⟨zs, hD13, small_lt (by rw [l11.len, List.length_map, List.length_range]; unfold win at *; omega), zs ++ [.ref p13], upd_same, ?_, Same.mut (by exists ("sm", ())) hD⟩
          rw [range_snoc]
          refine Lists.upd (Lists.app (Lists.one ?_ h13') (l11.to (by exists ("sm", ()))))
          intro z
          cases z
          rw [hD12] at hp13
          cases hp13
        · rintro H11 ⟨zs, h11, l11, s11⟩
          exists ("wq", ())
          have hst : (sumsN k b cap h)[i]? = some s' := hs0
          have hz := hsz (h + 1) (by omega)
          have hz2 := flat_le (longer (win k b h cap)) (sumsN k b cap h) (i + 1)
          have hz3 := flat_take (longer (win k b h cap)) (sumsN k b cap h) i s' hst
          have l11' : Lists (some D) H11 zs (longer (win k b h cap) s') := by
            rw [le7]; exact l11
          have hz4 : (((sumsN k b cap h).take (i + 1)).flatMap (longer (win k b h cap))).length ≤ sizeLine := Nat.le_trans hz2 hz
          rw [hz3, List.length_append] at hz4
          refine w_catL (xs := ys) (by exists ("hp", ())) h11 (by rw [l7.len, l11'.len]; exact hz4) fun p15 H15 hp15 s15 h15 => ?_
          exists ("wq", ())
          refine ⟨p15, _, _, rfl, h15, (by exists ("sm", ())), ?_⟩
          rw [hz3]
          exact Lists.app (l11'.forget.to s15) (l7.to (by exists ("sm", ())))
      · rintro σ H7 ⟨G, ys, t8, rfl, h7, s7, l7⟩
        exists ("wq", ())
        refine ⟨G, ys, _, _, _, _, _, rfl, h7, (by exists ("sm", ())), ?_⟩
        rw [li.len, List.take_length] at l7
        exact l7
    · rintro σ H4 ⟨F, us, t4, t5, t6, t7, t8, rfl, h4, s4, li⟩
      exists ("wq", ())
      exact q F _ us s4 h4 li
end
end
/-! #### W8 -/
section
abbrev N_scRx : List Str := ["lows", "highs", "gaps", "turn", "index", "gap", "low", "high"]
theorem scRx : FnScope N_scRx ["lows", "highs", "gaps"] (defScope sRx) := ⟨rfl, rfl, rfl, by decide +kernel, rfl, by decide +kernel, by decide +kernel⟩
def spRx : Sp := fun vs H Q _ => ∃ (lo hi a : Addr) (L U : Nat → Int) (g : Gaps), vs = [.ref lo, .ref hi, .ref a] ∧ lo ≠ hi ∧ H lo = some (.lst (VI (rowL L))) ∧ H hi = some (.lst (VI (rowL U))) ∧ DG H a g ∧
  ∀ H', RS H lo hi H' (Ls g L) (Hs g U) → Q (.bl (okAll (Ls g L) (Hs g U))) H'
theorem put_put (f : Nat → Int) (i : Nat) (v w : Int) : put (put f i v) i w = put f i w := by
  funext j
  unfold put
  split <;> rfl
theorem dg_ne {H : Hp} {a b : Addr} {g : Nat → Option Int} {xs : List V} (h : DG H a g) (e : H b = some (.lst xs)) : a ≠ b := by
  obtain ⟨kvs, h1, _⟩ := h
  rintro rfl
  rw [h1] at e
  cases e
theorem toNat_pred (i : Nat) : ((i : Int) - 1).toNat = i - 1 := by omega
section
variable {P : Program} {w : World} {K : PySem.W.Frag} {mg : Str → Option Value} {base : Heap} {f : Addr} {fd : FuncData}
theorem ok_rx (F : FD K "relaxed" "relaxed" sRx f fd) (E : Glob K mg) : FnOk P w K mg base CX0 1 f fd ["lows", "highs", "gaps"] spRx := by
  refine F.ok scRx (fun vs H Q E h => ?_) (fun cdv A outer s H vs Q _ hr h => ?_)
  · obtain ⟨lo, hi, a, L, U, g, rfl, _⟩ := h
    rfl
  · obtain ⟨lo, hi, a, L, U, g, rfl, hne, hlo, hhi, hg, q⟩ := h
    refine ⟨_, PSs.nox (pss_cons (ps_for PassesOwn.never rfl (pi_range1 (by rfl) E.n_range (pa_cons (pe_globI E.kITEM_COUNT) pa_nil)) (pg_name (i := 3) scRx.nd rfl (.inl rfl))
        (pss_one (ps_for PassesOwn.never rfl (pi_range1 (by rfl) E.n_range (pa_cons (pe_globI E.kITEM_COUNT) pa_nil)) (pg_name (i := 4) scRx.nd rfl (.inl rfl))
          (pss_cons (ps_set (i := 5) scRx.nd rfl (.inl rfl) (pe_dget1 (u1 hr.units) (pv 2) (pv 4) ⟨by rfl, by rfl, by rfl, by rfl⟩))
          (pss_cons (ps_if (pt_cmpR op_gt (pv 4) pe_int (nomark _))
            (pss_cons (ps_asg (pe_callB (call_mx2 rfl) (by rfl) E.n_max PyProof.Rows.Boot.«max» (pa_cons (pe_ix (ix_listK (K := K) rfl) (pv 0) (pv 4) (fun _ _ => rfl)) (pa_cons (pe_op op_add (pe_ix (ix_listK (K := K) rfl) (pv 0) (pe_op op_sub (pv 4) pe_int) (fun _ _ => rfl)) (pe_orTK (K := K) rfl (pv 5) (pe_one pe_int))) pa_nil))) (pg_sub (pv 0) (pv 4) set_list))
            (pss_one (ps_asg (pe_callB (call_mn2 rfl) (by rfl) E.n_min PyProof.Rows.Boot.«min» (pa_cons (pe_ix (ix_listK (K := K) rfl) (pv 1) (pe_op op_sub (pv 4) pe_int) (fun _ _ => rfl)) (pa_cons (pe_op op_sub (pe_ix (ix_listK (K := K) rfl) (pv 1) (pv 4) (fun _ _ => rfl)) (pe_orTK (K := K) rfl (pv 5) (pe_one pe_int))) pa_nil))) (pg_sub (pv 1) (pe_op op_sub (pv 4) pe_int) set_list))))
            pss_nil)
          (pss_cons (ps_if (PW.pt (pw_and (pt_cmpR op_gt (pv 4) pe_int (nomark _)) (pw_and1 (pt_cmpR op_notN' (pv 5) pe_non (nomark _)))))
            (pss_cons (ps_asg (pe_callB (call_mx2 rfl) (by rfl) E.n_max PyProof.Rows.Boot.«max» (pa_cons (pe_ix (ix_listK (K := K) rfl) (pv 0) (pe_op op_sub (pv 4) pe_int) (fun _ _ => rfl)) (pa_cons (pe_op op_sub (pe_ix (ix_listK (K := K) rfl) (pv 0) (pv 4) (fun _ _ => rfl)) (pv 5)) pa_nil))) (pg_sub (pv 0) (pe_op op_sub (pv 4) pe_int) set_list))
            (pss_one (ps_asg (pe_callB (call_mn2 rfl) (by rfl) E.n_min PyProof.Rows.Boot.«min» (pa_cons (pe_ix (ix_listK (K := K) rfl) (pv 1) (pv 4) (fun _ _ => rfl)) (pa_cons (pe_op op_add (pe_ix (ix_listK (K := K) rfl) (pv 1) (pe_op op_sub (pv 4) pe_int) (fun _ _ => rfl)) (pv 5)) pa_nil))) (pg_sub (pv 1) (pv 4) set_list))))
            pss_nil)
          (pss_one (ps_if (PW.pt (pw_and (pt_cmpR op_eq (pv 4) pe_int (nomark _)) (pw_and1 (pt_cmpR op_notN' (pv 5) pe_non (nomark _)))))
            (pss_one (ps_asg (pe_tup (pa_cons (pe_callB (call_mx2 rfl) (by rfl) E.n_max PyProof.Rows.Boot.«max» (pa_cons (pe_ix (ix_listK (K := K) rfl) (pv 0) pe_int (fun _ _ => rfl)) (pa_cons (pv 5) pa_nil))) (pa_cons (pe_callB (call_mn2 rfl) (by rfl) E.n_min PyProof.Rows.Boot.«min» (pa_cons (pe_ix (ix_listK (K := K) rfl) (pv 1) pe_int (fun _ _ => rfl)) (pa_cons (pv 5) pa_nil))) pa_nil))) (pg_tupK (K := K) (n := 2) rfl rfl (pgs_cons (pg_sub (pv 0) pe_int set_list) (pgs_cons (pg_sub (pv 1) pe_int set_list) pgs_nil)))))
            pss_nil))))))))
      (pss_one (ps_ret (pe_callB (cr_allK (K := K) rfl rfl) (by rfl) E.n_all PyProof.Rows.Boot.«all» (pa_cons (pe_lc (own := [("low", 6), ("high", 7)]) rfl scRx.nd (pi_zipK (K := K) rfl (by rfl) E.n_zip (pa_cons (pv 0) (pa_cons (pv 1) pa_nil))) (blkOk_by (N := N_scRx) (sc := defScope sRx) (by decide +kernel)) (fun _ _ _ _ _ => (pg_tupK (K := K) (n := 2) rfl rfl (pgs_cons (pg_name (i := 6) scRx.nd rfl (.inl rfl) (.inr rfl)) (pgs_cons (pg_name (i := 7) scRx.nd rfl (.inl rfl) (.inr rfl)) pgs_nil)))) (fun _ _ _ _ _ => pts_nil) (fun _ _ _ _ _ => (pe_cmpR op_le (pv 6) (pv 7) (nomark _)))) pa_nil))))), ?_⟩
    refine w_start (σ' := [some (.ref lo), some (.ref hi), some (.ref a), none, none, none, none, none]) rfl ?_
    exists ("wq", ())
    refine ⟨12, rfl, by omega, by omega, for_it (walk_range (lo := 0) (n := 12)) (fun i σ H' => ∃ t3 t4 t5, σ = [some (.ref lo), some (.ref hi), some (.ref a), t3, t4, t5, none, none] ∧ RS H lo hi H' (lowRounds g L i) (highRounds g U i)) ⟨none, none, none, rfl, hlo, hhi, fun a o h _ _ => h, hne, ⟨_, hlo⟩, ⟨_, hhi⟩⟩ (fun _ _ _ _ _ => trivial) ?_ ?_⟩
    · rintro n x σ H2 H3 hn ⟨t3, t4, t5, rfl, r⟩ ⟨rfl, rfl⟩
      exists ("wq", ())
      refine ⟨12, rfl, by omega, by omega, for_it (walk_range (lo := 0) (n := 12)) (fun i σ H' => ∃ t3 t4 t5, σ = [some (.ref lo), some (.ref hi), some (.ref a), t3, t4, t5, none, none] ∧ RS H lo hi H' (lowRun g (lowRounds g L n) i) (highRun g (highRounds g U n) i)) ⟨_, _, _, rfl, r⟩ (fun _ _ _ _ _ => trivial) ?_ ?_⟩
      · rintro i x σ H4 H5 hi' ⟨t3, t4, t5, rfl, r⟩ ⟨rfl, rfl⟩
        have e0 : (fun i : Nat => V.int (0 + (i : Int))) i = V.int (i : Int) := congrArg V.int (by omega)
        rw [e0, lowRun_succ, highRun_succ]
        generalize lowRun g (lowRounds g L n) i = l at r ⊢
        generalize highRun g (highRounds g U n) i = h at r ⊢
        have hg5 : DG H5 a g := r.dg hg (dg_ne hg hlo) (dg_ne hg hhi)
        exists ("wq", ())
        refine ⟨a, g, rfl, hg5, ?_⟩
        exists ("wq", ())
        refine ⟨i, rfl, hg5, ?_⟩
        cases eg : g i with
        | none =>
          rw [oV_none]
          exists ("wq", ())
          refine w_ite (fun c => ?_) (fun c => ?_)
          · have ci : i ≠ 0 := by omega
            have el : lowStep g l i = put l i (max (l i) (l (i - 1) + 0)) := by
              unfold lowStep
              rw [if_neg ci, eg]
            have eh : highStep g h i = put h (i - 1) (min (h (i - 1)) (h i - 0)) := by
              unfold highStep
              rw [if_neg ci, eg]
            exists ("wq", ())
            refine r.getL (by omega) (by omega) ?_
            exists ("wq", ())
            refine r.getL (by omega) (by omega) ?_
            rw [Int.toNat_natCast, toNat_pred]
            exists ("wq", ())
            refine w_orNon ?_
            exists ("wq", ())
            refine r.setL (by omega) (by omega) fun H6 r6 => ?_
            rw [Int.toNat_natCast] at r6
            exists ("wq", ())
            refine r6.getU (by omega) (by omega) ?_
            exists ("wq", ())
            refine r6.getU (by omega) (by omega) ?_
            rw [Int.toNat_natCast, toNat_pred]
            exists ("wq", ())
            refine w_orNon ?_
            exists ("wq", ())
            refine r6.setU (by omega) (by omega) fun H7 r7 => ?_
            rw [toNat_pred] at r7
            exists ("wq", ())
            refine w_itT c ?_
            exists ("wq", ())
            refine w_itF (by omega) ?_
            exists ("wq", ())
            rw [el, eh]
            exact ⟨_, _, _, rfl, r7⟩
          · have ci : i = 0 := by omega
            subst ci
            have el : lowStep g l 0 = l := by
              unfold lowStep
              rw [if_pos rfl, eg]
            have eh : highStep g h 0 = h := by
              unfold highStep
              rw [if_pos rfl, eg]
            exists ("wq", ())
            refine w_itF c ?_
            exists ("wq", ())
            refine w_itT (by omega) ?_
            exists ("wq", ())
            rw [el, eh]
            exact ⟨_, _, _, rfl, r⟩
        | some x =>
          rw [oV_some]
          exists ("wq", ())
          refine w_ite (fun c => ?_) (fun c => ?_)
          · have ci : i ≠ 0 := by omega
            have el : lowStep g l i = put (put l i (max (l i) (l (i - 1) + x))) (i - 1) (max (l (i - 1)) (max (l i) (l (i - 1) + x) - x)) := by
              unfold lowStep
              rw [if_neg ci, eg]
            have eh : highStep g h i = put (put h (i - 1) (min (h (i - 1)) (h i - x))) i (min (h i) (min (h (i - 1)) (h i - x) + x)) := by
              unfold highStep
              rw [if_neg ci, eg]
            exists ("wq", ())
            refine r.getL (by omega) (by omega) ?_
            exists ("wq", ())
            refine r.getL (by omega) (by omega) ?_
            rw [Int.toNat_natCast, toNat_pred]
            exists ("wq", ())
            refine w_orInt ?_ (fun e z => by subst e; with_reducible (refine w_c ?_; exact z))
            exists ("wq", ())
            refine r.setL (by omega) (by omega) fun H6 r6 => ?_
            rw [Int.toNat_natCast] at r6
            exists ("wq", ())
            refine r6.getU (by omega) (by omega) ?_
            exists ("wq", ())
            refine r6.getU (by omega) (by omega) ?_
            rw [Int.toNat_natCast, toNat_pred]
            exists ("wq", ())
            refine w_orInt ?_ (fun e z => by subst e; with_reducible (refine w_c ?_; exact z))
            exists ("wq", ())
            refine r6.setU (by omega) (by omega) fun H7 r7 => ?_
            rw [toNat_pred] at r7
            exists ("wq", ())
            refine w_itT c ?_
            exists ("wq", ())
            refine r7.getL (by omega) (by omega) ?_
            exists ("wq", ())
            refine r7.getL (by omega) (by omega) ?_
            rw [Int.toNat_natCast, toNat_pred, put_same, put_ne (show i - 1 ≠ i by omega)]
            exists ("wq", ())
            refine r7.setL (by omega) (by omega) fun H8 r8 => ?_
            rw [toNat_pred] at r8
            exists ("wq", ())
            refine r8.getU (by omega) (by omega) ?_
            exists ("wq", ())
            refine r8.getU (by omega) (by omega) ?_
            rw [Int.toNat_natCast, toNat_pred, put_same, put_ne (show i ≠ i - 1 by omega)]
            exists ("wq", ())
            refine r8.setU (by omega) (by omega) fun H9 r9 => ?_
            rw [Int.toNat_natCast] at r9
            exists ("wq", ())
            refine w_itF (by omega) ?_
            exists ("wq", ())
            rw [el, eh]
            exact ⟨_, _, _, rfl, r9⟩
          · have ci : i = 0 := by omega
            subst ci
            have el : lowStep g l 0 = put l 0 (max (l 0) x) := by
              unfold lowStep
              rw [if_pos rfl, eg]
            have eh : highStep g h 0 = put h 0 (min (h 0) x) := by
              unfold highStep
              rw [if_pos rfl, eg]
            exists ("wq", ())
            refine w_itF c ?_
            exists ("wq", ())
            refine w_itT (by omega) ?_
            exists ("wq", ())
            refine r.getL (by omega) (by omega) ?_
            exists ("wq", ())
            refine r.getU (by omega) (by omega) ?_
            exists ("wq", ())
            rename_i p6 H6 hp6 s6 h6
            have r6 := r.to s6
            refine r6.setL (by omega) (by omega) fun H7 r7 => ?_
            exists ("wq", ())
            refine r7.setU (by omega) (by omega) fun H8 r8 => ?_
            exists ("wq", ())
            rw [el, eh]
            exact ⟨_, _, _, rfl, r8⟩
      · rintro σ H4 ⟨t3, t4, t5, rfl, r⟩
        exists ("wq", ())
        exact ⟨_, _, _, rfl, r⟩
    · rintro σ H4 ⟨t3, t4, t5, rfl, r⟩
      exists ("wq", ())
      refine ⟨lo, hi, VI (rowL (Ls g L)), VI (rowL (Hs g U)), rfl, .inl ⟨SqL.of r.l, SqL.of r.u, fun D hD => ?_⟩⟩
      refine lc_ci (fun i => (List.range i).map fun j => V.bl (decide (Ls g L j ≤ Hs g U j))) (walk_zip (n := 12) (xs := VI (rowL (Ls g L))) (ys := VI (rowL (Hs g U))) (by simp [rowL])) hD (fun H' sm => ⟨Same.seq sm (SqL.of r.l), Same.seq sm (SqL.of r.u)⟩) (fun i x H' Hy hi p sm y => ?_) (fun H' sm h' => ?_)
      · obtain ⟨T, u, v, rfl, sy, hT, e1, e2⟩ := pair_in y
        obtain ⟨_, rfl⟩ := vi_get e1
        obtain ⟨_, rfl⟩ := vi_get e2
        rw [rowL_get _ hi, rowL_get _ hi] at hT
        exists ("wq", ())
        refine ⟨rfl, ?_⟩
        exists ("wq", ())
        exact ci_add p sy (range_snoc _ _) (by simp; omega)
      · exists ("wq", ())
        refine w_all (bs := (List.range 12).map fun j => decide (Ls g L j ≤ Hs g U j)) (SqL.of (by rw [h', List.map_map] <;> rfl)) ?_
        rw [List.all_map]
        exact q H' (r.to sm)
end
end
/-! #### W9 -/
section
abbrev N_scNa : List Str := ["name"]
theorem scNa : FnScope N_scNa ["name"] (defScope sNa) := ⟨rfl, rfl, rfl, by decide +kernel, rfl, by decide +kernel, by decide +kernel⟩
def spNa : Sp := fun vs H Q _ => ∃ (d : Bool) (i : Nat), vs = [.str (nm d i)] ∧ i < 12 ∧ RetV (.bl true) H Q
abbrev N_scAI : List Str := ["value", "least_size", "most_size", "item"]
theorem scAI : FnScope N_scAI ["value", "least_size", "most_size"] (defScope sAI) := ⟨rfl, rfl, rfl, by decide +kernel, rfl, by decide +kernel, by decide +kernel⟩
def spAI : Sp := fun vs H Q _ => ∃ (p : Addr) (ns : List Int) (a b : Int), vs = [.ref p, .int a, .int b] ∧ H p = some (.tup (VI ns)) ∧ Items a b ns ∧ ns.length ≤ 1000 ∧ RetV (.bl true) H Q
abbrev N_scSL : List Str := ["loop", "size"]
theorem scSL : FnScope N_scSL ["loop"] (defScope sSL) := ⟨rfl, rfl, rfl, by decide +kernel, rfl, by decide +kernel, by decide +kernel⟩
def spSL (K : PySem.W.Frag) : Sp := fun vs H Q _ => ∃ (p : Addr) (x : V), vs = [.ref p] ∧ SqT K H p [x] ∧ Q (.ref p) H
abbrev N_scNF : List Str := ["front", "loop"]
theorem scNF : FnScope N_scNF ["front", "loop"] (defScope sNF) := ⟨rfl, rfl, rfl, by decide +kernel, rfl, by decide +kernel, by decide +kernel⟩
def spNF (K : PySem.W.Frag) : Sp := fun vs H Q _ => ∃ (p q : Addr) (ns : List Int), vs = [.ref p, .ref q] ∧ SqT K H p (VI ns) ∧ SqT K H q (VI [0]) ∧ ns.length ≤ 1000 ∧ ∀ r H', H r = none → Same H H' → Norm K H' r ns → Q (.ref r) H'
abbrev N_scSI : List Str := ["stream", "index", "front", "loop"]
theorem scSI : FnScope N_scSI ["stream", "index"] (defScope sSI) := ⟨rfl, rfl, rfl, by decide +kernel, rfl, by decide +kernel, by decide +kernel⟩
def spSI (K : PySem.W.Frag) : Sp := fun vs H Q _ => ∃ (r : Addr) (fr lp : List Int), vs = [.ref r, .int 0] ∧ Strm K H r fr lp ∧ fr ≠ [] ∧ lp ≠ [] ∧ Q (.int (fr.getD 0 0)) H
abbrev N_scIs : List Str := ["value"]
theorem scIs : FnScope N_scIs ["value"] (defScope sIs) := ⟨rfl, rfl, rfl, by decide +kernel, rfl, by decide +kernel, by decide +kernel⟩
def spIs : Sp := fun vs H Q _ => ∃ (r : Addr) (fr lp : List Int), vs = [.ref r] ∧ Str2 H r fr lp ∧ Items 0 12 fr ∧ Items 1 6 lp ∧ RetV (.bl true) H Q
section
variable {P : Program} {w : World} {K : PySem.W.Frag} {mg : Str → Option Value} {base : Heap} {f : Addr} {fd : FuncData}
theorem w_inI {H : Hp} {Q : VK} {p : Addr} {i : Nat} (h : SqT K H p (ixs.map V.str)) (hi : i < 12) (q : Q (.bl true) H) : rIn K false (.str (ix i)) (.ref p) H Q := by
  have z := (nm_facts true ⟨i, hi⟩).2.2.2.2.2
  refine ⟨p, _, rfl, .inr h, rfl, by decide, ?_⟩
  have e : (if false = true then !inV (V.str (ix i)) (ixs.map V.str) else inV (V.str (ix i)) (ixs.map V.str)) = true := z
  rw [e]; exact q
theorem w_inDW {H : Hp} {Q : VK} {p : Addr} {d : Bool} (h : H p = some (.tup [.str "d", .str "w"])) (q : Q (.bl true) H) : rIn K false (.str (if d = true then "d" else "w")) (.ref p) H Q := by
  refine ⟨p, _, rfl, .inr (SqT.of h), rfl, by decide, ?_⟩
  have e : (if false = true then !inV (V.str (if d = true then "d" else "w")) [.str "d", .str "w"] else inV (V.str (if d = true then "d" else "w")) [.str "d", .str "w"]) = true := by
    cases d <;> decide
  rw [e]; exact q
theorem ok_na (F : FD K "is_item_name" "is_item_name" sNa f fd) (E : Glob K mg) : FnOk P w K mg base CX0 1 f fd ["name"] spNa := by
  refine F.ok scNa (fun vs H Q E h => ?_) (fun cdv A outer s H vs Q _ hr h => ?_)
  · obtain ⟨d, i, rfl, _⟩ := h
    rfl
  · obtain ⟨d, i, rfl, hi, q⟩ := h
    obtain ⟨n1, n2, n3, n4, n5, n6⟩ := nm_facts d ⟨i, hi⟩
    refine ⟨_, PSs.nox (pss_one (ps_ret (pe_and (pe_callB (call_isiK' (K := K) rfl) (by rfl) E.n_isinstance PyProof.Rows.Boot.«isinstance» (pa_cons (pv 0) (pa_cons (pe_bltn (v := .ty "str") (by rfl) E.n_str PyProof.Rows.Boot.«str» rfl) pa_nil))) (pe_and (pe_cmpR (op_inK (K := K) rfl) (pe_slice sl_str (pv 0) po_none (po_some pe_int)) (pe_tup (pa_cons pe_str (pa_cons pe_str pa_nil))) (by rfl)) (pe_one (pe_cmpR (op_inK (K := K) rfl) (pe_slice sl_str (pv 0) (po_some pe_int) po_none) (pe_glob (v := .ref _) rfl E.g_INDEXES rfl) (by rfl))))))), ?_⟩
    refine w_start (σ' := [some (.str (nm d i))]) rfl ?_
    exists ("wq", ())
    refine w_isi "str" true tx_str (by decide +kernel) ?_
    exists ("wq", ())
    refine ⟨_, rfl, n3, ?_⟩
    rw [n1]
    exists ("wq", ())
    rename_i p1 H1 hp1 s1 h1
    refine w_inDW h1 ?_
    exists ("wq", ())
    refine ⟨_, rfl, n3, ?_⟩
    rw [n2]
    exists ("wq", ())
    refine w_inI (E.t_INDEXES _) hi ?_
    exact q _ (by exists ("sm", ()))
theorem ok_ai {c : Str} (F : FD K "are_items" "are_items" sAI f fd) (E : Glob K mg) (c_is_integer : CalK P w K mg base CX0 1 "is_integer" ["value", "low", "high"] 1 ["low", "high"] spInt) : FnOk P w K mg base CX0 2 f fd ["value", "least_size", "most_size"] spAI := by
  refine F.ok scAI (fun vs H Q E h => ?_) (fun cdv A outer s H vs Q _ hr h => ?_)
  · obtain ⟨p, ns, a, b, rfl, _⟩ := h
    rfl
  · obtain ⟨p, ns, a, b, rfl, hp, ⟨i1, i2, i3⟩, hl, q⟩ := h
    refine ⟨_, PSs.nox (pss_cons (ps_if (PW.pt (pw_or (pt_not (pt_val (pe_callB (call_isiK' (K := K) rfl) (by rfl) E.n_isinstance PyProof.Rows.Boot.«isinstance» (pa_cons (pv 0) (pa_cons (pe_bltn (v := .ty "tuple") (by rfl) E.n_tuple PyProof.Rows.Boot.«tuple» rfl) pa_nil))))) (pw_or1 (pt_not (pt_chain op_le op_le (pv 1) (pe_callB (call_lenK (K := K) rfl) (by rfl) E.n_len PySem.boot_len (pa_cons (pv 0) pa_nil)) (pv 2))))))
        (pss_one (ps_ret pe_bl))
        pss_nil)
      (pss_one (ps_ret (pe_callB (cr_allK (K := K) rfl rfl) (by rfl) E.n_all PyProof.Rows.Boot.«all» (pa_cons (pe_lc (own := [("item", 3)]) rfl scAI.nd (pi_tupK (K := K) rfl (pv 0)) (blkOk_by (N := N_scAI) (sc := defScope sAI) (by decide +kernel)) (fun _ _ _ _ _ => (pg_name (i := 3) scAI.nd rfl (.inl rfl) (.inr rfl))) (fun _ _ _ _ _ => pts_nil) (fun _ _ _ _ _ => (pe_calK c_is_integer (hr.mono (by decide)) (pa_cons (pv 3) pa_nil) (pk_cons pe_int (pk_cons (pe_globI E.kLABEL_LIMIT) pk_nil))))) pa_nil))))), ?_⟩
    refine w_start (σ' := [some (.ref p), some (.int a), some (.int b), none]) rfl ?_
    exists ("wq", ())
    refine w_isi "tuple" true (tx_tup hp) (by decide +kernel) ?_
    exists ("wq", ())
    rw [List.length_map]
    refine w_itT i1 ?_
    exists ("wq", ())
    refine w_iteN (fun c => absurd i2 c) (fun c => ?_)
    exists ("wq", ())
    refine ⟨p, rfl, ⟨VI ns, (by exists ("hp", ()))⟩, fun D hD => ?_⟩
    refine lc_ci (fun i => (List.range i).map fun _ => V.bl true) (walk_tup (xs := VI ns)) hD (fun H' sm => (by exists ("hp", ()))) (fun i x H' Hy hi p sm y => ?_) (fun H' sm h' => ?_)
    · obtain ⟨rfl, e2⟩ := y
      obtain ⟨hi', rfl⟩ := vi_get e2
      exists ("wq", ())
      refine ⟨rfl, ?_⟩
      exists ("wq", ())
      have hm : ns.getD i 0 ∈ ns := getD_mem hi'
      obtain ⟨m1, m2⟩ := i3 _ hm
      refine ⟨rfl, rfl, ns.getD i 0, 0, 1000000, rfl, ?_⟩
      rw [decide_eq_true ⟨m1, m2⟩]
      exact ci_add p (by exists ("sm", ())) (range_snoc _ _) (by simp; omega)
    · exists ("wq", ())
      refine w_all (bs := (List.range ns.length).map fun _ => true) (SqL.of (by rw [h', List.map_map, List.length_map] <;> rfl)) ?_
      have e : ((List.range ns.length).map fun _ => true).all id = true := by simp
      rw [e]
      exact q _ (by exists ("sm", ()))
theorem ok_sl (F : FD K "shortest_loop" "shortest_loop" sSL f fd) (E : Glob K mg) : FnOk P w K mg base CX0 1 f fd ["loop"] (spSL K) := by
  refine F.ok scSL (fun vs H Q E h => ?_) (fun cdv A outer s H vs Q _ hr h => ?_)
  · obtain ⟨p, x, rfl, _⟩ := h
    rfl
  · obtain ⟨p, x, rfl, hp, q⟩ := h
    refine ⟨_, PSs.nox (pss_cons (ps_for PassesOwn.never rfl (pi_range2 (by rfl) E.n_range (pa_cons pe_int (pa_cons (pe_callB (call_lenK (K := K) rfl) (by rfl) E.n_len PySem.boot_len (pa_cons (pv 0) pa_nil)) pa_nil))) (pg_name (i := 1) scSL.nd rfl (.inl rfl))
        (pss_one ps_never))
      (pss_one (ps_ret (pv 0)))), ?_⟩
    refine w_start (σ' := [some (.ref p), none]) rfl ?_
    exists ("wq", ())
    refine ⟨1, 1, rfl, by omega, for_it (walk_range (lo := 1) (n := 0)) (fun i σ H' => σ = [some (.ref p), none] ∧ H' = H) ⟨rfl, rfl⟩ (fun _ _ _ _ _ => trivial) (fun i x σ H1 H2 hi => by omega) ?_⟩
    rintro σ H' ⟨rfl, rfl⟩
    exists ("wq", ())
    exact q
theorem ok_nf (F : FD K "normal_form" "normal_form" sNF f fd) (E : Glob K mg) (c_shortest_loop : Cal P w K mg base CX0 1 "shortest_loop" ["loop"] (spSL K)) : FnOk P w K mg base CX0 2 f fd ["front", "loop"] (spNF K) := by
  refine F.ok scNF (fun vs H Q E h => ?_) (fun cdv A outer s H vs Q _ hr h => ?_)
  · obtain ⟨p, q', ns, rfl, _⟩ := h
    rfl
  · obtain ⟨p, p2, ns, rfl, hp, hp2, hl, q⟩ := h
    refine ⟨_, PSs.nox (pss_cons (ps_set (i := 1) scNF.nd rfl (.inl rfl) (pe_cal c_shortest_loop (hr.mono (by decide)) (pa_cons (pv 1) pa_nil)))
      (pss_cons (ps_while PassesOwn.never (PW.pt (pw_and (pt_cmpR (op_neDK (K := K) rfl hr.units) (pv 0) (pe_tup pa_nil) (nomark _)) (pw_and1 (pt_cmpR op_eq (pe_ix (ix_tupK (K := K) rfl) (pv 0) (pe_un un_neg pe_int) (fun _ _ => rfl)) (pe_ix (ix_tupK (K := K) rfl) (pv 1) (pe_un un_neg pe_int) (fun _ _ => rfl)) (nomark _)))))
        (pss_one (ps_par (i := 0) (j := 1) rfl scNF.nd rfl rfl (by decide) rfl rfl (pa_cons (pe_slice (sl_tupK (K := K) rfl) (pv 0) po_none (po_some (pe_un un_neg pe_int))) (pa_cons (pe_op (op_catAK (K := K) rfl) (pe_slice (sl_tupK (K := K) rfl) (pv 1) (po_some (pe_un un_neg pe_int)) po_none) (pe_slice (sl_tupK (K := K) rfl) (pv 1) po_none (po_some (pe_un un_neg pe_int)))) pa_nil)) (by rfl))))
      (pss_one (ps_ret (pe_tup (pa_cons (pv 0) (pa_cons (pv 1) pa_nil))))))), ?_⟩
    refine w_start (σ' := [some (.ref p), some (.ref p2)]) rfl ?_
    exists ("wq", ())
    refine ⟨p2, .int 0, rfl, hp2, ?_⟩
    exists ("wq", ())
    refine ⟨fun m σ H' => Same H H' ∧ ∃ a b ms, σ = [some (.ref a), some (.ref b)] ∧ SqT K H' a (VI ms) ∧ SqT K H' b (VI [0]) ∧ ms.length = m ∧ nf ns = nfGo m ms, ⟨ns.length, Same.refl _, p, p2, ns, rfl, hp, hp2, rfl, rfl⟩, ?_⟩
    rintro m σ H1 ⟨s1, a, b, ms, rfl, ha, hb, hm, e⟩
    exists ("wq", ())
    have fin : ∀ H2, Same H1 H2 → nfGo m ms = ms → tRet (tTup (tCons (tVar 0) (tCons (tVar 1) tNil))) { nx := fun x H' => Q V.non H', rt := Q } [some (.ref a), some (.ref b)] H2 := by
      intro H2 s2 e2
      exists ("wq", ())
      rename_i r H3 hr3 s3 h3
      refine q r H3 (by exists ("fr", ())) (by exists ("sm", ())) ⟨a, b, h3, ?_, (by exists ("hp", ()))⟩
      rw [e, e2]
      exact (by exists ("hp", ()))
    rename_i r2 H2 hr2 s2 h2
    refine w_iteN (fun c => ?_) (fun c => ?_)
    · exists ("wq", ())
      refine w_ixN1T (ns := ms) (by exists ("hp", ())) (List.length_pos_iff.mpr c) ?_
      exists ("wq", ())
      refine w_ixN1T (ns := [0]) (by exists ("hp", ())) (by decide) ?_
      exists ("wq", ())
      refine w_ite (fun c2 => ⟨_, fun _ _ h => h, ?_⟩) (fun c2 => ?_)
      · exists ("wq", ())
        refine w_slT (xs := VI ms) (by exists ("hp", ())) fun q3 H3 s3 h3 => ?_
        rw [cut_butlast] at h3
        exists ("wq", ())
        refine w_slT (xs := VI [0]) (by exists ("hp", ())) fun q4 H4 s4 h4 => ?_
        exists ("wq", ())
        refine w_slT (xs := VI [0]) (by exists ("hp", ())) fun q5 H5 s5 h5 => ?_
        have h4' : SqT K H4 q4 (VI [0]) := h4
        have h5' : SqT K H5 q5 [] := h5
        refine w_catT (xs := VI [0]) (ys := []) (by exists ("hp", ())) (by exists ("hp", ())) (by decide) fun q6 H6 s6 h6 => ?_
        exists ("wq", ())
        refine ⟨m - 1, ?_, (by exists ("sm", ())), q3, q6, ms.dropLast, rfl, ?_, h6, ?_, ?_⟩
        · have := List.length_pos_iff.mpr c
          omega
        · rw [VI, List.map_dropLast]
          exact (by exists ("hp", ()))
        · rw [List.length_dropLast, hm]
        · have hmp := List.length_pos_iff.mpr c
          obtain ⟨m', rfl⟩ : ∃ m', m = m' + 1 := ⟨m - 1, by omega⟩
          rw [e, nfGo, if_pos ⟨c, c2⟩] <;> rfl
      · refine fin H2 s2 ?_
        cases m with
        | zero => rfl
        | succ m => rw [nfGo, if_neg (fun z => c2 z.2)]
    · refine fin H2 s2 ?_
      cases m with
      | zero => rfl
      | succ m => rw [nfGo, if_neg (fun z => z.1 c)]
theorem ok_si (F : FD K "stream_item" "stream_item" sSI f fd) (E : Glob K mg) : FnOk P w K mg base CX0 1 f fd ["stream", "index"] (spSI K) := by
  refine F.ok scSI (fun vs H Q E h => ?_) (fun cdv A outer s H vs Q _ hr h => ?_)
  · obtain ⟨r, fr, lp, rfl, _⟩ := h
    rfl
  · obtain ⟨r, fr, lp, rfl, ⟨a, b, h1, h2, h3⟩, hn, hn2, q⟩ := h
    have hp : 0 < fr.length := List.length_pos_iff.mpr hn
    refine ⟨_, PSs.nox (pss_cons (ps_asg (pv 0) (pg_tupK (K := K) (n := 2) rfl rfl (pgs_cons (pg_name (i := 2) scSI.nd rfl (.inl rfl)) (pgs_cons (pg_name (i := 3) scSI.nd rfl (.inl rfl)) pgs_nil))))
      (pss_one (ps_ret (pe_ifExp (pt_cmpR op_lt (pv 1) (pe_callB (call_lenK (K := K) rfl) (by rfl) E.n_len PySem.boot_len (pa_cons (pv 2) pa_nil)) (nomark _)) (pe_ix (ix_tupK (K := K) rfl) (pv 2) (pv 1) (fun _ _ => rfl)) (pe_ix (ix_tupK (K := K) rfl) (pv 3) (pe_op op_mod (pe_op op_sub (pv 1) (pe_callB (call_lenK (K := K) rfl) (by rfl) E.n_len PySem.boot_len (pa_cons (pv 2) pa_nil))) (pe_callB (call_lenK (K := K) rfl) (by rfl) E.n_len PySem.boot_len (pa_cons (pv 3) pa_nil))) (fun _ _ => rfl)))))), ?_⟩
    refine w_start (σ' := [some (.ref r), some (.int 0), none, none]) rfl ?_
    exists ("wq", ())
    rw [List.length_map]
    refine w_itT (by omega) ?_
    exists ("wq", ())
    refine w_ixTn (i := 0) h2 hp ?_
    exact q
theorem ok_is (F : FunD K "is_stream" "Schedule.is_stream" (defArgs sIs) (defBody sIs) (defScope sIs) [] [] f fd) (E : Glob K mg) (c_are_items : Cal P w K mg base CX0 2 "are_items" ["value", "least_size", "most_size"] spAI) : FnOk P w K mg base CX0 3 f fd ["value"] spIs := by
  refine F.ok scIs (fun vs H Q E h => ?_) (fun cdv A outer s H vs Q _ hr h => ?_)
  · obtain ⟨r, fr, lp, rfl, _⟩ := h
    rfl
  · obtain ⟨r, fr, lp, rfl, ⟨a, b, h1, h2, h3⟩, i1, i2, q⟩ := h
    refine ⟨_, PSs.nox (pss_cons (ps_if (PW.pt (pw_or (pt_not (pt_val (pe_callB (call_isiK' (K := K) rfl) (by rfl) E.n_isinstance PyProof.Rows.Boot.«isinstance» (pa_cons (pv 0) (pa_cons (pe_bltn (v := .ty "tuple") (by rfl) E.n_tuple PyProof.Rows.Boot.«tuple» rfl) pa_nil))))) (pw_or1 (pt_cmpR op_ne (pe_callB (call_lenK (K := K) rfl) (by rfl) E.n_len PySem.boot_len (pa_cons (pv 0) pa_nil)) pe_int (nomark _)))))
        (pss_one (ps_ret pe_bl))
        pss_nil)
      (pss_one (ps_ret (pe_and (pe_cal c_are_items (hr.mono (by decide)) (pa_cons (pe_ix (ix_tupK (K := K) rfl) (pv 0) pe_int (fun _ _ => rfl)) (pa_cons pe_int (pa_cons (pe_globI E.kFRONT_LIMIT) pa_nil)))) (pe_one (pe_cal c_are_items (hr.mono (by decide)) (pa_cons (pe_ix (ix_tupK (K := K) rfl) (pv 0) pe_int (fun _ _ => rfl)) (pa_cons pe_int (pa_cons (pe_globI E.kLOOP_LIMIT) pa_nil))))))))), ?_⟩
    refine w_start (σ' := [some (.ref r)]) rfl ?_
    exists ("wq", ())
    refine w_isi "tuple" true (tx_tup h1) (by decide +kernel) ?_
    exists ("wq", ())
    refine w_iteN (fun c => absurd rfl c) (fun _ => ?_)
    exists ("wq", ())
    refine w_ixT (SqT.of h1) rfl ?_
    exists ("wq", ())
    refine ⟨a, fr, 0, 12, rfl, h2, i1, by have := i1.2.1; omega, fun H1 s1 => ?_⟩
    exists ("wq", ())
    refine w_ixT (SqT.of (s1 _ _ h1)) rfl ?_
    exists ("wq", ())
    refine ⟨b, lp, 1, 6, rfl, s1 _ _ h3, i2, by have := i2.2.1; omega, fun H2 s2 => ?_⟩
    exact q _ (by exists ("sm", ()))
end
end
/-! #### W10 -/
section
abbrev N_scLi : List Str := ["self", "spine", "lows", "highs", "index", "bound", "exponent", "rest", "is_last", "item", "least", "most"]
theorem scLi : FnScope N_scLi ["self", "spine"] (defScope sLi) := ⟨rfl, rfl, rfl, by decide +kernel, rfl, by decide +kernel, by decide +kernel⟩
def spLi (K : PySem.W.Frag) (C : Addr) : Sp := fun vs H Q _ => ∃ (x d : Addr) (ps : List Int) (k : Nat) (rest : Int) (b : List Int) (sp : Nat → Option Int), vs = [.ref x, .ref d] ∧ Fit K H C x ps k rest b ∧ DG H d sp ∧ 2 ≤ k ∧ k ≤ 9 ∧ b.length ≤ 19 ∧
  ∀ q lo hi H', H q = none → Same H H' → H' q = some (.tup [.ref lo, .ref hi]) → H' lo = some (.lst (VI (rowL (limits k b sp).1))) → H' hi = some (.lst (VI (rowL (limits k b sp).2))) → H lo = none → H hi = none → lo ≠ hi → Q (.ref q) H'
section
variable {P : Program} {w : World} {K : PySem.W.Frag} {mg : Str → Option Value} {base : Heap} {f : Addr} {fd : FuncData} {C : Addr}
theorem ok_li (F : FunD K "limits" "PlaceFit.limits" (defArgs sLi) (defBody sLi) (defScope sLi) [] [] f fd) (E : Glob K mg) (FC : FitC K C) (c_split_number : Cal P w K mg base CX0 1 "split_number" ["number", "arity"] spSpl) : FnOk P w K mg base CX0 2 f fd ["self", "spine"] (spLi K C) := by
  refine F.ok scLi (fun vs H Q E h => ?_) (fun cdv A outer s H vs Q _ hr h => ?_)
  · obtain ⟨x, d, ps, k, rest, b, sp, rfl, _⟩ := h
    rfl
  · obtain ⟨x, d, ps, k, rest, b, sp, rfl, ⟨dx, tp, lb, fit⟩, hd, hk, hk9, hl, q⟩ := h
    have hex : ∀ i, i < b.length → expo k (i + 1) < 12 := fun i hi => by
      have h1 := expo_le hk (show 1 ≤ i + 1 by omega)
      have h2 : 2 ^ expo k (i + 1) ≤ k ^ expo k (i + 1) := Nat.pow_le_pow_left hk _
      have h3 : expo k (i + 1) < 2 ^ expo k (i + 1) := Nat.lt_two_pow_self
      by_cases c : expo k (i + 1) < 5
      · omega
      · have h4 : 2 ^ 5 ≤ 2 ^ expo k (i + 1) := Nat.pow_le_pow_right (by decide) (by omega)
        omega
    refine ⟨_, PSs.nox (pss_cons (ps_par (i := 2) (j := 3) rfl scLi.nd rfl rfl (by decide) rfl rfl (pa_cons (pe_op op_rep (pe_lst (pa_cons pe_int pa_nil)) (pe_globI E.kITEM_COUNT)) (pa_cons (pe_op op_rep (pe_lst (pa_cons (pe_globI E.kUNLIMITED) pa_nil)) (pe_globI E.kITEM_COUNT)) pa_nil)) (by rfl))
      (pss_cons (ps_for PassesOwn.never rfl (pi_enumK (K := K) rfl (by rfl) E.n_enumerate (pa_cons (pe_fldK (K := K) rfl (pv 0)) pa_nil)) (pg_tupK (K := K) (n := 2) rfl rfl (pgs_cons (pg_name (i := 4) scLi.nd rfl (.inl rfl)) (pgs_cons (pg_name (i := 5) scLi.nd rfl (.inl rfl)) pgs_nil)))
        (pss_cons (ps_asg (pe_cal c_split_number (hr.mono (by decide)) (pa_cons (pe_op op_add (pv 4) pe_int) (pa_cons (pe_fldK (K := K) rfl (pv 0)) pa_nil))) (pg_tupK (K := K) (n := 2) rfl rfl (pgs_cons (pg_name (i := 6) scLi.nd rfl (.inl rfl)) (pgs_cons (pg_name (i := 7) scLi.nd rfl (.inl rfl)) pgs_nil))))
        (pss_cons (ps_par (i := 8) (j := 9) rfl scLi.nd rfl rfl (by decide) rfl rfl (pa_cons (pe_cmpR op_eq (pe_op op_add (pv 4) pe_int) (pe_callB (call_lenK (K := K) rfl) (by rfl) E.n_len PySem.boot_len (pa_cons (pe_fldK (K := K) rfl (pv 0)) pa_nil)) (nomark _)) (pa_cons (pe_dget1 (u1 hr.units) (pv 1) (pe_op op_add (pv 6) pe_int) ⟨by rfl, by rfl, by rfl, by rfl⟩) pa_nil)) (by rfl))
        (pss_cons (ps_if (pt_cmpR op_eq (pv 7) pe_int (nomark _))
          (pss_cons (ps_set (i := 10) scLi.nd rfl (.inl rfl) (pe_ifExp (pt_cmpR op_notN' (pv 9) pe_non (nomark _)) (pe_op op_sub (pv 5) (pv 9)) pe_int))
          (pss_one (ps_set (i := 11) scLi.nd rfl (.inl rfl) (pe_ifExp (pt_val (pv 8)) (pe_globI E.kUNLIMITED) (pe_op op_sub (pv 5) (pe_orTK (K := K) rfl (pv 9) (pe_one pe_int)))))))
          (pss_one (ps_par (i := 10) (j := 11) rfl scLi.nd rfl rfl (by decide) rfl rfl (pa_cons (pv 5) (pa_cons (pe_ifExp (pt_val (pv 8)) (pe_globI E.kUNLIMITED) (pv 5)) pa_nil)) (by rfl))))
        (pss_one (ps_asg (pe_tup (pa_cons (pe_callB (call_mx2 rfl) (by rfl) E.n_max PyProof.Rows.Boot.«max» (pa_cons (pe_ix (ix_listK (K := K) rfl) (pv 2) (pv 6) (fun _ _ => rfl)) (pa_cons (pv 10) pa_nil))) (pa_cons (pe_callB (call_mn2 rfl) (by rfl) E.n_min PyProof.Rows.Boot.«min» (pa_cons (pe_ix (ix_listK (K := K) rfl) (pv 3) (pv 6) (fun _ _ => rfl)) (pa_cons (pv 11) pa_nil))) pa_nil))) (pg_tupK (K := K) (n := 2) rfl rfl (pgs_cons (pg_sub (pv 2) (pv 6) set_list) (pgs_cons (pg_sub (pv 3) (pv 6) set_list) pgs_nil)))))))))
      (pss_one (ps_ret (pe_tup (pa_cons (pv 2) (pa_cons (pv 3) pa_nil))))))), ?_⟩
    refine w_start (σ' := [some (.ref x), some (.ref d), none, none, none, none, none, none, none, none, none, none]) rfl ?_
    exists ("wq", ())
    rename_i p1 H1 hp1 s1 h1
    refine w_rep (n := 12) (by exists ("hp", ())) (by omega) fun lo H2 hp2 s2 h2 => ?_
    exists ("wq", ())
    rename_i p3 H3 hp3 s3 h3
    refine w_rep (n := 12) (by exists ("hp", ())) (by omega) fun hi H4 hp4 s4 h4 => ?_
    rw [rowL_const] at h2 h4
    have hlo : H lo = none := (by exists ("fr", ()))
    have hhi : H hi = none := (by exists ("fr", ()))
    have h2' : H4 lo = some (.lst (VI (rowL fun _ => 1))) := (by exists ("hp", ()))
    have hne : lo ≠ hi := by
      rintro rfl
      have z : H3 lo = some (.lst (VI (rowL fun _ => 1))) := (by exists ("hp", ()))
      rw [z] at hp4
      cases hp4
    have sm4 : Same H H4 := (by exists ("sm", ()))
    have fit4 : FitAt K H4 C x dx tp lb ps k rest b := (by exists ("hp", ()))
    have dg4 : DG H4 d sp := (by exists ("hp", ()))
    have hd1 : d ≠ lo := dg_ne dg4 h2'
    have hd2 : d ≠ hi := dg_ne dg4 h4
    have keep : ∀ {H' : Hp} {L U : Nat → Int}, RS H4 lo hi H' L U → FitAt K H' C x dx tp lb ps k rest b ∧ DG H' d sp ∧ Same H H' := by
      intro H' L U r
      have sm := r.same sm4 hlo hhi
      exact ⟨FitAt.to sm fit, DG.to sm hd, sm⟩
    exists ("wq", ())
    refine fit4.get FC (by decide) rfl ?_
    exists ("wq", ())
    refine ⟨lb, VI b, rfl, SqL.of fit4.b, ?_⟩
    refine for_it (walk_enum (xs := VI b)) (fun i σ H' => ∃ t4 t5 t6 t7 t8 t9 t10 t11, σ = [some (.ref x), some (.ref d), some (.ref lo), some (.ref hi), t4, t5, t6, t7, t8, t9, t10, t11] ∧ RS H4 lo hi H' (limitsN k b sp i).1 (limitsN k b sp i).2)
      ⟨_, _, _, _, _, _, _, _, rfl, h2', h4, fun a o h _ _ => h, hne, ⟨_, h2'⟩, ⟨_, h4⟩⟩ ?_ ?_ ?_
    · rintro i σ H5 _ ⟨t4, t5, t6, t7, t8, t9, t10, t11, rfl, r⟩
      exact SqL.of (keep r).1.b
    · rintro i v σ H5 H6 hi' ⟨t4, t5, t6, t7, t8, t9, t10, t11, rfl, r⟩ y
      obtain ⟨T, u, v', rfl, sy, hT, e1, e2⟩ := pair_in y
      obtain ⟨hib, rfl⟩ := vi_get e2
      cases Option.some.inj e1
      have r := r.to sy
      obtain ⟨fit6, dg6, sm6⟩ := keep r
      exists ("wq", ())
      refine fit6.get FC (by decide) rfl ?_
      exists ("wq", ())
      refine ⟨i + 1, k, rfl, by omega, hk, hk9, fun q7 H7 hq7 s7 h7 => ?_⟩
      have fit7 := FitAt.to s7 fit6
      have dg7 := DG.to s7 dg6
      have r5 := r.to s7
      have he := hex i hib
      rw [limitsN_succ]
      generalize limitsN k b sp i = S at r5 ⊢
      exists ("wq", ())
      refine fit7.get FC (by decide) rfl ?_
      exists ("wq", ())
      refine w_lenL (SqL.of fit7.b) ?_
      rw [List.length_map]
      exists ("wq", ())
      refine ⟨d, sp, rfl, dg7, ?_⟩
      exists ("wq", ())
      refine ⟨expo k (i + 1) + 1, rfl, dg7, ?_⟩
      exists ("wq", ())
      have eL : (limStep k b sp S i).1 = put S.1 (expo k (i + 1)) (max (S.1 (expo k (i + 1))) (leastAt k b sp i)) := rfl
      have eU : (limStep k b sp S i).2 = put S.2 (expo k (i + 1)) (min (S.2 (expo k (i + 1))) (mostAt k b sp i)) := rfl
      by_cases cl : i + 1 = b.length
      · have ml : mostAt k b sp i = UN := if_pos cl
        rw [show decide ((i : Int) + 1 = (b.length : Int)) = true from decide_eq_true (by omega)]
        refine w_ite (fun c => ?_) (fun c => ?_)
        · have cc : core k (i + 1) = 1 := by omega
          cases eg : sp (expo k (i + 1) + 1) with
          | none =>
            have ll : leastAt k b sp i = 1 := by unfold leastAt; rw [if_pos cc, eg]
            rw [ll] at eL
            rw [ml] at eU
            rw [oV_none, eL, eU]
            exists ("wq", ())
            refine r5.getL (by omega) (by omega) ?_
            exists ("wq", ())
            refine r5.getU (by omega) (by omega) ?_
            rw [Int.toNat_natCast]
            exists ("wq", ())
            rename_i p6 H6 hp6 s6 h6
            refine (r5.to s6).setL (by omega) (by omega) fun H7 r7 => ?_
            exists ("wq", ())
            refine r7.setU (by omega) (by omega) fun H8 r8 => ?_
            rw [Int.toNat_natCast] at r8
            exists ("wq", ())
            exact ⟨_, _, _, _, _, _, _, _, rfl, r8⟩
          | some it =>
            have ll : leastAt k b sp i = b.getD i 0 - it := by unfold leastAt; rw [if_pos cc, eg]
            rw [ll] at eL
            rw [ml] at eU
            rw [oV_some, eL, eU]
            exists ("wq", ())
            refine r5.getL (by omega) (by omega) ?_
            exists ("wq", ())
            refine r5.getU (by omega) (by omega) ?_
            rw [Int.toNat_natCast]
            exists ("wq", ())
            rename_i p6 H6 hp6 s6 h6
            refine (r5.to s6).setL (by omega) (by omega) fun H7 r7 => ?_
            exists ("wq", ())
            refine r7.setU (by omega) (by omega) fun H8 r8 => ?_
            rw [Int.toNat_natCast] at r8
            exists ("wq", ())
            exact ⟨_, _, _, _, _, _, _, _, rfl, r8⟩
        · have ll : leastAt k b sp i = b.getD i 0 := if_neg (by omega)
          rw [ll] at eL
          rw [ml] at eU
          rw [eL, eU]
          exists ("wq", ())
          refine r5.getL (by omega) (by omega) ?_
          exists ("wq", ())
          refine r5.getU (by omega) (by omega) ?_
          rw [Int.toNat_natCast]
          exists ("wq", ())
          rename_i p6 H6 hp6 s6 h6
          refine (r5.to s6).setL (by omega) (by omega) fun H7 r7 => ?_
          exists ("wq", ())
          refine r7.setU (by omega) (by omega) fun H8 r8 => ?_
          rw [Int.toNat_natCast] at r8
          exists ("wq", ())
          exact ⟨_, _, _, _, _, _, _, _, rfl, r8⟩
      · rw [show decide ((i : Int) + 1 = (b.length : Int)) = false from decide_eq_false (by omega)]
        refine w_ite (fun c => ?_) (fun c => ?_)
        · have cc : core k (i + 1) = 1 := by omega
          have ml : mostAt k b sp i = b.getD i 0 - (sp (expo k (i + 1) + 1)).getD 0 := by unfold mostAt; rw [if_neg cl, if_pos cc]
          cases eg : sp (expo k (i + 1) + 1) with
          | none =>
            have ll : leastAt k b sp i = 1 := by unfold leastAt; rw [if_pos cc, eg]
            rw [eg] at ml
            rw [ll] at eL
            rw [ml] at eU
            rw [oV_none, eL, eU]
            exists ("wq", ())
            refine w_orNon ?_
            exists ("wq", ())
            refine r5.getL (by omega) (by omega) ?_
            exists ("wq", ())
            refine r5.getU (by omega) (by omega) ?_
            rw [Int.toNat_natCast]
            exists ("wq", ())
            rename_i p6 H6 hp6 s6 h6
            refine (r5.to s6).setL (by omega) (by omega) fun H7 r7 => ?_
            exists ("wq", ())
            refine r7.setU (by omega) (by omega) fun H8 r8 => ?_
            rw [Int.toNat_natCast] at r8
            exists ("wq", ())
            exact ⟨_, _, _, _, _, _, _, _, rfl, r8⟩
          | some it =>
            have ll : leastAt k b sp i = b.getD i 0 - it := by unfold leastAt; rw [if_pos cc, eg]
            rw [eg] at ml
            rw [ll] at eL
            rw [ml] at eU
            rw [oV_some, eL, eU]
            exists ("wq", ())
            refine w_orInt ?_ (fun e z => by subst e; with_reducible (refine w_c ?_; exact z))
            exists ("wq", ())
            refine r5.getL (by omega) (by omega) ?_
            exists ("wq", ())
            refine r5.getU (by omega) (by omega) ?_
            rw [Int.toNat_natCast]
            exists ("wq", ())
            rename_i p6 H6 hp6 s6 h6
            refine (r5.to s6).setL (by omega) (by omega) fun H7 r7 => ?_
            exists ("wq", ())
            refine r7.setU (by omega) (by omega) fun H8 r8 => ?_
            rw [Int.toNat_natCast] at r8
            exists ("wq", ())
            exact ⟨_, _, _, _, _, _, _, _, rfl, r8⟩
        · have ll : leastAt k b sp i = b.getD i 0 := if_neg (by omega)
          have ml : mostAt k b sp i = b.getD i 0 := by unfold mostAt; rw [if_neg cl, if_neg (by omega)]
          rw [ll] at eL
          rw [ml] at eU
          rw [eL, eU]
          exists ("wq", ())
          refine r5.getL (by omega) (by omega) ?_
          exists ("wq", ())
          refine r5.getU (by omega) (by omega) ?_
          rw [Int.toNat_natCast]
          exists ("wq", ())
          rename_i p6 H6 hp6 s6 h6
          refine (r5.to s6).setL (by omega) (by omega) fun H7 r7 => ?_
          exists ("wq", ())
          refine r7.setU (by omega) (by omega) fun H8 r8 => ?_
          rw [Int.toNat_natCast] at r8
          exists ("wq", ())
          exact ⟨_, _, _, _, _, _, _, _, rfl, r8⟩
    · rintro σ H5 ⟨t4, t5, t6, t7, t8, t9, t10, t11, rfl, r⟩
      rw [List.length_map] at r
      have sm5 := r.same sm4 hlo hhi
      exists ("wq", ())
      rename_i p9 H9 hp9 s9 h9
      exact q p9 lo hi H9 (by exists ("fr", ())) (by exists ("sm", ())) h9 (s9 _ _ r.l) (s9 _ _ r.u) hlo hhi hne
end
end
/-! #### W11 -/
section
abbrev N_scKF : List Str := ["self", "exponent", "power"]
theorem scKF : FnScope N_scKF ["self", "exponent"] (defScope sKF) := ⟨rfl, rfl, rfl, by decide +kernel, rfl, by decide +kernel, by decide +kernel⟩
def freq (k : Nat) (b : List Int) (e : Nat) : Option Int := if k ^ e < b.length then some (b.getD (k ^ e - 1) 0) else none
def spKF (K : PySem.W.Frag) (C : Addr) : Sp := fun vs H Q _ => ∃ (x : Addr) (ps : List Int) (k : Nat) (rest : Int) (b : List Int) (e : Nat), vs = [.ref x, .int (e : Int)] ∧ Fit K H C x ps k rest b ∧ 2 ≤ k ∧ k ≤ 9 ∧ e ≤ 11 ∧ Q (oV (freq k b e)) H
abbrev N_scPI : List Str := ["self", "sums", "exponent", "frequency", "is_last"]
theorem scPI : FnScope N_scPI ["self", "sums", "exponent"] (defScope sPI) := ⟨rfl, rfl, rfl, by decide +kernel, rfl, by decide +kernel, by decide +kernel⟩
def spPI (K : PySem.W.Frag) (C : Addr) : Sp := fun vs H Q _ => ∃ (x l : Addr) (ps : List Int) (k : Nat) (rest : Int) (b : List Int) (e : Nat) (L : Nat → Int), vs = [.ref x, .ref l, .int (e : Int)] ∧ Fit K H C x ps k rest b ∧ H l = some (.lst (VI (rowL L))) ∧ 2 ≤ k ∧ k ≤ 9 ∧ e ≤ 10 ∧ Q (.int (spineItem k b rest L e)) H
abbrev N_scRg : List Str := ["self", "name", "index", "lows", "highs", "before", "frequency"]
theorem scRg : FnScope N_scRg ["self", "name"] (defScope sRg) := ⟨rfl, rfl, rfl, by decide +kernel, rfl, by decide +kernel, by decide +kernel⟩
def firstOf (ps : List Int) (rest : Int) : Int := if ps = [] then rest else ps.getD 0 0
def mostOf (ps : List Int) : Int := if ps = [] then 1000000 else ps.getD 0 0
def spRg (K : PySem.W.Frag) (C : Addr) : Sp := fun vs H Q _ => ∃ (x : Addr) (ps : List Int) (k : Nat) (rest : Int) (b : List Int), vs = [.ref x, .str "d0"] ∧ Fit K H C x ps k rest b ∧ 2 ≤ k ∧ k ≤ 9 ∧ b.length ≤ 19 ∧
  RetT [.int (firstOf ps rest), .int (mostOf ps)] H Q
section
variable {P : Program} {w : World} {K : PySem.W.Frag} {mg : Str → Option Value} {base : Heap} {f : Addr} {fd : FuncData} {C : Addr}
theorem ok_kf (F : FunD K "known_frequency" "PlaceFit.known_frequency" (defArgs sKF) (defBody sKF) (defScope sKF) [] [] f fd) (E : Glob K mg) (FC : FitC K C) (c_power_of : Cal P w K mg base CX0 1 "power_of" ["arity", "exponent"] spPow) : FnOk P w K mg base CX0 2 f fd ["self", "exponent"] (spKF K C) := by
  refine F.ok scKF (fun vs H Q E h => ?_) (fun cdv A outer s H vs Q _ hr h => ?_)
  · obtain ⟨x, ps, k, rest, b, e, rfl, _⟩ := h
    rfl
  · obtain ⟨x, ps, k, rest, b, e, rfl, ⟨dx, tp, lb, fit⟩, hk, hk9, he, q⟩ := h
    refine ⟨_, PSs.nox (pss_cons (ps_set (i := 2) scKF.nd rfl (.inl rfl) (pe_cal c_power_of (hr.mono (by decide)) (pa_cons (pe_fldK (K := K) rfl (pv 0)) (pa_cons (pv 1) pa_nil))))
      (pss_one (ps_ret (pe_ifExp (pt_cmpR op_lt (pv 2) (pe_callB (call_lenK (K := K) rfl) (by rfl) E.n_len PySem.boot_len (pa_cons (pe_fldK (K := K) rfl (pv 0)) pa_nil)) (nomark _)) (pe_ix (ix_listK (K := K) rfl) (pe_fldK (K := K) rfl (pv 0)) (pe_op op_sub (pv 2) pe_int) (fun _ _ => rfl)) pe_non)))), ?_⟩
    refine w_start (σ' := [some (.ref x), some (.int e), none]) rfl ?_
    exists ("wq", ())
    refine fit.get FC (by decide) rfl ?_
    exists ("wq", ())
    refine ⟨k, e, rfl, hk9, he, ?_⟩
    exists ("wq", ())
    refine fit.get FC (by decide) rfl ?_
    exists ("wq", ())
    refine w_lenL (SqL.of fit.b) ?_
    rw [List.length_map]
    have hp : 1 ≤ k ^ e := Nat.pow_pos (by omega)
    exists ("wq", ())
    refine w_ite (fun c => ?_) (fun c => ?_)
    · exists ("wq", ())
      refine fit.get FC (by decide) rfl ?_
      exists ("wq", ())
      refine w_ixI (ns := b) (SqL.of fit.b) (by omega) (by omega) ?_
      rw [freq, if_pos (by omega), oV_some] at q
      rw [show (((k ^ e : Nat) : Int) - 1).toNat = k ^ e - 1 by omega]
      exact q
    · exists ("wq", ())
      rw [freq, if_neg (by omega), oV_none] at q
      exact q
theorem ok_pi (F : FunD K "spine_item" "PlaceFit.spine_item" (defArgs sPI) (defBody sPI) (defScope sPI) [] [] f fd) (E : Glob K mg) (FC : FitC K C) (c_power_of : Cal P w K mg base CX0 1 "power_of" ["arity", "exponent"] spPow)
    (c_known_frequency : CalM P w K mg base 2 C "known_frequency" ["self", "exponent"] (spKF K C)) : FnOk P w K mg base CX0 3 f fd ["self", "sums", "exponent"] (spPI K C) := by
  refine F.ok scPI (fun vs H Q E h => ?_) (fun cdv A outer s H vs Q _ hr h => ?_)
  · obtain ⟨x, l, ps, k, rest, b, e, L, rfl, _⟩ := h
    rfl
  · obtain ⟨x, l, ps, k, rest, b, e, L, rfl, ⟨dx, tp, lb, fit⟩, hl, hk, hk9, he, q⟩ := h
    refine ⟨_, PSs.nox (pss_cons (ps_set (i := 3) scPI.nd rfl (.inl rfl) (pe_calM (pv 0) FC.cls c_known_frequency (hr.mono (by decide)) (pa_cons (pv 2) pa_nil)))
      (pss_cons (ps_if (pt_cmpR op_notN' (pv 3) pe_non (nomark _))
        (pss_one (ps_ret (pe_op op_sub (pv 3) (pe_ix (ix_listK (K := K) rfl) (pv 1) (pv 2) (fun _ _ => rfl)))))
        pss_nil)
      (pss_cons (ps_set (i := 4) scPI.nd rfl (.inl rfl) (pe_cmpR op_eq (pe_cal c_power_of (hr.mono (by decide)) (pa_cons (pe_fldK (K := K) rfl (pv 0)) (pa_cons (pv 2) pa_nil))) (pe_callB (call_lenK (K := K) rfl) (by rfl) E.n_len PySem.boot_len (pa_cons (pe_fldK (K := K) rfl (pv 0)) pa_nil)) (nomark _)))
      (pss_one (ps_ret (pe_ifExp (pt_val (pv 4)) (pe_callB (call_mx2 rfl) (by rfl) E.n_max PyProof.Rows.Boot.«max» (pa_cons pe_int (pa_cons (pe_op op_sub (pe_fldK (K := K) rfl (pv 0)) (pe_ix (ix_listK (K := K) rfl) (pv 1) (pv 2) (fun _ _ => rfl))) pa_nil))) pe_int)))))), ?_⟩
    refine w_start (σ' := [some (.ref x), some (.ref l), some (.int e), none, none]) rfl ?_
    exists ("wq", ())
    refine ⟨x, dx, _, rfl, fit.x, rfl, ?_⟩
    exists ("wq", ())
    refine ⟨x, ps, k, rest, b, e, rfl, ⟨dx, tp, lb, fit⟩, hk, hk9, by omega, ?_⟩
    exists ("wq", ())
    have hp : 1 ≤ k ^ e := Nat.pow_pos (by omega)
    by_cases c : k ^ e < b.length
    · rw [freq, if_pos c]
      refine w_iteN (fun _ => ?_) (fun z => by cases z)
      rw [oV_some]
      exists ("wq", ())
      refine w_ixIn (i := e) (ns := rowL L) (SqL.of hl) (by rw [rowL_len]; omega) ?_
      rw [rowL_get L (by omega)]
      exists ("wq", ())
      rw [spineItem, if_pos c] at q
      exact q
    · rw [freq, if_neg c]
      refine w_iteN (fun z => absurd rfl z) (fun _ => ?_)
      rw [oV_none]
      exists ("wq", ())
      refine fit.get FC (by decide) rfl ?_
      exists ("wq", ())
      refine ⟨k, e, rfl, hk9, by omega, ?_⟩
      exists ("wq", ())
      refine fit.get FC (by decide) rfl ?_
      exists ("wq", ())
      refine w_lenL (SqL.of fit.b) ?_
      rw [List.length_map]
      exists ("wq", ())
      refine w_ite (fun c2 => ?_) (fun c2 => ?_)
      · exists ("wq", ())
        refine fit.get FC (by decide) rfl ?_
        exists ("wq", ())
        refine w_ixIn (i := e) (ns := rowL L) (SqL.of hl) (by rw [rowL_len]; omega) ?_
        rw [rowL_get L (by omega)]
        exists ("wq", ())
        rw [spineItem, if_neg c, if_pos (by omega)] at q
        exact q
      · exists ("wq", ())
        rw [spineItem, if_neg c, if_neg (by omega)] at q
        exact q
theorem d0_tail : cutS ("d0" : Str) (some 1) none = ("0" : Str) ∧ ("d0" : Str).length ≤ sizeLine := by decide +kernel
theorem d0_at : atI ("d0" : Str).cps.toList 0 = some 100 := by decide +kernel
theorem d0_ne : decide (V.str ⟨#[100]⟩ = V.str "w") = false := by decide +kernel
theorem ok_rg (F : FunD K "range_of" "PlaceFit.range_of" (defArgs sRg) (defBody sRg) (defScope sRg) [] [] f fd) (E : Glob K mg) (FC : FitC K C) (c_is_item_name : Cal P w K mg base CX0 1 "is_item_name" ["name"] spNa)
    (c_limits : CalM P w K mg base 2 C "limits" ["self", "spine"] (spLi K C)) (c_relaxed : Cal P w K mg base CX0 1 "relaxed" ["lows", "highs", "gaps"] spRx) : FnOk P w K mg base CX0 3 f fd ["self", "name"] (spRg K C) := by
  refine F.ok scRg (fun vs H Q E h => ?_) (fun cdv A outer s H vs Q _ hr h => ?_)
  · obtain ⟨x, ps, k, rest, b, rfl, _⟩ := h
    rfl
  · obtain ⟨x, ps, k, rest, b, rfl, ⟨dx, tp, lb, fit⟩, hk, hk9, hl, q⟩ := h
    refine ⟨_, PSs.nox (pss_cons (ps_if (pt_not (pt_val (pe_cal c_is_item_name (hr.mono (by decide)) (pa_cons (pv 1) pa_nil))))
        (pss_one ps_never)
        pss_nil)
      (pss_cons (ps_set (i := 2) scRg.nd rfl (.inl rfl) (pe_idxK (K := K) rfl (pe_glob (v := .ref _) rfl E.g_INDEXES rfl) (pa_cons (pe_slice sl_str (pv 1) (po_some pe_int) po_none) pa_nil)))
      (pss_cons (ps_asg (pe_calM (pv 0) FC.cls c_limits (hr.mono (by decide)) (pa_cons pe_dnewK pa_nil)) (pg_tupK (K := K) (n := 2) rfl rfl (pgs_cons (pg_name (i := 3) scRg.nd rfl (.inl rfl)) (pgs_cons (pg_name (i := 4) scRg.nd rfl (.inl rfl)) pgs_nil))))
      (pss_cons (ps_expr (pe_cal c_relaxed (hr.mono (by decide)) (pa_cons (pv 3) (pa_cons (pv 4) (pa_cons pe_dnewK pa_nil)))))
      (pss_cons (ps_if (pt_cmpR op_eq (pe_ix ix_str (pv 1) pe_int (fun _ _ => rfl)) pe_str (nomark _))
        (pss_cons ps_never
        (pss_one ps_never))
        pss_nil)
      (pss_cons (ps_if (pt_cmpR op_eq (pv 2) pe_int (nomark _))
        (pss_one (ps_ret (pe_ifExp (pt_cmpR (op_neDK (K := K) rfl hr.units) (pe_fldK (K := K) rfl (pv 0)) (pe_tup pa_nil) (nomark _)) (pe_tup (pa_cons (pe_ix (ix_tupK (K := K) rfl) (pe_fldK (K := K) rfl (pv 0)) pe_int (fun _ _ => rfl)) (pa_cons (pe_ix (ix_tupK (K := K) rfl) (pe_fldK (K := K) rfl (pv 0)) pe_int (fun _ _ => rfl)) pa_nil))) (pe_tup (pa_cons (pe_fldK (K := K) rfl (pv 0)) (pa_cons (pe_globI E.kMOST_LABELS) pa_nil))))))
        pss_nil)
      (pss_cons ps_never
      (pss_one ps_never)))))))), ?_⟩
    refine w_start (σ' := [some (.ref x), some (.str "d0"), none, none, none, none, none]) rfl ?_
    exists ("wq", ())
    refine ⟨true, 0, rfl, by omega, fun H1 s1 => ?_⟩
    exists ("wq", ())
    refine ⟨E.y_INDEXES _, ?_⟩
    exists ("wq", ())
    refine ⟨_, rfl, d0_tail.2, ?_⟩
    rw [d0_tail.1]
    exists ("wq", ())
    refine ⟨_, _, _, 0, rfl, rfl, E.t_INDEXES _, rfl, fun m hm => by omega, ?_⟩
    exists ("wq", ())
    refine ⟨x, dx, _, rfl, s1 _ _ fit.x, rfl, ?_⟩
    exists ("wq", ())
    rename_i d H2 hd2 s2 h2
    refine ⟨x, d, ps, k, rest, b, _, rfl, ⟨dx, tp, lb, (by exists ("hp", ()))⟩, dg_nil h2, hk, hk9, hl, fun q3 lo hi H3 hq3 s3 h3 hlo hhi nlo nhi hne => ?_⟩
    exists ("wq", ())
    rename_i d2 H4 hd4 s4 h4
    refine ⟨lo, hi, d2, _, _, fun _ => none, rfl, hne, (by exists ("hp", ())), (by exists ("hp", ())), dg_nil h4, fun H5 r => ?_⟩
    have flo : H2 lo = none := nlo
    have sm2 : Same H2 H4 := (by exists ("sm", ()))
    have s5 : Same H2 H5 := r.same sm2 nlo nhi
    have s05 : Same H H5 := (by exists ("sm", ()))
    have fit5 : FitAt K H5 C x dx tp lb ps k rest b := FitAt.to s05 fit
    have fx5 := fit5.x
    have fp5 := fit5.p
    exists ("wq", ())
    refine ⟨_, _, _, rfl, rfl, d0_tail.2, d0_at, ?_⟩
    exists ("wq", ())
    rw [d0_ne]
    exists ("wq", ())
    refine w_itT rfl ?_
    exists ("wq", ())
    refine fit5.get FC (by decide) rfl ?_
    exists ("wq", ())
    refine w_iteN (fun c => ?_) (fun c => ?_)
    · exists ("wq", ())
      refine ⟨x, C, dx, _, _, rfl, (by exists ("hp", ())), FC.cls, FC.no _ (by decide), rfl, ?_⟩
      exists ("wq", ())
      refine w_ixTn (ns := ps) (i := 0) (by exists ("hp", ())) (List.length_pos_iff.mpr c) ?_
      exists ("wq", ())
      refine ⟨x, C, dx, _, _, rfl, (by exists ("hp", ())), FC.cls, FC.no _ (by decide), rfl, ?_⟩
      exists ("wq", ())
      refine w_ixTn (ns := ps) (i := 0) (by exists ("hp", ())) (List.length_pos_iff.mpr c) ?_
      exists ("wq", ())
      rename_i q7 H7 hq7 s7 h7
      refine q _ _ (by exists ("fr", ())) (by exists ("sm", ())) ?_
      rw [h7, firstOf, mostOf, if_neg c, if_neg c]
    · exists ("wq", ())
      refine ⟨x, C, dx, _, _, rfl, (by exists ("hp", ())), FC.cls, FC.no _ (by decide), rfl, ?_⟩
      exists ("wq", ())
      rename_i q7 H7 hq7 s7 h7
      refine q _ _ (by exists ("fr", ())) (by exists ("sm", ())) ?_
      rw [h7, firstOf, mostOf, if_pos c, if_pos c]
end
end
/-! #### W12 -/
section
abbrev N_scSc : List Str := ["self", "arity", "spine", "levels"]
theorem scSc : FnScope N_scSc ["self", "arity", "spine", "levels"] (defScope sSc) := ⟨rfl, rfl, rfl, by decide +kernel, rfl, by decide +kernel, by decide +kernel⟩
abbrev N_scEq : List Str := ["self", "other"]
theorem scEq : FnScope N_scEq ["self", "other"] (defScope sEq) := ⟨rfl, rfl, rfl, by decide +kernel, rfl, by decide +kernel, by decide +kernel⟩
def REq (K : PySem.W.Frag) (a b : Addr) (H : Hp) : Prop := ∃ k sp lv, Sch K H a k sp lv ∧ Sch K H b k sp lv
theorem w_eqNorm {K : PySem.W.Frag} {H : Hp} {Q : VK} {p q : Addr} {ns : List Int} (h1 : Norm K H p ns) (h2 : Norm K H q ns) (k : Q (.bl true) H) : rEqD K (.ref p) (.ref q) H Q := by
  obtain ⟨a, b, h1, h3, h4⟩ := h1
  obtain ⟨c, d, h2, h5, h6⟩ := h2
  have e1 := lay_ints (nf ns)
  have e2 := depth_ints (nf ns)
  have sh : SeqAt.shaped (.tuple [.tuple ((nf ns).map PyData.int), .tuple (([0] : List Int).map PyData.int)]) = true := by
    unfold SeqAt.shaped
    have e3 := lay_ints [0]
    have e4 := depth_ints [0]
    simp only [PyData.canLay0, PyData.canLayAll0, PyData.depth, PyData.depthAll, e1, e3, Bool.true_and]
    exact decide_eq_true (by omega)
  refine ⟨_, _, .tup (SqT.of h1) (.cons (.tup h3 (dp_ints _)) (.cons (.tup h4 (dp_ints _)) .nil)), .tup (SqT.of h2) (.cons (.tup h5 (dp_ints _)) (.cons (.tup h6 (dp_ints _)) .nil)), sh, sh, ?_⟩
  have e : PyData.eqv (.tuple [.tuple ((nf ns).map PyData.int), .tuple (([0] : List Int).map PyData.int)]) (.tuple [.tuple ((nf ns).map PyData.int), .tuple (([0] : List Int).map PyData.int)]) = true := by
    rw [PyData.eqv, PyData.eqvAll, PyData.eqvAll, PyData.eqvAll, eqv_tup, eqv_tup]
    simp
  rw [e]; exact k
section
variable {P : Program} {w : World} {K : PySem.W.Frag} {mg : Str → Option Value} {base : Heap} {f : Addr} {fd : FuncData}
structure CalS (P : Program) (w : World) (K : PySem.W.Frag) (mg : Str → Option Value) (base : Heap) (k : Nat) (C : Addr) (m : Str) (ps : List Str) (sp : Sp) : Prop where
  ok : ∃ mc p g fd, ClX.CRead K C mc ∧ SMet K C mc m p g ∧ FnOk P w K mg base CX0 k g fd ps sp ∧ Binds K fd ps []
theorem ok_sc {kws : List (Str × V)} (F : FunD K "__init__" "Schedule.__init__" (defArgs sSc) (defBody sSc) (defScope sSc) [] kws f fd) (E : Glob K mg) (c_is_integer : CalK P w K mg base CX0 1 "is_integer" ["value", "low", "high"] 1 ["low", "high"] spInt)
    (c_is_stream : CalS P w K mg base 3 (He.ga K "Schedule") "is_stream" ["value"] spIs) (c_stream_item : Cal P w K mg base CX0 1 "stream_item" ["stream", "index"] (spSI K)) (c_normal_form : Cal P w K mg base CX0 2 "normal_form" ["front", "loop"] (spNF K)) : FnOk P w K mg base CX0 4 f fd ["self", "arity", "spine", "levels"] (spSc K) := by
  obtain ⟨mc, psm, gsm, fsm, csr, csc, csF, csb⟩ := c_is_stream
  refine F.ok scSc (fun vs H Q E h => ?_) (fun cdv A outer s H vs Q _ hr h => ?_)
  · obtain ⟨x, s, l, dx, k, sp, lv, rfl, _⟩ := h
    rfl
  · obtain ⟨x, s', l, dx, k, sp, lv, rfl, hx, hk, hk9, hs, hl, is_, il, l1, q⟩ := h
    refine ⟨_, PSs.nox (pss_cons (ps_if (pt_not (pt_val (pe_calK c_is_integer (hr.mono (by decide)) (pa_cons (pv 1) pa_nil) (pk_cons pe_int (pk_cons (pe_globI E.kARITY_LIMIT) pk_nil)))))
        (pss_one ps_never)
        pss_nil)
      (pss_cons (ps_if (pt_not (pt_val (pe_smeth (pe_glob (v := .ref _) rfl E.g_Schedule rfl) csr csc csF csb (hr.mono (by decide)) (pa_cons (pv 2) pa_nil))))
        (pss_one ps_never)
        pss_nil)
      (pss_cons (ps_if (pt_not (pt_val (pe_smeth (pe_glob (v := .ref _) rfl E.g_Schedule rfl) csr csc csF csb (hr.mono (by decide)) (pa_cons (pv 3) pa_nil))))
        (pss_one ps_never)
        pss_nil)
      (pss_cons (ps_if (pt_cmpR op_eq (pe_cal c_stream_item (hr.mono (by decide)) (pa_cons (pv 3) (pa_cons pe_int pa_nil))) pe_int (nomark _))
        (pss_one ps_never)
        pss_nil)
      (pss_cons (ps_fldK (K := K) rfl (pv 0) (pv 1))
      (pss_cons (ps_fldK (K := K) rfl (pv 0) (pe_cal c_normal_form (hr.mono (by decide)) (pa_cons (pe_ix (ix_tupK (K := K) rfl) (pv 2) pe_int (fun _ _ => rfl)) (pa_cons (pe_ix (ix_tupK (K := K) rfl) (pv 2) pe_int (fun _ _ => rfl)) pa_nil))))
      (pss_one (ps_fldK (K := K) rfl (pv 0) (pe_cal c_normal_form (hr.mono (by decide)) (pa_cons (pe_ix (ix_tupK (K := K) rfl) (pv 3) pe_int (fun _ _ => rfl)) (pa_cons (pe_ix (ix_tupK (K := K) rfl) (pv 3) pe_int (fun _ _ => rfl)) pa_nil))))))))))), ?_⟩
    refine w_start (σ' := [some (.ref x), some (.int k), some (.ref s'), some (.ref l)]) rfl ?_
    exists ("wq", ())
    refine ⟨rfl, rfl, k, 2, 9, rfl, ?_⟩
    rw [decide_eq_true (show (2 : Int) ≤ (k : Int) ∧ (k : Int) ≤ 9 from ⟨by omega, by omega⟩)]
    exists ("wq", ())
    refine ⟨s', sp, [0], rfl, hs, is_, by unfold Items; decide, fun H1 s1 => ?_⟩
    exists ("wq", ())
    refine ⟨l, lv, [0], rfl, (by exists ("hp", ())), by obtain ⟨i1, i2, i3⟩ := il; exact ⟨by omega, i2, i3⟩, by unfold Items; decide, fun H2 s2 => ?_⟩
    exists ("wq", ())
    have hl2 : Str2 H2 l lv [0] := (by exists ("hp", ()))
    have hs2 : Str2 H2 s' sp [0] := (by exists ("hp", ()))
    refine ⟨l, lv, [0], rfl, hl2.strm, by rintro rfl; exact absurd il.1 (by decide), by decide, ?_⟩
    exists ("wq", ())
    refine w_itF (by omega) ?_
    exists ("wq", ())
    have hx2 : H2 x = some (.ins (He.ga K "Schedule") dx []) := (by exists ("hp", ()))
    refine ⟨x, _, dx, [], rfl, hx2, E.cSchedule, E.aSchedule _ (by decide), by decide, ?_⟩
    obtain ⟨H3, e3, hx3, b3⟩ := upd_name H2 x (.ins (He.ga K "Schedule") dx (putF "own_arity" (.int (k : Int)) []))
    rw [e3]
    have hl3 : Str2 H3 l lv [0] := Str2.but b3 hx2 hl2
    obtain ⟨sa, sb, hs3a, hs3b, hs3c⟩ := Str2.but b3 hx2 hs2
    exists ("wq", ())
    refine w_ixT (SqT.of hs3a) rfl ?_
    exists ("wq", ())
    refine w_ixT (SqT.of hs3a) rfl ?_
    exists ("wq", ())
    refine ⟨sa, sb, sp, rfl, SqT.of hs3b, SqT.of hs3c, by have := is_.2.1; omega, fun r4 H4 hr4 s4 n4 => ?_⟩
    exists ("wq", ())
    have hx4 : H4 x = _ := s4 _ _ hx3
    refine ⟨x, _, dx, _, rfl, hx4, E.cSchedule, E.aSchedule _ (by decide), pl1, ?_⟩
    obtain ⟨H5, e5, hx5, b5⟩ := upd_name H4 x (.ins (He.ga K "Schedule") dx (putF "own_spine" (.ref r4) (putF "own_arity" (.int (k : Int)) [])))
    rw [e5]
    obtain ⟨la, lb, hl5a, hl5b, hl5c⟩ := Str2.but b5 hx4 (hl3.to s4)
    have n5 := n4.but b5 hx4
    exists ("wq", ())
    refine w_ixT (SqT.of hl5a) rfl ?_
    exists ("wq", ())
    refine w_ixT (SqT.of hl5a) rfl ?_
    exists ("wq", ())
    refine ⟨la, lb, lv, rfl, SqT.of hl5b, SqT.of hl5c, by have := il.2.1; omega, fun r6 H6 hr6 s6 n6 => ?_⟩
    exists ("wq", ())
    have hx6 : H6 x = _ := s6 _ _ hx5
    refine ⟨x, _, dx, _, rfl, hx6, E.cSchedule, E.aSchedule _ (by decide), pl2, ?_⟩
    obtain ⟨H7, e7, hx7, b7⟩ := upd_name H6 x (.ins (He.ga K "Schedule") dx (putF "own_levels" (.ref r6) (putF "own_spine" (.ref r4) (putF "own_arity" (.int (k : Int)) []))))
    rw [e7]
    refine q H7 ?_ ⟨dx, r4, r6, hx7, (n5.to s6).but b7 hx6, n6.but b7 hx6⟩
    exact (((((But.same (s1.trans s2)).trans b3).trans (But.same s4)).trans b5).trans (But.same s6)).trans b7
theorem ok_eq (F : FunD K "__eq__" "Schedule.__eq__" (defArgs sEq) (defBody sEq) (defScope sEq) [] [] f fd) (E : Glob K mg) : FnOk P w K mg base CX0 1 f fd ["self", "other"] (spEq (REq K)) := by
  refine F.ok scEq (fun vs H Q E h => ?_) (fun cdv A outer s H vs Q _ hr h => ?_)
  · obtain ⟨a, b, rfl, _⟩ := h
    rfl
  · obtain ⟨a, b, rfl, ⟨k, sp, lv, ⟨dx, ps, pl, h1, h2, h3⟩, ⟨dy, qs, ql, g1, g2, g3⟩⟩, q⟩ := h
    refine ⟨_, PSs.nox (pss_cons (ps_if (PW.pt (pw_or (pt_not (pt_val (pe_callB (call_isiK' (K := K) rfl) (by rfl) E.n_isinstance PyProof.Rows.Boot.«isinstance» (pa_cons (pv 1) (pa_cons (pe_glob (v := .ref _) rfl E.g_Schedule rfl) pa_nil))))) (pw_or1 (pt_cmpR op_ne (pe_fldK (K := K) rfl (pv 0)) (pe_fldK (K := K) rfl (pv 1)) (nomark _)))))
        (pss_one (ps_ret pe_bl))
        pss_nil)
      (pss_one (ps_ret (pe_and (pe_cmpR (op_eqDK (K := K) rfl hr.units) (pe_fldK (K := K) rfl (pv 0)) (pe_fldK (K := K) rfl (pv 1)) (nomark _)) (pe_one (pe_cmpR (op_eqDK (K := K) rfl hr.units) (pe_fldK (K := K) rfl (pv 0)) (pe_fldK (K := K) rfl (pv 1)) (nomark _))))))), ?_⟩
    refine w_start (σ' := [some (.ref a), some (.ref b)]) rfl ?_
    exists ("wq", ())
    refine ⟨.ref b, .ref _, .ref _, .ref _, true, rfl, .own _, .base (E.tSchedule _ _ _ _ g1), ?_, ?_⟩
    · unfold PySem.W.kitOne
      simp
    exists ("wq", ())
    refine ⟨a, _, dx, _, _, rfl, h1, E.cSchedule, E.aSchedule _ (by decide), rfl, ?_⟩
    exists ("wq", ())
    refine ⟨b, _, dy, _, _, rfl, g1, E.cSchedule, E.aSchedule _ (by decide), rfl, ?_⟩
    exists ("wq", ())
    refine w_iteN (fun c => absurd rfl c) (fun _ => ?_)
    exists ("wq", ())
    refine ⟨a, _, dx, _, _, rfl, h1, E.cSchedule, E.aSchedule _ (by decide), rfl, ?_⟩
    exists ("wq", ())
    refine ⟨b, _, dy, _, _, rfl, g1, E.cSchedule, E.aSchedule _ (by decide), rfl, ?_⟩
    exists ("wq", ())
    refine w_eqNorm h2 g2 ?_
    exists ("wq", ())
    refine ⟨a, _, dx, _, _, rfl, h1, E.cSchedule, E.aSchedule _ (by decide), rfl, ?_⟩
    exists ("wq", ())
    refine ⟨b, _, dy, _, _, rfl, g1, E.cSchedule, E.aSchedule _ (by decide), rfl, ?_⟩
    exists ("wq", ())
    refine w_eqNorm h3 g3 ?_
    exact q _ (fun _ _ h => h)
end
end
/-! #### W13 -/
section
abbrev N_scCo : List Str := ["self", "items", "spine", "gaps", "name", "item", "least", "most", "lows", "highs", "found", "exponent", "levels", "earlier", "later"]
theorem scCo : FnScope N_scCo ["self", "items"] (defScope sCo) := ⟨rfl, rfl, rfl, by decide +kernel, rfl, by decide +kernel, by decide +kernel⟩
theorem w_iteb {p : Bool} {A B : Prop} (h1 : p = true → A) (h2 : p = false → B) : if p = true then A else B := by
  cases p
  · exact h2 rfl
  · exact h1 rfl
abbrev spG (its : Its) : Nat → Option Int := itOf true its
abbrev gpG (its : Its) : Gaps := itOf false its
def Good (lv sp : List Int) : Prop := Items 1 12 lv ∧ Items 0 12 sp ∧ 1 ≤ lv.getD 0 0
def Answer (K : PySem.W.Frag) (k : Int) (H : Hp) (Q : VK) : Option (List Int × List Int) → Prop
  | none => RetV .non H Q
  | some (lv, sp) => ∀ y H', H y = none → Same H H' → Sch K H' y k sp lv → Q (.ref y) H'
def ItOk (t : Bool × Nat × Int) : Prop := t.2.1 < 12 ∧ 0 ≤ t.2.2 ∧ t.2.2 ≤ 1000000 ∧ (t.1 = false → t.2.1 = 0 → 1 ≤ t.2.2)
def spCo (K : PySem.W.Frag) (C : Addr) : Sp := fun vs H Q _ => ∃ (x d : Addr) (ps : List Int) (k : Nat) (rest : Int) (b : List Int) (its : Its), vs = [.ref x, .ref d] ∧ Fit K H C x ps k rest b ∧ H d = some (.dK (kvOf its)) ∧ its.length ≤ 15 ∧ (∀ t ∈ its, ItOk t) ∧
  2 ≤ k ∧ k ≤ 9 ∧ b.length ≤ 19 ∧ (∀ lv sp, completed k b rest (firstOf ps rest) (mostOf ps) (spG its) (gpG its) = some (lv, sp) → Good lv sp) ∧
  Answer K (k : Int) H Q (completed k b rest (firstOf ps rest) (mostOf ps) (spG its) (gpG its))
section
variable {P : Program} {w : World} {K : PySem.W.Frag} {mg : Str → Option Value} {base : Heap} {f : Addr} {fd : FuncData} {C : Addr}
theorem body_co (E : Glob K mg) (FC : FitC K C) (c_is_item_name : Cal P w K mg base CX0 1 "is_item_name" ["name"] spNa)
    (c_check_integer : Cal P w K mg base CX0 2 "check_integer" ["value", "low", "high"] spChk) (c_range_of : CalM P w K mg base 3 C "range_of" ["self", "name"] (spRg K C))
    (c_limits : CalM P w K mg base 2 C "limits" ["self", "spine"] (spLi K C)) (c_relaxed : Cal P w K mg base CX0 1 "relaxed" ["lows", "highs", "gaps"] spRx)
    (c_spine_item : CalM P w K mg base 3 C "spine_item" ["self", "sums", "exponent"] (spPI K C)) (c_Schedule : CalMk P w K mg base 4 "Schedule" (He.ga K "Schedule") 1 ["spine", "levels"] ["self", "arity", "spine", "levels"] (spSc K))
    (cdv : Value) (A : Around) (outer : List Env) (s : Shared) (H : Hp) (vs : List V) (Q : VK) (E' : XK) (hr : Room 5 (A.deeper (envOfC "PlaceFit.completed" (defScope sCo) s.heap.objs.size f cdv))) (h : spCo K C vs H Q E') :
    ∃ t, PSs (cxOf CX0 P w K mg base N_scCo "PlaceFit.completed" (defScope sCo) f cdv A outer s H E') (defBody sCo) t ∧ t { nx := fun _ H' => Q .non H', rt := Q } (L2.start N_scCo vs) H := by
  · obtain ⟨x, d, ps, k, rest, b, its, rfl, fit, hd, hits, hok, hk, hk9, hl, good, q⟩ := h
    refine ⟨_, PSs.nox (pss_cons (ps_par (i := 2) (j := 3) rfl scCo.nd rfl rfl (by decide) rfl rfl (pa_cons pe_dnewK (pa_cons pe_dnewK pa_nil)) (by rfl))
      (pss_cons (ps_lock (ps_for PassesOwn.never rfl (pi_keys (pv 1)) (pg_name (i := 4) scCo.nd rfl (.inl rfl))
        (pss_one (ps_if (pt_not (pt_val (pe_cal c_is_item_name (hr.mono (by decide)) (pa_cons (pv 4) pa_nil))))
          (pss_one ps_never)
          pss_nil))))
      (pss_cons (ps_lock (ps_for PassesOwn.never rfl (pi_items (pv 1)) (pg_tupK (K := K) (n := 2) rfl rfl (pgs_cons (pg_name (i := 4) scCo.nd rfl (.inl rfl)) (pgs_cons (pg_name (i := 5) scCo.nd rfl (.inl rfl)) pgs_nil)))
        (pss_cons (ps_expr (pe_cal c_check_integer (hr.mono (by decide)) (pa_cons (pv 5) (pa_cons (pe_ifExp (pt_cmpR op_eq (pv 4) pe_str (nomark _)) pe_int pe_int) (pa_cons (pe_globI E.kMOST_LABELS) pa_nil)))))
        (pss_one (ps_if (pt_cmpR op_eq (pe_ix ix_str (pv 4) pe_int (fun _ _ => rfl)) pe_str (nomark _))
          (pss_one (ps_dput (u1 hr.units) (pv 2) (pe_idxK (K := K) rfl (pe_glob (v := .ref _) rfl E.g_INDEXES rfl) (pa_cons (pe_slice sl_str (pv 4) (po_some pe_int) po_none) pa_nil)) (pv 5) (by rfl)))
          (pss_one (ps_dput (u1 hr.units) (pv 3) (pe_idxK (K := K) rfl (pe_glob (v := .ref _) rfl E.g_INDEXES rfl) (pa_cons (pe_slice sl_str (pv 4) (po_some pe_int) po_none) pa_nil)) (pv 5) (by rfl))))))))
      (pss_cons (ps_asg (pe_calM (pv 0) FC.cls c_range_of (hr.mono (by decide)) (pa_cons pe_str pa_nil)) (pg_tupK (K := K) (n := 2) rfl rfl (pgs_cons (pg_name (i := 6) scCo.nd rfl (.inl rfl)) (pgs_cons (pg_name (i := 7) scCo.nd rfl (.inl rfl)) pgs_nil))))
      (pss_cons (ps_asg (pe_calM (pv 0) FC.cls c_limits (hr.mono (by decide)) (pa_cons (pv 2) pa_nil)) (pg_tupK (K := K) (n := 2) rfl rfl (pgs_cons (pg_name (i := 8) scCo.nd rfl (.inl rfl)) (pgs_cons (pg_name (i := 9) scCo.nd rfl (.inl rfl)) pgs_nil))))
      (pss_cons (ps_if (PW.pt (pw_or (pt_not (pt_chain op_le op_le (pv 6) (pe_dget2 (u1 hr.units) (pv 2) pe_int (pv 6) ⟨by rfl, by rfl, by rfl, by rfl⟩) (pv 7))) (pw_or1 (pt_not (pt_val (pe_cal c_relaxed (hr.mono (by decide)) (pa_cons (pv 8) (pa_cons (pv 9) (pa_cons (pv 3) pa_nil)))))))))
        (pss_one (ps_ret pe_non))
        pss_nil)
      (pss_cons (ps_set (i := 10) scCo.nd rfl (.inl rfl) (pe_lst (pa_cons (pe_dget2 (u1 hr.units) (pv 2) pe_int (pv 6) ⟨by rfl, by rfl, by rfl, by rfl⟩) pa_nil)))
      (pss_cons (ps_for PassesOwn.never rfl (pi_range1 (by rfl) E.n_range (pa_cons (pe_op op_sub (pe_globI E.kITEM_COUNT) pe_int) pa_nil)) (pg_name (i := 11) scCo.nd rfl (.inl rfl))
        (pss_cons (ps_set (i := 5) scCo.nd rfl (.inl rfl) (pe_dget1 (u1 hr.units) (pv 2) (pe_op op_add (pv 11) pe_int) ⟨by rfl, by rfl, by rfl, by rfl⟩))
        (pss_one (ps_expr (pe_appK (K := K) rfl (pv 10) (pa_cons (pe_ifExp (pt_cmpR op_notN' (pv 5) pe_non (nomark _)) (pv 5) (pe_calM (pv 0) FC.cls c_spine_item (hr.mono (by decide)) (pa_cons (pv 8) (pa_cons (pv 11) pa_nil)))) pa_nil))))))
      (pss_cons (ps_set (i := 12) scCo.nd rfl (.inl rfl) (pe_op op_cat (pe_lst (pa_cons (pe_ix (ix_listK (K := K) rfl) (pv 8) pe_int (fun _ _ => rfl)) pa_nil)) (pe_lc (own := [("earlier", 13), ("later", 14)]) rfl scCo.nd (pi_zipK (K := K) rfl (by rfl) E.n_zip (pa_cons (pv 8) (pa_cons (pe_slice (sl_listK (K := K) rfl) (pv 8) (po_some pe_int) po_none) pa_nil))) (blkOk_by (N := N_scCo) (sc := defScope sCo) (by decide +kernel)) (fun _ _ _ _ _ => (pg_tupK (K := K) (n := 2) rfl rfl (pgs_cons (pg_name (i := 13) scCo.nd rfl (.inl rfl) (.inr rfl)) (pgs_cons (pg_name (i := 14) scCo.nd rfl (.inl rfl) (.inr rfl)) pgs_nil)))) (fun _ _ _ _ _ => pts_nil) (fun _ _ _ _ _ => (pe_op op_sub (pv 14) (pv 13))))))
      (pss_one (ps_ret (pe_mk c_Schedule (hr.mono (by decide)) (pa_cons (pe_fldK (K := K) rfl (pv 0)) pa_nil) (pk_cons (pe_tup (pa_cons (pe_callTy (call_tupleK (K := K) rfl) (by rfl) E.n_tuple PyProof.Rows.Boot.«tuple» (pa_cons (pv 10) pa_nil)) (pa_cons (pe_tup (pa_cons pe_int pa_nil)) pa_nil))) (pk_cons (pe_tup (pa_cons (pe_callTy (call_tupleK (K := K) rfl) (by rfl) E.n_tuple PyProof.Rows.Boot.«tuple» (pa_cons (pv 12) pa_nil)) (pa_cons (pe_tup (pa_cons pe_int pa_nil)) pa_nil))) pk_nil)))))))))))))), ?_⟩
    refine w_start (σ' := [some (.ref x), some (.ref d), none, none, none, none, none, none, none, none, none, none, none, none, none]) rfl ?_
    exists ("wq", ())
    rename_i ds H1 hp1 s1 h1 dg H2 hp2 s2 h2
    have fds : H ds = none := (by exists ("fr", ()))
    have fdg : H dg = none := (by exists ("fr", ()))
    have h1' : H2 ds = some (.dK []) := (by exists ("hp", ()))
    have hne : ds ≠ dg := by
      rintro rfl
      rw [h1] at hp2
      cases hp2
    have hd2 : H2 d = some (.dK (kvOf its)) := (by exists ("hp", ()))
    have dn1 : d ≠ ds := fun z => by rw [z, fds] at hd; cases hd
    have dn2 : d ≠ dg := fun z => by rw [z, fdg] at hd; cases hd
    refine ⟨d, _, hd2, trivial, fun od => ?_⟩
    obtain ⟨H3, e3, hd3, b3⟩ := upd_name H2 d (.frz od (.dK (kvOf its)))
    rw [e3]
    exists ("wq", ())
    refine ⟨d, od, rfl, .inl ⟨_, hd3, ?_⟩⟩
    refine for_it walk_keys (fun i σ H' => ∃ t, σ = [some (.ref x), some (.ref d), some (.ref ds), some (.ref dg), t, none, none, none, none, none, none, none, none, none, none] ∧ Same H3 H') ⟨_, rfl, Same.refl _⟩ ?_ ?_ ?_
    · rintro i σ H4 _ ⟨t, rfl, s4⟩
      exact s4 _ _ hd3
    · rintro i v σ H4 H5 hi ⟨t, rfl, s4⟩ ⟨rfl, k', v', hkv, rfl⟩
      obtain ⟨hi', rfl, rfl⟩ := lows_ok hkv
      obtain ⟨o1, o2, o3, o4⟩ := hok _ (List.getElem_mem hi')
      show gName 4 (.str (nm its[i].1 its[i].2.1)) _ _ _
      exists ("wq", ())
      refine ⟨its[i].1, its[i].2.1, rfl, o1, fun H6 s6 => ?_⟩
      exists ("wq", ())
      exact ⟨_, rfl, (by exists ("sm", ()))⟩
    rintro σ H4 ⟨t, rfl, s4⟩
    refine ⟨s4 _ _ hd3, ?_⟩
    have s5 := lock_back hd2 b3 s4
    generalize upd H4 d (.dK (kvOf its)) = H5 at s5 ⊢
    have s25 : Same H2 H5 := s5
    have hd5 : H5 d = some (.dK (kvOf its)) := s5 _ _ hd2
    have hs5 : H5 ds = some (.dK []) := s5 _ _ h1'
    have hg5 : H5 dg = some (.dK []) := s5 _ _ h2
    have s05 : Same H H5 := (by exists ("sm", ()))
    exists ("wq", ())
    refine ⟨d, _, hd5, trivial, fun od2 => ?_⟩
    obtain ⟨H6, e6, hd6, b6⟩ := upd_name H5 d (.frz od2 (.dK (kvOf its)))
    rw [e6]
    have dn : ∀ {n : Nat} {Hx : Hp} {a : Addr}, Hx a = some (.dK []) → DGn 0 Hx a fun _ => none := fun h => ⟨[], h, Nat.le_refl _, fun i => rfl⟩
    exists ("wq", ())
    refine ⟨d, od2, _, rfl, hd6, ?_⟩
    refine for_it walk_items (fun i σ H' => ∃ t t', σ = [some (.ref x), some (.ref d), some (.ref ds), some (.ref dg), t, t', none, none, none, none, none, none, none, none, none] ∧ DGn i H' ds (spG (its.take i)) ∧ DGn i H' dg (gpG (its.take i)) ∧ ∀ y u, H6 y = some u → y ≠ ds → y ≠ dg → H' y = some u)
      ⟨_, _, rfl, dn (n := 0) (b6 _ _ hs5 dn1.symm), dn (n := 0) (b6 _ _ hg5 dn2.symm), fun y u h _ _ => h⟩ ?_ ?_ ?_
    · rintro i σ H7 _ ⟨t, t', rfl, g1, g2, k7⟩
      exact k7 _ _ hd6 dn1 dn2
    · rintro i v σ H7 H8 hi ⟨t, t', rfl, g1, g2, k7⟩ y
      have hi2 : i < its.length := by rw [show (kvOf its).length = its.length by simp [kvOf]] at hi; exact hi
      obtain ⟨T, u, v', rfl, s8, hT, e1, e2⟩ := pair_in y
      have ek : (kvOf its)[i]? = some (.inr (nm its[i].1 its[i].2.1), .int its[i].2.2) := by
        unfold kvOf
        rw [List.getElem?_map, List.getElem?_eq_getElem hi2] <;> rfl
      rw [ek] at e1 e2
      cases Option.some.inj e1
      cases Option.some.inj e2
      obtain ⟨o1, o2, o3, o4⟩ := hok _ (List.getElem_mem hi2)
      have es : spG (its.take (i + 1)) = addIt true (spG (its.take i)) its[i] := itOf_succ true its hi2
      have eg : gpG (its.take (i + 1)) = addIt false (gpG (its.take i)) its[i] := itOf_succ false its hi2
      rw [es, eg]
      generalize its[i] = tt at o1 o2 o3 o4 hT ⊢
      obtain ⟨bb, ii, vv⟩ := tt
      have hT' : H8 T = some (.tup [.str (nm bb ii), .int vv]) := hT
      clear hT
      have o1 : ii < 12 := o1
      have o2 : 0 ≤ vv := o2
      have o3 : vv ≤ 1000000 := o3
      have o4 : bb = false → ii = 0 → 1 ≤ vv := o4
      have n2 : cutS (nm bb ii) (some 1) none = ix ii := (nm_facts bb ⟨ii, o1⟩).2.1
      have n3 : (nm bb ii).length ≤ sizeLine := (nm_facts bb ⟨ii, o1⟩).2.2.1
      have n4 : ixs[ii]? = some (ix ii) := (nm_facts bb ⟨ii, o1⟩).2.2.2.1
      have n5 : ∀ m : Fin 12, m.val < ii → ixs[m.val]? ≠ some (ix ii) := (nm_facts bb ⟨ii, o1⟩).2.2.2.2.1
      have m1 : decide (V.str (nm bb ii) = V.str "w0") = (!bb && decide (ii = 0)) := (nm_more bb ⟨ii, o1⟩).1
      have m2 : (nm bb ii).cps.toList[0]? = some (if bb then 100 else 119) := (nm_more bb ⟨ii, o1⟩).2
      have g1 := g1.to s8
      have g2 := g2.to s8
      have k8 : ∀ y u, H6 y = some u → y ≠ ds → y ≠ dg → H8 y = some u := fun y u h h1 h2 => s8 _ _ (k7 y u h h1 h2)
      exists ("wq", ())
      rw [m1]
      refine w_iteb (fun c => ?_) (fun c => ?_)
      · exists ("wq", ())
        obtain ⟨c1, c2⟩ : bb = false ∧ ii = 0 := by
          cases bb
          · exact ⟨rfl, of_decide_eq_true c⟩
          · cases c
        refine ⟨vv, 1, 1000000, rfl, o4 c1 c2, o3, ?_⟩
        exists ("wq", ())
        refine ⟨_, 0, _, rfl, rfl, n3, (by show atI (nm bb ii).cps.toList ((0 : Nat) : Int) = some (if bb then 100 else 119); exact atI_nat m2), ?_⟩
        exists ("wq", ())
        rw [nm_d bb]
        cases bb with
        | true =>
          exists ("wq", ())
          refine ⟨E.y_INDEXES _, ?_⟩
          exists ("wq", ())
          refine ⟨_, rfl, n3, ?_⟩
          rw [n2]
          exists ("wq", ())
          refine ⟨_, ixs, _, ii, rfl, rfl, E.t_INDEXES _, n4, fun m hm => n5 ⟨m, by omega⟩ hm, ?_⟩
          exists ("wq", ())
          obtain ⟨H9, p9, d9, k9⟩ := g1.put (by omega) ii vv
          refine ⟨ds, H9, rfl, p9, ?_⟩
          exists ("wq", ())
          have g2' : DGn i H9 dg (gpG (its.take i)) := by
            obtain ⟨kvs, z1, z2⟩ := g2
            exact ⟨kvs, k9 _ _ z1 hne.symm, z2⟩
          exact ⟨_, _, rfl, d9, g2'.mono (Nat.le_succ i), fun y u h h1 h2 => k9 _ _ (k8 y u h h1 h2) h1⟩
        | false =>
          exists ("wq", ())
          refine ⟨E.y_INDEXES _, ?_⟩
          exists ("wq", ())
          refine ⟨_, rfl, n3, ?_⟩
          rw [n2]
          exists ("wq", ())
          refine ⟨_, ixs, _, ii, rfl, rfl, E.t_INDEXES _, n4, fun m hm => n5 ⟨m, by omega⟩ hm, ?_⟩
          exists ("wq", ())
          obtain ⟨H9, p9, d9, k9⟩ := g2.put (by omega) ii vv
          refine ⟨dg, H9, rfl, p9, ?_⟩
          exists ("wq", ())
          have g1' : DGn i H9 ds (spG (its.take i)) := by
            obtain ⟨kvs, z1, z2⟩ := g1
            exact ⟨kvs, k9 _ _ z1 hne, z2⟩
          exact ⟨_, _, rfl, g1'.mono (Nat.le_succ i), d9, fun y u h h1 h2 => k9 _ _ (k8 y u h h1 h2) h2⟩
      · exists ("wq", ())
        refine ⟨vv, 0, 1000000, rfl, o2, o3, ?_⟩
        exists ("wq", ())
        refine ⟨_, 0, _, rfl, rfl, n3, (by show atI (nm bb ii).cps.toList ((0 : Nat) : Int) = some (if bb then 100 else 119); exact atI_nat m2), ?_⟩
        exists ("wq", ())
        rw [nm_d bb]
        cases bb with
        | true =>
          exists ("wq", ())
          refine ⟨E.y_INDEXES _, ?_⟩
          exists ("wq", ())
          refine ⟨_, rfl, n3, ?_⟩
          rw [n2]
          exists ("wq", ())
          refine ⟨_, ixs, _, ii, rfl, rfl, E.t_INDEXES _, n4, fun m hm => n5 ⟨m, by omega⟩ hm, ?_⟩
          exists ("wq", ())
          obtain ⟨H9, p9, d9, k9⟩ := g1.put (by omega) ii vv
          refine ⟨ds, H9, rfl, p9, ?_⟩
          exists ("wq", ())
          have g2' : DGn i H9 dg (gpG (its.take i)) := by
            obtain ⟨kvs, z1, z2⟩ := g2
            exact ⟨kvs, k9 _ _ z1 hne.symm, z2⟩
          exact ⟨_, _, rfl, d9, g2'.mono (Nat.le_succ i), fun y u h h1 h2 => k9 _ _ (k8 y u h h1 h2) h1⟩
        | false =>
          exists ("wq", ())
          refine ⟨E.y_INDEXES _, ?_⟩
          exists ("wq", ())
          refine ⟨_, rfl, n3, ?_⟩
          rw [n2]
          exists ("wq", ())
          refine ⟨_, ixs, _, ii, rfl, rfl, E.t_INDEXES _, n4, fun m hm => n5 ⟨m, by omega⟩ hm, ?_⟩
          exists ("wq", ())
          obtain ⟨H9, p9, d9, k9⟩ := g2.put (by omega) ii vv
          refine ⟨dg, H9, rfl, p9, ?_⟩
          exists ("wq", ())
          have g1' : DGn i H9 ds (spG (its.take i)) := by
            obtain ⟨kvs, z1, z2⟩ := g1
            exact ⟨kvs, k9 _ _ z1 hne, z2⟩
          exact ⟨_, _, rfl, g1'.mono (Nat.le_succ i), d9, fun y u h h1 h2 => k9 _ _ (k8 y u h h1 h2) h2⟩
    rintro σ H7 ⟨t, t', rfl, g1, g2, k7⟩
    rw [show (kvOf its).length = its.length by simp [kvOf], List.take_length] at g1 g2
    refine ⟨k7 _ _ hd6 dn1 dn2, ?_⟩
    obtain ⟨H8, e8, hd8, b8⟩ := upd_name H7 d (.dK (kvOf its))
    rw [e8]
    have g1 : DG H8 ds (spG its) := by
      obtain ⟨kvs, z1, z2, z3⟩ := g1
      exact ⟨kvs, b8 _ _ z1 dn1.symm, by omega, z3⟩
    have g2 : DG H8 dg (gpG its) := by
      obtain ⟨kvs, z1, z2, z3⟩ := g2
      exact ⟨kvs, b8 _ _ z1 dn2.symm, by omega, z3⟩
    have s08 : Same H H8 := fun y u h => by
      by_cases c : y = d
      · subst c
        rw [hd8, ← hd, h]
      · exact b8 _ _ (k7 y u (b6 y u (s05 _ _ h) c) (ne_of_none h fds) (ne_of_none h fdg)) c
    clear k7 b8 e8 b6 e6 b3 e3 s4 s5
    obtain ⟨dx, tp, lb, fit⟩ := fit
    have fit8 := FitAt.to s08 fit
    exists ("wq", ())
    refine ⟨x, dx, _, rfl, fit8.x, rfl, ?_⟩
    exists ("wq", ())
    refine ⟨x, ps, k, rest, b, rfl, ⟨dx, tp, lb, fit8⟩, hk, hk9, hl, fun r9 H9 hr9 s9 h9 => ?_⟩
    exists ("wq", ())
    have fit9 := FitAt.to s9 fit8
    refine ⟨x, dx, _, rfl, fit9.x, rfl, ?_⟩
    exists ("wq", ())
    refine ⟨x, ds, ps, k, rest, b, spG its, rfl, ⟨dx, tp, lb, fit9⟩, g1.to s9, hk, hk9, hl, fun r10 lo hi H10 hr10 s10 h10 hlo hhi nlo nhi nne => ?_⟩
    have fit10 := FitAt.to s10 fit9
    have g1a : DG H10 ds (spG its) := (g1.to s9).to s10
    have g2a : DG H10 dg (gpG its) := (g2.to s9).to s10
    have s0 : Same H H10 := (s08.trans s9).trans s10
    exists ("wq", ())
    refine ⟨ds, spG its, rfl, g1a, ?_⟩
    exists ("wq", ())
    refine ⟨0, firstOf ps rest, rfl, rfl, g1a, ?_⟩
    exists ("wq", ())
    rw [show (spG its 0).getD (firstOf ps rest) = firstItem (spG its) (firstOf ps rest) from rfl]
    refine w_ite (fun c1 => ?_) (fun c1 => ?_)
    · exists ("wq", ())
      refine w_iteN (fun c2 => ?_) (fun c2 => ?_)
      · exists ("wq", ())
        unfold completed at q
        rw [if_neg (fun z => c2 z.1.2)] at q
        exact q _ (by exists ("sm", ()))
      · exists ("wq", ())
        refine ⟨lo, hi, dg, _, _, gpG its, rfl, nne, hlo, hhi, g2a, fun H11 r => ?_⟩
        have s11 : Same H9 H11 := r.same s10 nlo nhi
        have s01 : Same H H11 := (s08.trans s9).trans s11
        by_cases c3 : okAll (Ls (gpG its) (limits k b (spG its)).1) (Hs (gpG its) (limits k b (spG its)).2) = true
        · rw [c3]
          exists ("wq", ())
          unfold completed at q good
          rw [if_pos ⟨⟨c1, c2⟩, c3⟩] at q good
          obtain ⟨gd1, gd2, gd3⟩ := good _ _ rfl
          generalize Ls (gpG its) (limits k b (spG its)).1 = L at r q gd1 gd2 gd3
          generalize Hs (gpG its) (limits k b (spG its)).2 = U at r
          have fit11 := FitAt.to s11 fit9
          have ga11 : DG H11 ds (spG its) := (g1.to s9).to s11
          refine ⟨ds, spG its, rfl, ga11, ?_⟩
          exists ("wq", ())
          refine ⟨0, firstOf ps rest, rfl, rfl, ga11, ?_⟩
          rw [show (spG its 0).getD (firstOf ps rest) = firstItem (spG its) (firstOf ps rest) from rfl]
          exists ("wq", ())
          rename_i fo H12 hp12 s12 h12
          have rl := s12 _ _ r.l
          refine ⟨11, rfl, by omega, by omega, for_it (walk_range (lo := 0) (n := 11)) (fun e σ H' => ∃ t5 t11, σ = [some (.ref x), some (.ref d), some (.ref ds), some (.ref dg), t, t5, some (.int (firstOf ps rest)), some (.int (mostOf ps)), some (.ref lo), some (.ref hi), some (.ref fo), t11, none, none, none] ∧
            H' fo = some (.lst (VI (firstItem (spG its) (firstOf ps rest) :: (List.range e).map fun e => ((spG its) (e + 1)).getD (spineItem k b rest L e)))) ∧ Same H11 H') ⟨_, _, rfl, h12, s12⟩ (fun _ _ _ _ _ => trivial) ?_ ?_⟩
          · rintro e v σ H13 H14 he ⟨t5, t11, rfl, h14, s14⟩ ⟨rfl, rfl⟩
            have e0 : (fun i : Nat => V.int (0 + (i : Int))) e = V.int (e : Int) := congrArg V.int (by omega)
            rw [e0]
            have ga14 : DG H14 ds (spG its) := ga11.to s14
            have fit14 := FitAt.to s14 fit11
            exists ("wq", ())
            refine ⟨ds, spG its, rfl, ga14, ?_⟩
            exists ("wq", ())
            refine ⟨e + 1, rfl, ga14, ?_⟩
            have fin : ∀ v, v = ((spG its) (e + 1)).getD (spineItem k b rest L e) → ∀ R : Hp → Prop, (∀ H', H' fo = some (.lst (VI (firstItem (spG its) (firstOf ps rest) :: (List.range (e + 1)).map fun e => ((spG its) (e + 1)).getD (spineItem k b rest L e)))) → Same H11 H' → R H') → rAppend (.ref fo) [.int v] H14 fun _ H' => R H' := by
              rintro v rfl R hR
              refine w_append h14 (small_lt (by simp; omega)) (hR _ ?_ (Same.mut s14 hp12))
              rw [upd_same, range_snoc, VI, VI, List.map_cons, List.map_cons, List.map_append] <;> rfl
            exists ("wq", ())
            refine ⟨ty_lst h14, ?_⟩
            exists ("wq", ())
            cases es : (spG its) (e + 1) with
            | none =>
              rw [oV_none]
              refine w_iteN (fun z => absurd rfl z) (fun _ => ?_)
              exists ("wq", ())
              refine ⟨x, dx, _, rfl, fit14.x, rfl, ?_⟩
              exists ("wq", ())
              refine ⟨x, lo, ps, k, rest, b, e, L, rfl, ⟨dx, tp, lb, fit14⟩, s14 _ _ r.l, hk, hk9, by omega, ?_⟩
              exists ("wq", ())
              refine fin _ (by rw [es] <;> rfl) (fun H' => _) fun H' h' s' => ?_
              exists ("wq", ())
              exact ⟨_, _, rfl, h', s'⟩
            | some v =>
              rw [oV_some]
              refine w_iteN (fun _ => ?_) (fun z => by cases z)
              exists ("wq", ())
              refine fin _ (by rw [es] <;> rfl) (fun H' => _) fun H' h' s' => ?_
              exists ("wq", ())
              exact ⟨_, _, rfl, h', s'⟩
          · rintro σ H13 ⟨t5, t11, rfl, h13, s13⟩
            have rl13 := s13 _ _ r.l
            have fit13 := FitAt.to s13 fit11
            exists ("wq", ())
            refine w_ixIn (i := 0) (ns := rowL L) (SqL.of rl13) (by rw [rowL_len]; decide) ?_
            exists ("wq", ())
            rename_i p14 H14 hp14 s14 h14
            refine w_slL (xs := VI (rowL L)) (by exists ("hp", ())) fun p15 H15 hp15 s15 h15 => ?_
            rw [cut_tail, ← List.map_drop] at h15
            exists ("wq", ())
            have rl15 : H15 lo = some (.lst (VI (rowL L))) := (by exists ("hp", ()))
            refine ⟨lo, p15, VI (rowL L), VI ((rowL L).drop 1), rfl, .inl ⟨SqL.of rl15, SqL.of h15, fun D hD => ?_⟩⟩
            refine lc_ci (fun i => VI ((List.range i).map fun i => (rowL L).getD (i + 1) 0 - (rowL L).getD i 0)) (walk_zip (n := 11) (xs := VI (rowL L)) (ys := VI ((rowL L).drop 1)) (by simp [rowL])) hD (fun H' sm => ⟨Same.seq sm (SqL.of rl15), Same.seq sm (SqL.of h15)⟩) (fun i x H' Hy hi p sm y => ?_) (fun H16 sm16 h16 => ?_)
            · obtain ⟨T, u, v, rfl, sy, hT, e1, e2⟩ := pair_in y
              obtain ⟨_, rfl⟩ := vi_get e1
              obtain ⟨_, rfl⟩ := vi_get e2
              rw [drop_getD] at hT
              exists ("wq", ())
              refine ⟨rfl, ?_⟩
              exists ("wq", ())
              refine ci_add p sy ?_ (by simp; omega)
              rw [VI, VI, range_snoc, List.map_append] <;> rfl
            · exists ("wq", ())
              refine w_catL (by exists ("hp", ())) h16 (small_le (by simp)) fun p17 H17 hp17 s17 h17 => ?_
              have h17' : H17 p17 = some (.lst (VI (levelsOf L))) := by
                rw [h17]
                rfl
              exists ("wq", ())
              have fit17 : FitAt K H17 C x dx tp lb ps k rest b := (by exists ("hp", ()))
              refine fit17.get FC (by decide) rfl ?_
              exists ("wq", ())
              have h13' : H17 fo = some (.lst (VI (spineOf k b rest (firstOf ps rest) (spG its) L))) := by
                have z : H17 fo = _ := s17 _ _ (sm16 _ _ (s15 _ _ (s14 _ _ h13)))
                exact z
              refine w_tupL (xs := VI (spineOf k b rest (firstOf ps rest) (spG its) L)) (by exists ("hp", ())) fun p18 H18 hp18 s18 h18 => ?_
              exists ("wq", ())
              rename_i p19 H19 hp19 s19 h19 p20 H20 hp20 s20 h20
              refine w_tupL (xs := VI (levelsOf L)) (by exists ("hp", ())) fun p21 H21 hp21 s21 h21 => ?_
              exists ("wq", ())
              rename_i p22 H22 hp22 s22 h22 p23 H23 hp23 s23 h23
              refine ⟨rfl, rfl, fun y dy hy hdy hne => ?_⟩
              have st1 : Str2 H23 p20 (spineOf k b rest (firstOf ps rest) (spG its) L) [0] := by
                have z1 : H23 p20 = some (.tup [.ref p18, .ref p19]) := (by exists ("hp", ()))
                have z2 : H23 p18 = some (.tup (VI (spineOf k b rest (firstOf ps rest) (spG its) L))) := (by exists ("hp", ()))
                have z3 : H23 p19 = some (.tup [.int 0]) := (by exists ("hp", ()))
                exact ⟨p18, p19, z1, z2, z3⟩
              have st2 : Str2 H23 p23 (levelsOf L) [0] := by
                have z2 : H23 p21 = some (.tup (VI (levelsOf L))) := (by exists ("hp", ()))
                have z3 : H23 p22 = some (.tup [.int 0]) := (by exists ("hp", ()))
                exact ⟨p21, p22, h23, z2, z3⟩
              have s1723 : Same H17 H23 := (by exists ("sm", ()))
              have kp := made_keep (C := He.ga K "Schedule") hy hdy
              refine ⟨y, p20, p23, dy, k, _, _, rfl, upd_same, hk, hk9, st1.to kp, st2.to kp, gd2, gd1, gd3, fun H24 b24 sch => ⟨rfl, ?_⟩⟩
              have sN : Same H23 H24 := made_same hy hdy b24
              have s1123 : Same H11 H23 := ((((s13.trans s14).trans s15).trans sm16).trans s17).trans s1723
              have s023 : Same H H23 := s01.trans s1123
              exact q y H24 (Same.free s023 hy) (s023.trans sN) sch
        · rw [Bool.eq_false_iff.mpr c3]
          exists ("wq", ())
          unfold completed at q
          rw [if_neg (fun z => c3 z.2)] at q
          exact q _ (by exists ("sm", ()))
    · exists ("wq", ())
      unfold completed at q
      rw [if_neg (fun z => c1 z.1.1)] at q
      exact q _ (by exists ("sm", ()))
end
end
/-! #### W14 -/
section
abbrev N_scBe : List Str := ["_law_script", "_law_part"]
theorem scBe : FnScope N_scBe ["_law_script"] (defScope sBe) := ⟨rfl, rfl, rfl, by decide +kernel, rfl, by decide +kernel, by decide +kernel⟩
def spBe (K : PySem.W.Frag) : Sp := fun vs H Q _ => ∃ (sc : Addr) (script : List Int), vs = [.ref sc] ∧ SqL K H sc (VI script) ∧ script.length ≤ 10000 ∧ ∀ m lf H', H m = none → Same H H' → MOk K H' m sc lf script 0 → Q (.ref m) H'
abbrev N_scDr : List Str := ["_law_m", "_law_top_here", "_law_k", "_law_spot", "_law_part", "_law_mixed"]
theorem scDr : FnScope N_scDr ["_law_m", "_law_top_here"] (defScope sDr) := ⟨rfl, rfl, rfl, by decide +kernel, rfl, by decide +kernel, by decide +kernel⟩
def spDr (K : PySem.W.Frag) : Sp := fun vs H Q _ => ∃ (m sc lf : Addr) (script : List Int) (at_ : Nat) (tp : Int), vs = [.ref m, .int tp] ∧ MOk K H m sc lf script at_ ∧ at_ ≤ 1000000 ∧ 1 ≤ tp ∧ tp ≤ 1000000 ∧
  ∀ r H', 0 ≤ r → r < tp → MOk K H' m sc lf script (at_ + 1) → Chg m lf H H' → Q (.int r) H'
section
variable {P : Program} {w : World} {K : PySem.W.Frag} {mg : Str → Option Value} {base : Heap} {f : Addr} {fd : FuncData} {C : Addr}
theorem ok_dr (F : FD K "_law_draw" "_law_draw" sDr f fd) (E : Glob K mg) : FnOk P w K mg base CX0 1 f fd ["_law_m", "_law_top_here"] (spDr K) := by
  refine F.ok scDr (fun vs H Q E h => ?_) (fun cdv A outer s H vs Q _ hr h => ?_)
  · obtain ⟨m, sc, lf, script, at_, tp, rfl, _⟩ := h
    rfl
  · obtain ⟨m, sc, lf, script, n, tp, rfl, M, hn, ht, ht2, q⟩ := h
    refine ⟨_, PSs.nox (pss_cons (ps_set (i := 2) scDr.nd rfl (.inl rfl) (pe_dget (u1 hr.units) (pv 0) pe_str (fun _ _ => rfl)))
      (pss_cons (ps_dput (u1 hr.units) (pv 0) pe_str (pe_op op_add (pv 2) pe_int) (by rfl))
      (pss_cons (ps_set (i := 3) scDr.nd rfl (.inl rfl) (pe_op op_mod (pv 2) (pe_callB (call_mx2 rfl) (by rfl) E.n_max PyProof.Rows.Boot.«max» (pa_cons pe_int (pa_cons (pe_callB (call_lenK (K := K) rfl) (by rfl) E.n_len PySem.boot_len (pa_cons (pe_dget (u1 hr.units) (pv 0) pe_str (fun _ _ => rfl)) pa_nil)) pa_nil)))))
      (pss_cons (ps_if (PW.pt (pw_and (pt_cmpR (op_neDK (K := K) rfl hr.units) (pe_dget (u1 hr.units) (pv 0) pe_str (fun _ _ => rfl)) (pe_lst pa_nil) (nomark _)) (pw_and1 (pt_cmpR op_gt (pe_ix (ix_listK (K := K) rfl) (pe_dget (u1 hr.units) (pv 0) pe_str (fun _ _ => rfl)) (pv 3) (fun _ _ => rfl)) pe_int (nomark _)))))
        (pss_cons (ps_set (i := 4) scDr.nd rfl (.inl rfl) (pe_ix (ix_listK (K := K) rfl) (pe_dget (u1 hr.units) (pv 0) pe_str (fun _ _ => rfl)) (pv 3) (fun _ _ => rfl)))
        (pss_cons (ps_asg (pe_op op_fdiv (pv 4) (pv 1)) (pg_sub (pe_dget (u1 hr.units) (pv 0) pe_str (fun _ _ => rfl)) (pv 3) set_list))
        (pss_one (ps_ret (pe_op op_mod (pv 4) (pv 1))))))
        pss_nil)
      (pss_cons (ps_set (i := 4) scDr.nd rfl (.inl rfl) (pe_ifExp (pt_cmpR (op_neDK (K := K) rfl hr.units) (pe_dget (u1 hr.units) (pv 0) pe_str (fun _ _ => rfl)) (pe_lst pa_nil) (nomark _)) (pe_op op_mod (pe_ix (ix_listK (K := K) rfl) (pe_dget (u1 hr.units) (pv 0) pe_str (fun _ _ => rfl)) (pv 3) (fun _ _ => rfl)) pe_int) pe_int))
      (pss_cons (ps_set (i := 5) scDr.nd rfl (.inl rfl) (pe_op op_mod (pe_op op_add (pe_op op_add (pe_op op_add (pe_op op_mul (pv 4) pe_int) (pe_op op_mul (pe_op op_mul pe_int (pv 2)) (pv 2))) (pe_op op_mul pe_int (pv 2))) pe_int) pe_int))
      (pss_cons (ps_set (i := 5) scDr.nd rfl (.inl rfl) (pe_op op_mod (pe_op op_add (pe_op op_add (pe_op op_mul (pv 5) pe_int) (pe_op op_mul pe_int (pv 2))) pe_int) pe_int))
      (pss_one (ps_ret (pe_op op_mod (pe_op op_fdiv (pe_op op_mod (pe_op op_mul (pv 5) (pv 5)) pe_int) pe_int) (pv 1))))))))))), ?_⟩
    refine w_start (σ' := [some (.ref m), some (.int tp), none, none, none, none]) rfl ?_
    exists ("wq", ())
    refine ⟨m, _, rfl, M.gat, ?_⟩
    exists ("wq", ())
    refine ⟨m, _, rfl, DPut.k (k := .inr "at") M.hm (show 3 < sizeLine by decide), ?_⟩
    obtain ⟨left, hl, el⟩ := M.hl
    have hlm : lf ≠ m := by
      rintro rfl; rw [M.hm] at hl; cases hl
    obtain ⟨H1, e1, hm1, b1⟩ := upd_name H m (.dK (putK (mkM sc (n : Nat) lf) (.inr "at") (.int ((n : Int) + 1))))
    rw [e1]
    have hm1' : H1 m = some (.dK (mkM sc ((n + 1 : Nat) : Int) lf)) := by rw [hm1] <;> rfl
    have c1 : Chg m lf H H1 := fun y u h n1 _ => b1 y u h n1
    have hl1 : H1 lf = some (.lst (VI left)) := b1 _ _ hl hlm
    have M1 := M.renew c1 hm1' hl1 el
    clear hm1 e1
    have hs0 : 0 < max 1 script.length := by omega
    have sp1 : (n : Int) % (max 1 script.length : Nat) = ((n % max 1 script.length : Nat) : Int) := by rw [Int.natCast_emod]
    have sp2 : n % max 1 script.length < max 1 script.length := Nat.mod_lt _ hs0
    exists ("wq", ())
    refine ⟨m, _, rfl, M1.gsc, ?_⟩
    exists ("wq", ())
    refine w_lenL M1.s ?_
    rw [List.length_map]
    exists ("wq", ())
    rw [show max (1 : Int) (script.length : Int) = ((max 1 script.length : Nat) : Int) by omega]
    refine w_I (by omega) ?_
    rw [sp1]
    generalize n % max 1 script.length = spot at sp2
    exists ("wq", ())
    refine ⟨m, _, rfl, M1.glf, ?_⟩
    exists ("wq", ())
    rename_i p2 H2 hp2 s2 h2
    have M2 := M1.to s2
    have hl2 := s2 _ _ hl1
    have c2 : Chg m lf H H2 := c1.trans (.of s2)
    have hn0 := M.hn
    refine w_iteN (fun d1 => ?_) (fun d1 => ?_)
    · have hlt : spot < left.length := by
        have := List.length_pos_iff.mpr d1
        omega
      exists ("wq", ())
      refine ⟨m, _, rfl, M2.glf, ?_⟩
      exists ("wq", ())
      refine w_ixIn (i := spot) (ns := left) (SqL.of hl2) hlt ?_
      exists ("wq", ())
      refine w_ite (fun d2 => ?_) (fun d2 => ?_)
      · exists ("wq", ())
        refine ⟨m, _, rfl, M2.glf, ?_⟩
        exists ("wq", ())
        refine w_ixIn (i := spot) (ns := left) (SqL.of hl2) hlt ?_
        exists ("wq", ())
        refine w_I ⟨by omega, by omega⟩ ?_
        exists ("wq", ())
        refine ⟨m, _, rfl, M2.glf, ?_⟩
        exists ("wq", ())
        refine ⟨lf, VI left, spot, spot, rfl, rfl, hl2, (by unfold ixN; rw [if_pos (by omega), List.length_map, if_pos (by omega), Int.toNat_natCast]), ?_⟩
        obtain ⟨H3, e3, hl3, b3⟩ := upd_name H2 lf (.lst ((VI left).set spot (.int (left.getD spot 0 / tp))))
        rw [e3]
        have hl3' : H3 lf = some (.lst (VI (left.set spot (left.getD spot 0 / tp)))) := by rw [hl3, VI, VI, List.map_set]
        have c3 : Chg m lf H2 H3 := fun y u h _ n2 => b3 y u h n2
        have M3 := M2.renew c3 (b3 _ _ M2.hm hlm.symm) hl3' (by rw [List.length_set]; exact el)
        exists ("wq", ())
        refine w_I (by omega) ?_
        exact q _ H3 (Int.emod_nonneg _ (by omega)) (Int.emod_lt_of_pos _ (by omega)) M3 (c2.trans c3)
      · exists ("wq", ())
        refine ⟨m, _, rfl, M2.gsc, ?_⟩
        exists ("wq", ())
        rename_i p3 H3 hp3 s3 h3
        refine w_neL0 (ns := script) (Same.seq s3 M2.s) h3 ?_
        have M3 := M2.to s3
        have c3 : Chg m lf H H3 := c2.trans (.of s3)
        exists ("wq", ())
        refine w_iteN (fun d3 => ?_) (fun d3 => ?_)
        · have hlt3 : spot < script.length := by
            have := List.length_pos_iff.mpr d3
            omega
          exists ("wq", ())
          refine ⟨m, _, rfl, M3.gsc, ?_⟩
          exists ("wq", ())
          refine w_ixIn (i := spot) (ns := script) M3.s hlt3 ?_
          exists ("wq", ())
          refine w_I (by decide) ?_
          generalize script.getD spot 0 % 1000000007 = part
          exists ("wq", ())
          refine w_I (.inr (by decide)) ?_
          exists ("wq", ())
          refine w_I (.inl (by decide)) ?_
          exists ("wq", ())
          refine w_I (.inr ⟨by omega, by omega⟩) ?_
          exists ("wq", ())
          refine w_I (.inl (by decide)) ?_
          exists ("wq", ())
          refine w_I (by decide) ?_
          generalize hx5 : _ % (2147483647 : Int) = mix
          exists ("wq", ())
          refine w_I (.inr (by decide)) ?_
          exists ("wq", ())
          refine w_I (.inl (by decide)) ?_
          exists ("wq", ())
          refine w_I (by decide) ?_
          generalize hx6 : _ % (2147483629 : Int) = mix2
          have hm0 : 0 ≤ mix2 := by rw [← hx6]; exact Int.emod_nonneg _ (by decide)
          have hm1 : mix2 < 2147483629 := by rw [← hx6]; exact Int.emod_lt_of_pos _ (by decide)
          exists ("wq", ())
          refine w_I (.inl ⟨by omega, by omega⟩) ?_
          exists ("wq", ())
          refine w_I (by decide) ?_
          exists ("wq", ())
          refine w_I ⟨by decide, by decide⟩ ?_
          exists ("wq", ())
          refine w_I (by omega) ?_
          exact q _ H3 (Int.emod_nonneg _ (by omega)) (Int.emod_lt_of_pos _ (by omega)) M3 c3
        · exists ("wq", ())
          refine w_I (.inr (by decide)) ?_
          exists ("wq", ())
          refine w_I (.inl (by decide)) ?_
          exists ("wq", ())
          refine w_I (.inr ⟨by omega, by omega⟩) ?_
          exists ("wq", ())
          refine w_I (.inl (by decide)) ?_
          exists ("wq", ())
          refine w_I (by decide) ?_
          generalize hx5 : _ % (2147483647 : Int) = mix
          exists ("wq", ())
          refine w_I (.inr (by decide)) ?_
          exists ("wq", ())
          refine w_I (.inl (by decide)) ?_
          exists ("wq", ())
          refine w_I (by decide) ?_
          generalize hx6 : _ % (2147483629 : Int) = mix2
          have hm0 : 0 ≤ mix2 := by rw [← hx6]; exact Int.emod_nonneg _ (by decide)
          have hm1 : mix2 < 2147483629 := by rw [← hx6]; exact Int.emod_lt_of_pos _ (by decide)
          exists ("wq", ())
          refine w_I (.inl ⟨by omega, by omega⟩) ?_
          exists ("wq", ())
          refine w_I (by decide) ?_
          exists ("wq", ())
          refine w_I ⟨by decide, by decide⟩ ?_
          exists ("wq", ())
          refine w_I (by omega) ?_
          exact q _ H3 (Int.emod_nonneg _ (by omega)) (Int.emod_lt_of_pos _ (by omega)) M3 c3
    · exists ("wq", ())
      refine ⟨m, _, rfl, M2.gsc, ?_⟩
      exists ("wq", ())
      rename_i p3 H3 hp3 s3 h3
      refine w_neL0 (ns := script) (Same.seq s3 M2.s) h3 ?_
      have M3 := M2.to s3
      have c3 : Chg m lf H H3 := c2.trans (.of s3)
      exists ("wq", ())
      refine w_iteN (fun d3 => ?_) (fun d3 => ?_)
      · have hlt3 : spot < script.length := by
          have := List.length_pos_iff.mpr d3
          omega
        exists ("wq", ())
        refine ⟨m, _, rfl, M3.gsc, ?_⟩
        exists ("wq", ())
        refine w_ixIn (i := spot) (ns := script) M3.s hlt3 ?_
        exists ("wq", ())
        refine w_I (by decide) ?_
        generalize script.getD spot 0 % 1000000007 = part
        exists ("wq", ())
        refine w_I (.inr (by decide)) ?_
        exists ("wq", ())
        refine w_I (.inl (by decide)) ?_
        exists ("wq", ())
        refine w_I (.inr ⟨by omega, by omega⟩) ?_
        exists ("wq", ())
        refine w_I (.inl (by decide)) ?_
        exists ("wq", ())
        refine w_I (by decide) ?_
        generalize hx5 : _ % (2147483647 : Int) = mix
        exists ("wq", ())
        refine w_I (.inr (by decide)) ?_
        exists ("wq", ())
        refine w_I (.inl (by decide)) ?_
        exists ("wq", ())
        refine w_I (by decide) ?_
        generalize hx6 : _ % (2147483629 : Int) = mix2
        have hm0 : 0 ≤ mix2 := by rw [← hx6]; exact Int.emod_nonneg _ (by decide)
        have hm1 : mix2 < 2147483629 := by rw [← hx6]; exact Int.emod_lt_of_pos _ (by decide)
        exists ("wq", ())
        refine w_I (.inl ⟨by omega, by omega⟩) ?_
        exists ("wq", ())
        refine w_I (by decide) ?_
        exists ("wq", ())
        refine w_I ⟨by decide, by decide⟩ ?_
        exists ("wq", ())
        refine w_I (by omega) ?_
        exact q _ H3 (Int.emod_nonneg _ (by omega)) (Int.emod_lt_of_pos _ (by omega)) M3 c3
      · exists ("wq", ())
        refine w_I (.inr (by decide)) ?_
        exists ("wq", ())
        refine w_I (.inl (by decide)) ?_
        exists ("wq", ())
        refine w_I (.inr ⟨by omega, by omega⟩) ?_
        exists ("wq", ())
        refine w_I (.inl (by decide)) ?_
        exists ("wq", ())
        refine w_I (by decide) ?_
        generalize hx5 : _ % (2147483647 : Int) = mix
        exists ("wq", ())
        refine w_I (.inr (by decide)) ?_
        exists ("wq", ())
        refine w_I (.inl (by decide)) ?_
        exists ("wq", ())
        refine w_I (by decide) ?_
        generalize hx6 : _ % (2147483629 : Int) = mix2
        have hm0 : 0 ≤ mix2 := by rw [← hx6]; exact Int.emod_nonneg _ (by decide)
        have hm1 : mix2 < 2147483629 := by rw [← hx6]; exact Int.emod_lt_of_pos _ (by decide)
        exists ("wq", ())
        refine w_I (.inl ⟨by omega, by omega⟩) ?_
        exists ("wq", ())
        refine w_I (by decide) ?_
        exists ("wq", ())
        refine w_I ⟨by decide, by decide⟩ ?_
        exists ("wq", ())
        refine w_I (by omega) ?_
        exact q _ H3 (Int.emod_nonneg _ (by omega)) (Int.emod_lt_of_pos _ (by omega)) M3 c3
end
end
/-! #### W15 -/
section
abbrev N_scOf : List Str := ["_law_m", "_law_some"]
theorem scOf : FnScope N_scOf ["_law_m", "_law_some"] (defScope sOf) := ⟨rfl, rfl, rfl, by decide +kernel, rfl, by decide +kernel, by decide +kernel⟩
def spOf (K : PySem.W.Frag) : Sp := fun vs H Q _ => ∃ (m sc lf a : Addr) (script some_ : List Int) (at_ : Nat), vs = [.ref m, .ref a] ∧ MOk K H m sc lf script at_ ∧ at_ ≤ 1000000 ∧ some_ ≠ [] ∧ some_.length ≤ 1000 ∧ H a = some (.lst (VI some_)) ∧ a ≠ lf ∧
  ∀ x H', x ∈ some_ → MOk K H' m sc lf script (at_ + 1) → Chg m lf H H' → Q (.int x) H'
abbrev N_scSt : List Str := ["_law_m", "_law_bottom", "_law_some", "_law_front", "_law_loop", "_law_first", "_law_k"]
theorem scSt : FnScope N_scSt ["_law_m", "_law_bottom"] (defScope sSt) := ⟨rfl, rfl, rfl, by decide +kernel, rfl, by decide +kernel, by decide +kernel⟩
def GoodStrm (bot : Int) (fr lp : List Int) : Prop := lp ≠ [] ∧ lp.length ≤ 10 ∧ fr.length ≤ 10 ∧ (∀ i, 0 ≤ itemOf fr lp i) ∧ bot ≤ itemOf fr lp 0
def spSt (K : PySem.W.Frag) : Sp := fun vs H Q _ => ∃ (m sc lf : Addr) (script : List Int) (at_ : Nat) (bot : Int), vs = [.ref m, .int bot] ∧ MOk K H m sc lf script at_ ∧ at_ ≤ 900000 ∧ 0 ≤ bot ∧ bot ≤ 1 ∧
  ∀ r fr lp H' at', at' ≤ at_ + 20 → MOk K H' m sc lf script at' → Chg m lf H H' → Strm K H' r fr lp → GoodStrm bot fr lp → Q (.ref r) H'
abbrev N_scRa : List Str := ["_law_m", "_law_k", "_law_most", "_law_seen_here", "_law_more", "_law_n", "_law_last"]
theorem scRa : FnScope N_scRa ["_law_m", "_law_k", "_law_most"] (defScope sRa) := ⟨rfl, rfl, rfl, by decide +kernel, rfl, by decide +kernel, by decide +kernel⟩
def spRa (K : PySem.W.Frag) : Sp := fun vs H Q _ => ∃ (m sc lf : Addr) (script : List Int) (at_ k : Nat), vs = [.ref m, .int (k : Int), .int 15] ∧ MOk K H m sc lf script at_ ∧ at_ ≤ 800000 ∧ 2 ≤ k ∧ k ≤ 9 ∧
  ∀ r sn H' at', at' ≤ at_ + 100 → MOk K H' m sc lf script at' → Chg m lf H H' → H r = none → H' r = some (.lst (VI sn)) → Up sn → 1 ≤ sn.length → sn.length ≤ 19 → Q (.ref r) H'
section
variable {P : Program} {w : World} {K : PySem.W.Frag} {mg : Str → Option Value} {base : Heap} {f : Addr} {fd : FuncData} {C : Addr}
theorem ok_of (F : FD K "_law_of" "_law_of" sOf f fd) (E : Glob K mg) (c__law_draw : Cal P w K mg base CX0 1 "_law_draw" ["_law_m", "_law_top_here"] (spDr K)) : FnOk P w K mg base CX0 2 f fd ["_law_m", "_law_some"] (spOf K) := by
  refine F.ok scOf (fun vs H Q E h => ?_) (fun cdv A outer s H vs Q _ hr h => ?_)
  · obtain ⟨m, sc, lf, a, script, so, n, rfl, _⟩ := h
    rfl
  · obtain ⟨m, sc, lf, a, script, so, n, rfl, M, hn, h0, h1, ha, na, q⟩ := h
    refine ⟨_, PSs.nox (pss_one (ps_ret (pe_ix (ix_listK (K := K) rfl) (pv 1) (pe_cal c__law_draw (hr.mono (by decide)) (pa_cons (pv 0) (pa_cons (pe_callB (call_lenK (K := K) rfl) (by rfl) E.n_len PySem.boot_len (pa_cons (pv 1) pa_nil)) pa_nil))) (fun _ _ => rfl)))), ?_⟩
    refine w_start (σ' := [some (.ref m), some (.ref a)]) rfl ?_
    have hp := List.length_pos_iff.mpr h0
    have nm : a ≠ m := by
      rintro rfl; rw [M.hm] at ha; cases ha
    exists ("wq", ())
    rw [List.length_map]
    refine ⟨m, sc, lf, script, n, so.length, rfl, M, hn, by omega, by omega, fun r H1 r0 r1 M1 c1 => ?_⟩
    have ha1 := c1 _ _ ha nm na
    refine w_ixI (ns := so) (SqL.of ha1) r0 r1 ?_
    exact q _ _ (getD_mem (by omega)) M1 c1
theorem ok_be (F : FD K "_law_begun" "_law_begun" sBe f fd) (E : Glob K mg) : FnOk P w K mg base CX0 1 f fd ["_law_script"] (spBe K) := by
  refine F.ok scBe (fun vs H Q E h => ?_) (fun cdv A outer s H vs Q _ hr h => ?_)
  · obtain ⟨sc, script, rfl, _⟩ := h
    rfl
  · obtain ⟨sc, script, rfl, hs, hn, q⟩ := h
    refine ⟨_, PSs.nox (pss_one (ps_ret (pe_disp (pps_cons pe_str (pv 0) (pps_cons pe_str pe_int (pps_cons pe_str (pe_lc (own := [("_law_part", 1)]) rfl scBe.nd (pi_listK (K := K) rfl (pv 0)) (blkOk_by (N := N_scBe) (sc := defScope sBe) (by decide +kernel)) (fun _ _ _ _ _ => (pg_name (i := 1) scBe.nd rfl (.inl rfl) (.inr rfl))) (fun _ _ _ _ _ => pts_nil) (fun _ _ _ _ _ => (pe_ifExp (pt_cmpR op_ge (pv 1) (pe_op op_pow pe_int pe_int) (nomark _)) (pv 1) pe_int))) pps_nil))) (by rfl) (by rfl) (fun z => by cases z) (by decide)))), ?_⟩
    refine w_start (σ' := [some (.ref sc), none]) rfl ?_
    exists ("wq", ())
    refine w_disp fun m H1 hm s1 h1 => ?_
    exists ("wq", ())
    refine ⟨sc, rfl, ⟨VI script, (by exists ("hp", ()))⟩, fun D hD => ?_⟩
    have hmD : D ≠ m := by
      rintro rfl; rw [h1] at hD; cases hD
    refine lc_ci (fun i => VI ((List.range i).map fun i => if script.getD i 0 ≥ 1000000000000000000 then script.getD i 0 else 0)) (walk_list (xs := VI script)) hD (fun H' sm => (by exists ("hp", ()))) (fun i x H' Hy hi p sm y => ?_) (fun H2 s2 h2 => ?_)
    · obtain ⟨rfl, e2⟩ := y
      obtain ⟨hi', rfl⟩ := vi_get e2
      exists ("wq", ())
      refine ⟨rfl, ?_⟩
      exists ("wq", ())
      refine w_I ⟨by decide, by decide, by decide⟩ ?_
      have e18 : (10 : Int) ^ (18 : Int).toNat = 1000000000000000000 := by decide
      rw [e18]
      have fin : ∀ v, v = (if script.getD i 0 ≥ 1000000000000000000 then script.getD i 0 else 0) → ∃ acc, Hy D = some (HO.lst acc) ∧ acc.length < sizeLine ∧ CI H1 D (fun i => VI ((List.range i).map fun i => if script.getD i 0 ≥ 1000000000000000000 then script.getD i 0 else 0)) (i + 1) (upd Hy D (HO.lst (acc ++ [V.int v]))) := by
        rintro v rfl
        refine ci_add p (Same.refl _) ?_ (by simp; omega)
        rw [VI, VI, range_snoc, List.map_append] <;> rfl
      exists ("wq", ())
      refine w_ite (fun c => ?_) (fun c => ?_)
      · exists ("wq", ())
        exact fin _ (by rw [if_pos c])
      · exists ("wq", ())
        exact fin _ (by rw [if_neg c])
    · exists ("wq", ())
      have hm2 : H2 m = some (.dK []) := s2 _ _ h1
      refine ⟨hm2, mkM sc 0 D, rfl, show 3 ≤ 15 by decide, ?_⟩
      have s12 : Same H (upd H2 m (.dK (mkM sc 0 D))) := Same.mut (s1.trans s2) hm
      refine q m D _ hm s12 ⟨upd_same, ?_, ⟨_, by rw [upd_ne hmD]; exact h2, by simp⟩, hn⟩
      rcases hs with hs | hs
      · refine .inl ⟨Same.rd s12 hs, ?_, ?_⟩
        · rintro rfl
          rcases hs with hs | ⟨o, hs⟩ <;> rw [hs] at hm <;> cases hm
        · rintro rfl
          have hD0 := Same.free s1 hD
          rcases hs with hs | ⟨o, hs⟩ <;> rw [hs] at hD0 <;> cases hD0
      · exact .inr fun H' => .inr hs
abbrev six : List Int := [0, 0, 1, 1, 2, 5]
theorem six_in {x : Int} (h : x ∈ six) : 0 ≤ x ∧ x ≤ 5 := by
  simp only [six, List.mem_cons, List.not_mem_nil, or_false] at h
  omega
theorem of_lc {m sc lf a : Addr} {script : List Int} {n N : Nat} {t1 t3 t4 t5 t6 : Option V} {HB : Hp} {Qd : Addr → Hp → Prop} (MB : MOk K HB m sc lf script n) (hn : n ≤ 950000) (hN : N ≤ 10) (ha : HB a = some (.lst (VI six))) (na : a ≠ lf)
    (hd : ∀ D H' ns n', HB D = none → H' D = some (.lst (VI ns)) → ns.length = N → (∀ x ∈ ns, 0 ≤ x ∧ x ≤ 5) → MOk K H' m sc lf script n' → n' ≤ n + N → Chg m lf HB H' → Qd D H') :
    ∀ D, HB D = none → ∃ W : Nat → Nat → Hp → Prop, (∃ m, W 0 m (upd HB D (.lst []))) ∧ ∀ i m1 H, W i m1 H →
      ((Itr 0 N).stop i H ∧ Qd D H) ∨ ((Itr 0 N).go i H ∧ ∃ Nx : Hp → Prop, (∀ H', Nx H' → ∃ m', m' < m1 ∧ W (i + 1) m' H') ∧ ∀ x H', (Itr 0 N).yld i H x H' →
        gName 6 x (wipe [some (.ref m), t1, some (.ref a), t3, t4, t5, t6] [6]) H' fun σ2 H2 => wipe σ2 [6] = wipe [some (.ref m), t1, some (.ref a), t3, t4, t5, t6] [6] ∧ tYes σ2 H2 fun b H3 =>
        if b = true then tCal (spOf K) (tCons (tVar 0) (tCons (tVar 2) tNil)) σ2 H3 fun y H4 => ∃ acc, H4 D = some (.lst acc) ∧ acc.length < sizeLine ∧ Nx (upd H4 D (.lst (acc ++ [y]))) else Nx H3) := by
  intro D hD
  obtain ⟨dm, dl⟩ := MB.ne hD
  have nam : a ≠ m := by
    rintro rfl; rw [MB.hm] at ha; cases ha
  refine lc_it (walk_range (lo := 0) (n := N)) (fun i H' => ∃ ns n', H' D = some (.lst (VI ns)) ∧ ns.length = i ∧ (∀ x ∈ ns, 0 ≤ x ∧ x ≤ 5) ∧ MOk K H' m sc lf script n' ∧ n' ≤ n + i ∧ Chg m lf HB H') ?_ (fun _ _ _ _ => trivial) ?_ ?_
  · exact ⟨[], n, upd_same, rfl, fun x h => (by cases h), MB.to (Same.new hD), Nat.le_refl _, Chg.of (Same.new hD)⟩
  · rintro i x H1 H2 hi ⟨ns, n', h1, e1, b1, M1, e2, c1⟩ ⟨rfl, rfl⟩
    exists ("wq", ())
    refine ⟨rfl, ?_⟩
    exists ("wq", ())
    refine ⟨m, sc, lf, a, script, six, n', rfl, M1, by omega, by decide, by decide, c1 _ _ ha nam na, na, fun x H3 hx M3 c3 => ?_⟩
    have h3 := c3 _ _ h1 dm dl
    refine ⟨VI ns, h3, small_lt (by simp; omega), ns ++ [x], n' + 1, ?_, by simp [e1], ?_, ?_, by omega, ?_⟩
    · rw [upd_same, VI, VI, List.map_append] <;> rfl
    · intro y hy
      rcases List.mem_append.mp hy with hy | hy
      · exact b1 y hy
      · rw [List.mem_singleton.mp hy]; exact six_in hx
    · exact MB.set hD M3
    · intro y u h n1 n2
      rw [upd_ne (ne_of_none h hD)]
      exact c3 _ _ (c1 _ _ h n1 n2) n1 n2
  · rintro H1 ⟨ns, n', h1, e1, b1, M1, e2, c1⟩
    exact hd D H1 ns n' hD h1 e1 b1 M1 e2 c1
theorem item_in {fr lp : List Int} {i : Nat} (h0 : lp ≠ []) : itemOf fr lp i ∈ fr ∨ itemOf fr lp i ∈ lp := by
  unfold itemOf
  by_cases c : i < fr.length
  · rw [if_pos c]; exact .inl (getD_mem c)
  · rw [if_neg c]; exact .inr (getD_mem (Nat.mod_lt _ (List.length_pos_iff.mpr h0)))
theorem set0_mem {v x : Int} : ∀ {l : List Int}, x ∈ l.set 0 v → x = v ∨ x ∈ l
  | [], h => by simp at h
  | y :: r, h => by
    rw [List.set_cons_zero] at h
    rcases List.mem_cons.mp h with h | h
    · exact .inl h
    · exact .inr (List.mem_cons_of_mem _ h)
theorem ok_st (F : FD K "_law_stream" "_law_stream" sSt f fd) (E : Glob K mg) (c__law_draw : Cal P w K mg base CX0 1 "_law_draw" ["_law_m", "_law_top_here"] (spDr K)) (c__law_of : Cal P w K mg base CX0 2 "_law_of" ["_law_m", "_law_some"] (spOf K)) : FnOk P w K mg base CX0 3 f fd ["_law_m", "_law_bottom"] (spSt K) := by
  refine F.ok scSt (fun vs H Q E h => ?_) (fun cdv A outer s H vs Q _ hr h => ?_)
  · obtain ⟨m, sc, lf, script, n, bot, rfl, _⟩ := h
    rfl
  · obtain ⟨m, sc, lf, script, n, bot, rfl, M, hn, hb0, hb1, q⟩ := h
    refine ⟨_, PSs.nox (pss_cons (ps_set (i := 2) scSt.nd rfl (.inr rfl) (pe_lst (pa_cons pe_int (pa_cons pe_int (pa_cons pe_int (pa_cons pe_int (pa_cons pe_int (pa_cons pe_int pa_nil))))))))
      (pss_cons (ps_setLc (i := 3) (own := [("_law_k", 6)]) rfl scSt.nd rfl rfl (sw_true rfl rfl rfl (by decide +kernel)) (pi_range1 (by rfl) E.n_range (pa_cons (pe_cal c__law_draw (hr.mono (by decide)) (pa_cons (pv 0) (pa_cons pe_int pa_nil))) pa_nil)) (blkOk_by (N := N_scSt) (sc := defScope sSt) (by decide +kernel)) (fun _ _ _ _ _ => (pg_name (i := 6) scSt.nd rfl (.inl rfl) (.inr rfl))) (fun _ _ _ _ _ => pts_nil) (fun _ _ _ _ _ => (pe_cal c__law_of (hr.mono (by decide)) (pa_cons (pv 0) (pa_cons (pv 2) pa_nil)))))
      (pss_cons (ps_setLc (i := 4) (own := [("_law_k", 6)]) rfl scSt.nd rfl rfl (sw_true rfl rfl rfl (by decide +kernel)) (pi_range1 (by rfl) E.n_range (pa_cons (pe_op op_add pe_int (pe_cal c__law_draw (hr.mono (by decide)) (pa_cons (pv 0) (pa_cons pe_int pa_nil)))) pa_nil)) (blkOk_by (N := N_scSt) (sc := defScope sSt) (by decide +kernel)) (fun _ _ _ _ _ => (pg_name (i := 6) scSt.nd rfl (.inl rfl) (.inr rfl))) (fun _ _ _ _ _ => pts_nil) (fun _ _ _ _ _ => (pe_cal c__law_of (hr.mono (by decide)) (pa_cons (pv 0) (pa_cons (pv 2) pa_nil)))))
      (pss_cons (ps_set (i := 5) scSt.nd rfl (.inl rfl) (pe_ifExp (pt_cmpR (op_neDK (K := K) rfl hr.units) (pv 3) (pe_lst pa_nil) (nomark _)) (pv 3) (pv 4)))
      (pss_cons (ps_asg (pe_callB (call_mx2 rfl) (by rfl) E.n_max PyProof.Rows.Boot.«max» (pa_cons (pe_ix (ix_listK (K := K) rfl) (pv 5) pe_int (fun _ _ => rfl)) (pa_cons (pe_op op_mul (pv 1) (pe_op op_add pe_int (pe_cal c__law_draw (hr.mono (by decide)) (pa_cons (pv 0) (pa_cons pe_int pa_nil))))) pa_nil))) (pg_sub (pv 5) pe_int set_list))
      (pss_one (ps_ret (pe_tup (pa_cons (pe_callTy (call_tupleK (K := K) rfl) (by rfl) E.n_tuple PyProof.Rows.Boot.«tuple» (pa_cons (pv 3) pa_nil)) (pa_cons (pe_callTy (call_tupleK (K := K) rfl) (by rfl) E.n_tuple PyProof.Rows.Boot.«tuple» (pa_cons (pv 4) pa_nil)) pa_nil)))))))))), ?_⟩
    refine w_start (σ' := [some (.ref m), some (.int bot), none, none, none, none, none]) rfl ?_
    exists ("wq", ())
    refine ⟨show 6 ≤ sizeLine by decide, newL fun a H1 ha s1 h1 => ?_⟩
    have na := (M.ne ha).2
    have nam := (M.ne ha).1
    have h1 : H1 a = some (.lst (VI six)) := h1
    have M1 := M.to s1
    exists ("wq", ())
    refine ⟨m, sc, lf, script, n, 4, rfl, M1, by omega, by omega, by omega, fun r H2 r0 r1 M2 c2 => ?_⟩
    refine ⟨r, rfl, by omega, by omega, ?_⟩
    have h2 := c2 _ _ h1 nam na
    refine of_lc M2 (by omega) (by omega) h2 na fun D H3 fr n3 hD h3 e3 b3 M3 l3 c3 => ?_
    have hd3 := M2.ne hD
    exists ("wq", ())
    refine ⟨m, sc, lf, script, n3, 3, rfl, M3, by omega, by omega, by omega, fun r2 H4 r20 r21 M4 c4 => ?_⟩
    exists ("wq", ())
    refine ⟨1 + r2, rfl, by omega, by omega, ?_⟩
    have h4 := c4 _ _ (c3 _ _ h2 nam na) nam na
    have hf4 := c4 _ _ h3 hd3.1 hd3.2
    refine of_lc M4 (by omega) (by omega) h4 na fun D2 H5 lp n5 hD2 h5 e5 b5 M5 l5 c5 => ?_
    have hd5 := M4.ne hD2
    have hf5 := c5 _ _ hf4 hd3.1 hd3.2
    have hDD : D ≠ D2 := by
      rintro rfl; rw [hf4] at hD2; cases hD2
    have c05 : Chg m lf H H5 := ((((Chg.of s1).trans c2).trans c3).trans c4).trans c5
    have fD : H D = none := M2.free ((Chg.of s1).trans c2) hD
    exists ("wq", ())
    rename_i e6 H6 he6 s6 h6
    have M6 := M5.to s6
    have hf6 := s6 _ _ hf5
    have h56 := s6 _ _ h5
    have c06 : Chg m lf H H6 := c05.trans (.of s6)
    have hlp : lp ≠ [] := by
      rintro rfl
      have : ((1 + r2).toNat) = 0 := e5.symm
      omega
    refine w_iteN (fun d1 => ?_) (fun d1 => ?_)
    · exists ("wq", ())
      have hpos := List.length_pos_iff.mpr d1
      refine w_ixIn (i := 0) (ns := fr) (SqL.of hf6) hpos ?_
      exists ("wq", ())
      refine ⟨m, sc, lf, script, n5, 3, rfl, M6, by omega, by omega, by omega, fun r7 H7 r70 r71 M7 c7 => ?_⟩
      exists ("wq", ())
      refine w_I (.inl ⟨by omega, by omega⟩) ?_
      exists ("wq", ())
      have hf7 := c7 _ _ hf6 hd3.1 hd3.2
      have h57 := c7 _ _ h56 hd5.1 hd5.2
      refine ⟨D, VI fr, 0, 0, rfl, rfl, hf7, (by unfold ixN; rw [if_pos (by omega), List.length_map, if_pos (by omega)] <;> rfl), ?_⟩
      have hv : bot ≤ bot * (1 + r7) := by
        have := Int.mul_nonneg hb0 r70
        rw [Int.mul_add]; omega
      generalize bot * (1 + r7) = bv at hv
      generalize hvv : max (fr.getD 0 0) bv = v
      obtain ⟨H8, e8, hf8, b8⟩ := upd_name H7 D (.lst ((VI fr).set 0 (.int v)))
      have M8 := M2.set hD (o := .lst ((VI fr).set 0 (.int v))) M7
      rw [e8] at M8 ⊢
      have h58 := b8 _ _ h57 hDD.symm
      have c08 : Chg m lf H H8 := fun y u h n1 n2 => b8 _ _ (c7 _ _ (c06 _ _ h n1 n2) n1 n2) (ne_of_none h fD)
      have hf8' : H8 D = some (.lst (VI (fr.set 0 v))) := by rw [hf8, VI, VI, List.map_set]
      exists ("wq", ())
      refine w_tupL (xs := VI (fr.set 0 v)) (SqL.of hf8') fun p9 H9 hp9 s9 h9 => ?_
      exists ("wq", ())
      refine w_tupL (xs := VI lp) (SqL.of (s9 _ _ h58)) fun p10 H10 hp10 s10 h10 => ?_
      exists ("wq", ())
      rename_i p11 H11 hp11 s11 h11
      have z9 : H11 p9 = _ := s11 _ _ (s10 _ _ h9)
      refine q p11 (fr.set 0 v) lp H11 (n5 + 1) (by omega) (((M8.to s9).to s10).to s11) (c08.trans (.of ((s9.trans s10).trans s11))) ⟨p9, p10, SqT.of h11, SqT.of z9, SqT.of (s11 _ _ h10)⟩ ⟨hlp, by omega, by rw [List.length_set]; omega, fun i => ?_, ?_⟩
      · rcases item_in (fr := fr.set 0 v) (i := i) hlp with h | h
        · rcases set0_mem h with h | h
          · rw [h]; omega
          · exact (b3 _ h).1
        · exact (b5 _ h).1
      · have e0 : itemOf (fr.set 0 v) lp 0 = v := by
          unfold itemOf
          rw [List.length_set, if_pos hpos, List.getD_eq_getElem?_getD, List.getElem?_set, if_pos rfl, if_pos hpos] <;> rfl
        rw [e0]; omega
    · subst d1
      have hpos := List.length_pos_iff.mpr hlp
      exists ("wq", ())
      refine w_ixIn (i := 0) (ns := lp) (SqL.of h56) hpos ?_
      exists ("wq", ())
      refine ⟨m, sc, lf, script, n5, 3, rfl, M6, by omega, by omega, by omega, fun r7 H7 r70 r71 M7 c7 => ?_⟩
      exists ("wq", ())
      refine w_I (.inl ⟨by omega, by omega⟩) ?_
      exists ("wq", ())
      have hf7 := c7 _ _ hf6 hd3.1 hd3.2
      have h57 := c7 _ _ h56 hd5.1 hd5.2
      refine ⟨D2, VI lp, 0, 0, rfl, rfl, h57, (by unfold ixN; rw [if_pos (by omega), List.length_map, if_pos (by omega)] <;> rfl), ?_⟩
      have hv : bot ≤ bot * (1 + r7) := by
        have := Int.mul_nonneg hb0 r70
        rw [Int.mul_add]; omega
      generalize bot * (1 + r7) = bv at hv
      generalize hvv : max (lp.getD 0 0) bv = v
      obtain ⟨H8, e8, h58, b8⟩ := upd_name H7 D2 (.lst ((VI lp).set 0 (.int v)))
      have M8 := M4.set hD2 (o := .lst ((VI lp).set 0 (.int v))) M7
      rw [e8] at M8 ⊢
      have hf8 := b8 _ _ hf7 hDD
      have fD2 : H D2 = none := M4.free ((((Chg.of s1).trans c2).trans c3).trans c4) hD2
      have c08 : Chg m lf H H8 := fun y u h n1 n2 => b8 _ _ (c7 _ _ (c06 _ _ h n1 n2) n1 n2) (ne_of_none h fD2)
      have h58' : H8 D2 = some (.lst (VI (lp.set 0 v))) := by rw [h58, VI, VI, List.map_set]
      exists ("wq", ())
      refine w_tupL (xs := VI []) (SqL.of hf8) fun p9 H9 hp9 s9 h9 => ?_
      exists ("wq", ())
      refine w_tupL (xs := VI (lp.set 0 v)) (SqL.of (s9 _ _ h58')) fun p10 H10 hp10 s10 h10 => ?_
      exists ("wq", ())
      rename_i p11 H11 hp11 s11 h11
      have z9 : H11 p9 = _ := s11 _ _ (s10 _ _ h9)
      have hne : lp.set 0 v ≠ [] := by
        intro z
        have := congrArg List.length z
        rw [List.length_set] at this
        simp at this
        exact hlp this
      refine q p11 [] (lp.set 0 v) H11 (n5 + 1) (by omega) (((M8.to s9).to s10).to s11) (c08.trans (.of ((s9.trans s10).trans s11))) ⟨p9, p10, SqT.of h11, SqT.of z9, SqT.of (s11 _ _ h10)⟩ ⟨hne, by rw [List.length_set]; omega, by simp, fun i => ?_, ?_⟩
      · rcases item_in (fr := []) (i := i) hne with h | h
        · cases h
        · rcases set0_mem h with h | h
          · rw [h]
            have := (b5 _ (getD_mem hpos)).1
            omega
          · exact (b5 _ h).1
      · have e0 : itemOf [] (lp.set 0 v) 0 = v := by
          unfold itemOf
          rw [if_neg (by simp), List.length_set]
          show (lp.set 0 v).getD ((0 - 0) % lp.length) 0 = v
          rw [Nat.zero_mod, List.getD_eq_getElem?_getD, List.getElem?_set, if_pos rfl, if_pos hpos] <;> rfl
        rw [e0]; omega
end
end
/-! #### W16 -/
section
section
variable {P : Program} {w : World} {K : PySem.W.Frag} {mg : Str → Option Value} {base : Heap} {f : Addr} {fd : FuncData} {C : Addr}
theorem ok_ra (F : FD K "_law_random" "_law_random" sRa f fd) (E : Glob K mg) (c__law_draw : Cal P w K mg base CX0 1 "_law_draw" ["_law_m", "_law_top_here"] (spDr K)) (c__law_stream : Cal P w K mg base CX0 3 "_law_stream" ["_law_m", "_law_bottom"] (spSt K))
    (c__law_seen : Cal P w K mg base CX0 3 "_law_seen" ["_law_k", "_law_a", "_law_b", "_law_count"] (spSe K)) : FnOk P w K mg base CX0 4 f fd ["_law_m", "_law_k", "_law_most"] (spRa K) := by
  refine F.ok scRa (fun vs H Q E h => ?_) (fun cdv A outer s H vs Q _ hr h => ?_)
  · obtain ⟨m, sc, lf, script, n, k, rfl, _⟩ := h
    rfl
  · obtain ⟨m, sc, lf, script, n, k, rfl, M, hn, hk, hk9, q⟩ := h
    refine ⟨_, PSs.nox (pss_cons (ps_set (i := 3) scRa.nd rfl (.inl rfl) (pe_lst pa_nil))
      (pss_cons (ps_if (pt_cmpR op_gt (pe_cal c__law_draw (hr.mono (by decide)) (pa_cons (pv 0) (pa_cons pe_int pa_nil))) pe_int (nomark _))
        (pss_one (ps_set (i := 3) scRa.nd rfl (.inl rfl) (pe_cal c__law_seen (hr.mono (by decide)) (pa_cons (pv 1) (pa_cons (pe_cal c__law_stream (hr.mono (by decide)) (pa_cons (pv 0) (pa_cons pe_int pa_nil))) (pa_cons (pe_cal c__law_stream (hr.mono (by decide)) (pa_cons (pv 0) (pa_cons pe_int pa_nil))) (pa_cons (pe_op op_add pe_int (pe_cal c__law_draw (hr.mono (by decide)) (pa_cons (pv 0) (pa_cons (pv 2) pa_nil)))) pa_nil)))))))
        pss_nil)
      (pss_cons (ps_set (i := 4) scRa.nd rfl (.inl rfl) (pe_ifExp (pt_cmpR (op_neDK (K := K) rfl hr.units) (pv 3) (pe_lst pa_nil) (nomark _)) (pe_cal c__law_draw (hr.mono (by decide)) (pa_cons (pv 0) (pa_cons pe_int pa_nil))) (pe_op op_add pe_int (pe_cal c__law_draw (hr.mono (by decide)) (pa_cons (pv 0) (pa_cons (pv 2) pa_nil))))))
      (pss_cons (ps_for PassesOwn.never rfl (pi_range1 (by rfl) E.n_range (pa_cons (pv 4) pa_nil)) (pg_name (i := 5) scRa.nd rfl (.inl rfl))
        (pss_cons (ps_set (i := 6) scRa.nd rfl (.inl rfl) (pe_ifExp (pt_cmpR (op_neDK (K := K) rfl hr.units) (pv 3) (pe_lst pa_nil) (nomark _)) (pe_ix (ix_listK (K := K) rfl) (pv 3) (pe_un un_neg pe_int) (fun _ _ => rfl)) pe_int))
        (pss_one (ps_expr (pe_appK (K := K) rfl (pv 3) (pa_cons (pe_op op_add (pv 6) (pe_callTy call_intK (by rfl) E.n_int PyProof.Rows.Boot.«int» (pa_cons (pe_cmpR op_gt (pe_cal c__law_draw (hr.mono (by decide)) (pa_cons (pv 0) (pa_cons pe_int pa_nil))) pe_int (nomark _)) pa_nil))) pa_nil))))))
      (pss_one (ps_ret (pv 3))))))), ?_⟩
    refine w_start (σ' := [some (.ref m), some (.int k), some (.int 15), none, none, none, none]) rfl ?_
    exists ("wp", ())
    refine w_newL0 (newL fun a0 H1 ha s1 h1 => ?_)
    exists ("wq", ())
    have M1 := M.to s1
    refine ⟨m, sc, lf, script, n, 3, rfl, M1, by omega, by omega, by omega, fun r1 H2 r10 r11 M2 c2 => ?_⟩
    exists ("wq", ())
    refine w_ite (fun d0 => ?_) (fun d0 => ?_)
    · exists ("wq", ())
      refine ⟨m, sc, lf, script, n + 1, 0, rfl, M2, by omega, by omega, by omega, fun st1 f1 l1 H3 n3 ln3 M3 c3 S3 G3 => ?_⟩
      exists ("wq", ())
      refine ⟨m, sc, lf, script, n3, 1, rfl, M3, by omega, by omega, by omega, fun st2 f2 l2 H4 n4 ln4 M4 c4 S4 G4 => ?_⟩
      exists ("wq", ())
      refine ⟨m, sc, lf, script, n4, 15, rfl, M4, by omega, by omega, by omega, fun r5 H5 r50 r51 M5 c5 => ?_⟩
      exists ("wq", ())
      refine ⟨k, st1, st2, f1, l1, f2, l2, (1 + r5).toNat, ?_, hk, hk9, by omega, ⟨?_, G3.1, by have := G3.2.1; omega⟩, ⟨?_, G4.1, by have := G4.2.1; omega⟩, ⟨G3.2.2.2.1, G4.2.2.2.1, G4.2.2.2.2⟩, fun sn l6 up7 a H6 ha6 s6 h7 => ?_⟩
      · rw [show (((1 + r5).toNat : Nat) : Int) = 1 + r5 by omega]
      · exact M4.strm c5 (M3.strm c4 S3)
      · exact M4.strm c5 S4
      exists ("wp", ())
      have cX : Chg m lf H H6 := (((((Chg.of s1).trans c2).trans c3).trans c4).trans c5).trans (.of s6)
      have M7 := M5.to s6
      have hane := M5.ne ha6
      have fa : H a = none := M5.free (((((Chg.of s1).trans c2).trans c3).trans c4).trans c5) ha6
      have ls7 : sn.length ≤ 15 := by omega
      obtain ⟨n7, hn7, hn7'⟩ : ∃ n7, n7 = n4 + 1 ∧ n7 ≤ n + 50 := ⟨_, rfl, by omega⟩
      rw [← hn7] at M7
      clear hn7
      have c7 := cX
      have dne := (show a ≠ m ∧ a ≠ lf from hane)
      exists ("wp", ())
      refine w_newL0 (newL fun e8 H8 he8 s8 h8 => ?_)
      exists ("wq", ())
      have M8 := M7.to s8
      have h8a := s8 _ _ h7
      have c8 : Chg m lf H H8 := c7.trans (.of s8)
      refine w_iteN (fun d1 => ?_) (fun d1 => ?_)
      · exists ("wq", ())
        refine ⟨m, sc, lf, script, n7, 5, rfl, M8, by omega, by omega, by omega, fun r H9 r0 r1 M9 c9 => ?_⟩
        have h9a := c9 _ _ h8a dne.1 dne.2
        have c09 : Chg m lf H H9 := c8.trans c9
        have hlen : 1 ≤ sn.length + r.toNat ∧ sn.length + r.toNat ≤ 19 := by
          have := List.length_pos_iff.mpr d1
          omega
        exists ("wq", ())
        refine ⟨r, rfl, by omega, by omega, ?_⟩
        refine for_it (walk_range (lo := 0) (n := r.toNat)) (fun i σ H' => ∃ ms n' t5 t6, σ = [some (.ref m), some (.int k), some (.int 15), some (.ref a), some (.int r), t5, t6] ∧ H' a = some (.lst (VI ms)) ∧ ms.length = sn.length + i ∧ Up ms ∧ MOk K H' m sc lf script n' ∧ n' ≤ n7 + 1 + i ∧ Chg m lf H H') ⟨sn, n7 + 1, _, _, rfl, h9a, rfl, up7, M9, Nat.le_refl _, c09⟩ (fun _ _ _ _ _ => trivial) ?_ ?_
        · rintro i x σ H10 H11 hi ⟨ms, n', t5, t6, rfl, h10, e10, u10, M10, l10, c10⟩ ⟨rfl, rfl⟩
          exists ("wp", ())
          refine w_newL0 (newL fun e12 H12 he12 s12 h12 => ?_)
          exists ("wq", ())
          have M12 := M10.to s12
          have h12a := s12 _ _ h10
          have c12 : Chg m lf H H12 := c10.trans (.of s12)
          have fin : ∀ last, last = (0 :: ms).getD ms.length 0 → ∀ b : Bool, Up (ms ++ [last + (if b then 1 else 0)]) := by
            rintro last rfl b
            refine u10.snoc ?_
            cases b
            · exact .inl (Int.add_zero _)
            · exact .inr rfl
          refine w_iteN (fun d2 => ?_) (fun d2 => ?_)
          · exists ("wq", ())
            refine w_ixN1 (ns := ms) (SqL.of h12a) (List.length_pos_iff.mpr d2) ?_
            have hlast : ms.getD (ms.length - 1) 0 = (0 :: ms).getD ms.length 0 := by rw [last_of, if_neg d2]
            exists ("wq", ())
            refine ⟨ty_lst h12a, ?_⟩
            exists ("wq", ())
            refine ⟨m, sc, lf, script, n', 3, rfl, M12, by omega, by omega, by omega, fun d H13 d0 d1' M13 c13 => ?_⟩
            have h13a := c13 _ _ h12a dne.1 dne.2
            exists ("wq", ())
            refine w_intB ?_
            exists ("wq", ())
            refine w_append h13a (small_lt (by simp; omega)) ?_
            have M14 := fun x : Int => M.set fa (o := .lst (VI ms ++ [V.int x])) M13
            have f14 := fin _ hlast (decide (d > 0))
            have c14 : ∀ x : Int, Chg m lf H (L2.upd H13 a (.lst (VI ms ++ [V.int x]))) := fun x y u h n1 n2 => by
              rw [upd_ne (ne_of_none h fa)]
              exact c13 _ _ (c12 _ _ h n1 n2) n1 n2
            exists ("wq", ())
            refine ⟨ms ++ [_], n' + 1, _, _, rfl, ?_, by simp; omega, f14, M14 _, by omega, c14 _⟩
            rw [upd_same, VI, VI, List.map_append] <;> rfl
          · exists ("wq", ())
            have hlast : (0 : Int) = (0 :: ms).getD ms.length 0 := by rw [last_of, if_pos d2]
            exists ("wq", ())
            refine ⟨ty_lst h12a, ?_⟩
            exists ("wq", ())
            refine ⟨m, sc, lf, script, n', 3, rfl, M12, by omega, by omega, by omega, fun d H13 d0 d1' M13 c13 => ?_⟩
            have h13a := c13 _ _ h12a dne.1 dne.2
            exists ("wq", ())
            refine w_intB ?_
            exists ("wq", ())
            refine w_append h13a (small_lt (by simp; omega)) ?_
            have M14 := fun x : Int => M.set fa (o := .lst (VI ms ++ [V.int x])) M13
            have f14 := fin _ hlast (decide (d > 0))
            have c14 : ∀ x : Int, Chg m lf H (L2.upd H13 a (.lst (VI ms ++ [V.int x]))) := fun x y u h n1 n2 => by
              rw [upd_ne (ne_of_none h fa)]
              exact c13 _ _ (c12 _ _ h n1 n2) n1 n2
            exists ("wq", ())
            refine ⟨ms ++ [_], n' + 1, _, _, rfl, ?_, by simp; omega, f14, M14 _, by omega, c14 _⟩
            rw [upd_same, VI, VI, List.map_append] <;> rfl
        · rintro σ H10 ⟨ms, n', t5, t6, rfl, h10, e10, u10, M10, l10, c10⟩
          exists ("wq", ())
          exact q a ms H10 n' (by omega) M10 c10 fa h10 u10 (by omega) (by omega)
      · exists ("wq", ())
        refine ⟨m, sc, lf, script, n7, 15, rfl, M8, by omega, by omega, by omega, fun r' H9 r0' r1' M9 c9 => ?_⟩
        have h9a := c9 _ _ h8a dne.1 dne.2
        have c09 : Chg m lf H H9 := c8.trans c9
        exists ("wq", ())
        obtain ⟨r, hr', r0, r1⟩ : ∃ r, r = 1 + r' ∧ 0 ≤ r ∧ r ≤ 15 := ⟨_, rfl, by omega, by omega⟩
        rw [← hr']
        have hlen : 1 ≤ sn.length + r.toNat ∧ sn.length + r.toNat ≤ 19 := by
          rw [d1]
          simp
          omega
        exists ("wq", ())
        refine ⟨r, rfl, by omega, by omega, ?_⟩
        refine for_it (walk_range (lo := 0) (n := r.toNat)) (fun i σ H' => ∃ ms n' t5 t6, σ = [some (.ref m), some (.int k), some (.int 15), some (.ref a), some (.int r), t5, t6] ∧ H' a = some (.lst (VI ms)) ∧ ms.length = sn.length + i ∧ Up ms ∧ MOk K H' m sc lf script n' ∧ n' ≤ n7 + 1 + i ∧ Chg m lf H H') ⟨sn, n7 + 1, _, _, rfl, h9a, rfl, up7, M9, Nat.le_refl _, c09⟩ (fun _ _ _ _ _ => trivial) ?_ ?_
        · rintro i x σ H10 H11 hi ⟨ms, n', t5, t6, rfl, h10, e10, u10, M10, l10, c10⟩ ⟨rfl, rfl⟩
          exists ("wp", ())
          refine w_newL0 (newL fun e12 H12 he12 s12 h12 => ?_)
          exists ("wq", ())
          have M12 := M10.to s12
          have h12a := s12 _ _ h10
          have c12 : Chg m lf H H12 := c10.trans (.of s12)
          have fin : ∀ last, last = (0 :: ms).getD ms.length 0 → ∀ b : Bool, Up (ms ++ [last + (if b then 1 else 0)]) := by
            rintro last rfl b
            refine u10.snoc ?_
            cases b
            · exact .inl (Int.add_zero _)
            · exact .inr rfl
          refine w_iteN (fun d2 => ?_) (fun d2 => ?_)
          · exists ("wq", ())
            refine w_ixN1 (ns := ms) (SqL.of h12a) (List.length_pos_iff.mpr d2) ?_
            have hlast : ms.getD (ms.length - 1) 0 = (0 :: ms).getD ms.length 0 := by rw [last_of, if_neg d2]
            exists ("wq", ())
            refine ⟨ty_lst h12a, ?_⟩
            exists ("wq", ())
            refine ⟨m, sc, lf, script, n', 3, rfl, M12, by omega, by omega, by omega, fun d H13 d0 d1' M13 c13 => ?_⟩
            have h13a := c13 _ _ h12a dne.1 dne.2
            exists ("wq", ())
            refine w_intB ?_
            exists ("wq", ())
            refine w_append h13a (small_lt (by simp; omega)) ?_
            have M14 := fun x : Int => M.set fa (o := .lst (VI ms ++ [V.int x])) M13
            have f14 := fin _ hlast (decide (d > 0))
            have c14 : ∀ x : Int, Chg m lf H (L2.upd H13 a (.lst (VI ms ++ [V.int x]))) := fun x y u h n1 n2 => by
              rw [upd_ne (ne_of_none h fa)]
              exact c13 _ _ (c12 _ _ h n1 n2) n1 n2
            exists ("wq", ())
            refine ⟨ms ++ [_], n' + 1, _, _, rfl, ?_, by simp; omega, f14, M14 _, by omega, c14 _⟩
            rw [upd_same, VI, VI, List.map_append] <;> rfl
          · exists ("wq", ())
            have hlast : (0 : Int) = (0 :: ms).getD ms.length 0 := by rw [last_of, if_pos d2]
            exists ("wq", ())
            refine ⟨ty_lst h12a, ?_⟩
            exists ("wq", ())
            refine ⟨m, sc, lf, script, n', 3, rfl, M12, by omega, by omega, by omega, fun d H13 d0 d1' M13 c13 => ?_⟩
            have h13a := c13 _ _ h12a dne.1 dne.2
            exists ("wq", ())
            refine w_intB ?_
            exists ("wq", ())
            refine w_append h13a (small_lt (by simp; omega)) ?_
            have M14 := fun x : Int => M.set fa (o := .lst (VI ms ++ [V.int x])) M13
            have f14 := fin _ hlast (decide (d > 0))
            have c14 : ∀ x : Int, Chg m lf H (L2.upd H13 a (.lst (VI ms ++ [V.int x]))) := fun x y u h n1 n2 => by
              rw [upd_ne (ne_of_none h fa)]
              exact c13 _ _ (c12 _ _ h n1 n2) n1 n2
            exists ("wq", ())
            refine ⟨ms ++ [_], n' + 1, _, _, rfl, ?_, by simp; omega, f14, M14 _, by omega, c14 _⟩
            rw [upd_same, VI, VI, List.map_append] <;> rfl
        · rintro σ H10 ⟨ms, n', t5, t6, rfl, h10, e10, u10, M10, l10, c10⟩
          exists ("wq", ())
          exact q a ms H10 n' (by omega) M10 c10 fa h10 u10 (by omega) (by omega)
    · obtain ⟨a, rfl⟩ : ∃ a, a = a0 := ⟨_, rfl⟩
      exists ("wp", ())
      have hane := M.ne ha
      have h7 := c2 _ _ h1 hane.1 hane.2
      have c7 : Chg m lf H H2 := (Chg.of s1).trans c2
      have fa := ha
      obtain ⟨sn, hsn⟩ : ∃ sn : List Int, sn = [] := ⟨_, rfl⟩
      have h7 : H2 a = some (.lst (VI sn)) := by rw [hsn]; exact h7
      have up7 : Up sn := by rw [hsn]; intro i h; cases h
      have ls7 : sn.length ≤ 15 := by rw [hsn]; simp
      obtain ⟨n7, hn7, hn7'⟩ : ∃ n7, n7 = n + 1 ∧ n7 ≤ n + 50 := ⟨_, rfl, by omega⟩
      have M7 := M2
      rw [← hn7] at M7
      clear hsn hn7 M2
      have dne := (show a ≠ m ∧ a ≠ lf from hane)
      exists ("wp", ())
      refine w_newL0 (newL fun e8 H8 he8 s8 h8 => ?_)
      exists ("wq", ())
      have M8 := M7.to s8
      have h8a := s8 _ _ h7
      have c8 : Chg m lf H H8 := c7.trans (.of s8)
      refine w_iteN (fun d1 => ?_) (fun d1 => ?_)
      · exists ("wq", ())
        refine ⟨m, sc, lf, script, n7, 5, rfl, M8, by omega, by omega, by omega, fun r H9 r0 r1 M9 c9 => ?_⟩
        have h9a := c9 _ _ h8a dne.1 dne.2
        have c09 : Chg m lf H H9 := c8.trans c9
        have hlen : 1 ≤ sn.length + r.toNat ∧ sn.length + r.toNat ≤ 19 := by
          have := List.length_pos_iff.mpr d1
          omega
        exists ("wq", ())
        refine ⟨r, rfl, by omega, by omega, ?_⟩
        refine for_it (walk_range (lo := 0) (n := r.toNat)) (fun i σ H' => ∃ ms n' t5 t6, σ = [some (.ref m), some (.int k), some (.int 15), some (.ref a), some (.int r), t5, t6] ∧ H' a = some (.lst (VI ms)) ∧ ms.length = sn.length + i ∧ Up ms ∧ MOk K H' m sc lf script n' ∧ n' ≤ n7 + 1 + i ∧ Chg m lf H H') ⟨sn, n7 + 1, _, _, rfl, h9a, rfl, up7, M9, Nat.le_refl _, c09⟩ (fun _ _ _ _ _ => trivial) ?_ ?_
        · rintro i x σ H10 H11 hi ⟨ms, n', t5, t6, rfl, h10, e10, u10, M10, l10, c10⟩ ⟨rfl, rfl⟩
          exists ("wp", ())
          refine w_newL0 (newL fun e12 H12 he12 s12 h12 => ?_)
          exists ("wq", ())
          have M12 := M10.to s12
          have h12a := s12 _ _ h10
          have c12 : Chg m lf H H12 := c10.trans (.of s12)
          have fin : ∀ last, last = (0 :: ms).getD ms.length 0 → ∀ b : Bool, Up (ms ++ [last + (if b then 1 else 0)]) := by
            rintro last rfl b
            refine u10.snoc ?_
            cases b
            · exact .inl (Int.add_zero _)
            · exact .inr rfl
          refine w_iteN (fun d2 => ?_) (fun d2 => ?_)
          · exists ("wq", ())
            refine w_ixN1 (ns := ms) (SqL.of h12a) (List.length_pos_iff.mpr d2) ?_
            have hlast : ms.getD (ms.length - 1) 0 = (0 :: ms).getD ms.length 0 := by rw [last_of, if_neg d2]
            exists ("wq", ())
            refine ⟨ty_lst h12a, ?_⟩
            exists ("wq", ())
            refine ⟨m, sc, lf, script, n', 3, rfl, M12, by omega, by omega, by omega, fun d H13 d0 d1' M13 c13 => ?_⟩
            have h13a := c13 _ _ h12a dne.1 dne.2
            exists ("wq", ())
            refine w_intB ?_
            exists ("wq", ())
            refine w_append h13a (small_lt (by simp; omega)) ?_
            have M14 := fun x : Int => M.set fa (o := .lst (VI ms ++ [V.int x])) M13
            have f14 := fin _ hlast (decide (d > 0))
            have c14 : ∀ x : Int, Chg m lf H (L2.upd H13 a (.lst (VI ms ++ [V.int x]))) := fun x y u h n1 n2 => by
              rw [upd_ne (ne_of_none h fa)]
              exact c13 _ _ (c12 _ _ h n1 n2) n1 n2
            exists ("wq", ())
            refine ⟨ms ++ [_], n' + 1, _, _, rfl, ?_, by simp; omega, f14, M14 _, by omega, c14 _⟩
            rw [upd_same, VI, VI, List.map_append] <;> rfl
          · exists ("wq", ())
            have hlast : (0 : Int) = (0 :: ms).getD ms.length 0 := by rw [last_of, if_pos d2]
            exists ("wq", ())
            refine ⟨ty_lst h12a, ?_⟩
            exists ("wq", ())
            refine ⟨m, sc, lf, script, n', 3, rfl, M12, by omega, by omega, by omega, fun d H13 d0 d1' M13 c13 => ?_⟩
            have h13a := c13 _ _ h12a dne.1 dne.2
            exists ("wq", ())
            refine w_intB ?_
            exists ("wq", ())
            refine w_append h13a (small_lt (by simp; omega)) ?_
            have M14 := fun x : Int => M.set fa (o := .lst (VI ms ++ [V.int x])) M13
            have f14 := fin _ hlast (decide (d > 0))
            have c14 : ∀ x : Int, Chg m lf H (L2.upd H13 a (.lst (VI ms ++ [V.int x]))) := fun x y u h n1 n2 => by
              rw [upd_ne (ne_of_none h fa)]
              exact c13 _ _ (c12 _ _ h n1 n2) n1 n2
            exists ("wq", ())
            refine ⟨ms ++ [_], n' + 1, _, _, rfl, ?_, by simp; omega, f14, M14 _, by omega, c14 _⟩
            rw [upd_same, VI, VI, List.map_append] <;> rfl
        · rintro σ H10 ⟨ms, n', t5, t6, rfl, h10, e10, u10, M10, l10, c10⟩
          exists ("wq", ())
          exact q a ms H10 n' (by omega) M10 c10 fa h10 u10 (by omega) (by omega)
      · exists ("wq", ())
        refine ⟨m, sc, lf, script, n7, 15, rfl, M8, by omega, by omega, by omega, fun r' H9 r0' r1' M9 c9 => ?_⟩
        have h9a := c9 _ _ h8a dne.1 dne.2
        have c09 : Chg m lf H H9 := c8.trans c9
        exists ("wq", ())
        obtain ⟨r, hr', r0, r1⟩ : ∃ r, r = 1 + r' ∧ 0 ≤ r ∧ r ≤ 15 := ⟨_, rfl, by omega, by omega⟩
        rw [← hr']
        have hlen : 1 ≤ sn.length + r.toNat ∧ sn.length + r.toNat ≤ 19 := by
          rw [d1]
          simp
          omega
        exists ("wq", ())
        refine ⟨r, rfl, by omega, by omega, ?_⟩
        refine for_it (walk_range (lo := 0) (n := r.toNat)) (fun i σ H' => ∃ ms n' t5 t6, σ = [some (.ref m), some (.int k), some (.int 15), some (.ref a), some (.int r), t5, t6] ∧ H' a = some (.lst (VI ms)) ∧ ms.length = sn.length + i ∧ Up ms ∧ MOk K H' m sc lf script n' ∧ n' ≤ n7 + 1 + i ∧ Chg m lf H H') ⟨sn, n7 + 1, _, _, rfl, h9a, rfl, up7, M9, Nat.le_refl _, c09⟩ (fun _ _ _ _ _ => trivial) ?_ ?_
        · rintro i x σ H10 H11 hi ⟨ms, n', t5, t6, rfl, h10, e10, u10, M10, l10, c10⟩ ⟨rfl, rfl⟩
          exists ("wp", ())
          refine w_newL0 (newL fun e12 H12 he12 s12 h12 => ?_)
          exists ("wq", ())
          have M12 := M10.to s12
          have h12a := s12 _ _ h10
          have c12 : Chg m lf H H12 := c10.trans (.of s12)
          have fin : ∀ last, last = (0 :: ms).getD ms.length 0 → ∀ b : Bool, Up (ms ++ [last + (if b then 1 else 0)]) := by
            rintro last rfl b
            refine u10.snoc ?_
            cases b
            · exact .inl (Int.add_zero _)
            · exact .inr rfl
          refine w_iteN (fun d2 => ?_) (fun d2 => ?_)
          · exists ("wq", ())
            refine w_ixN1 (ns := ms) (SqL.of h12a) (List.length_pos_iff.mpr d2) ?_
            have hlast : ms.getD (ms.length - 1) 0 = (0 :: ms).getD ms.length 0 := by rw [last_of, if_neg d2]
            exists ("wq", ())
            refine ⟨ty_lst h12a, ?_⟩
            exists ("wq", ())
            refine ⟨m, sc, lf, script, n', 3, rfl, M12, by omega, by omega, by omega, fun d H13 d0 d1' M13 c13 => ?_⟩
            have h13a := c13 _ _ h12a dne.1 dne.2
            exists ("wq", ())
            refine w_intB ?_
            exists ("wq", ())
            refine w_append h13a (small_lt (by simp; omega)) ?_
            have M14 := fun x : Int => M.set fa (o := .lst (VI ms ++ [V.int x])) M13
            have f14 := fin _ hlast (decide (d > 0))
            have c14 : ∀ x : Int, Chg m lf H (L2.upd H13 a (.lst (VI ms ++ [V.int x]))) := fun x y u h n1 n2 => by
              rw [upd_ne (ne_of_none h fa)]
              exact c13 _ _ (c12 _ _ h n1 n2) n1 n2
            exists ("wq", ())
            refine ⟨ms ++ [_], n' + 1, _, _, rfl, ?_, by simp; omega, f14, M14 _, by omega, c14 _⟩
            rw [upd_same, VI, VI, List.map_append] <;> rfl
          · exists ("wq", ())
            have hlast : (0 : Int) = (0 :: ms).getD ms.length 0 := by rw [last_of, if_pos d2]
            exists ("wq", ())
            refine ⟨ty_lst h12a, ?_⟩
            exists ("wq", ())
            refine ⟨m, sc, lf, script, n', 3, rfl, M12, by omega, by omega, by omega, fun d H13 d0 d1' M13 c13 => ?_⟩
            have h13a := c13 _ _ h12a dne.1 dne.2
            exists ("wq", ())
            refine w_intB ?_
            exists ("wq", ())
            refine w_append h13a (small_lt (by simp; omega)) ?_
            have M14 := fun x : Int => M.set fa (o := .lst (VI ms ++ [V.int x])) M13
            have f14 := fin _ hlast (decide (d > 0))
            have c14 : ∀ x : Int, Chg m lf H (L2.upd H13 a (.lst (VI ms ++ [V.int x]))) := fun x y u h n1 n2 => by
              rw [upd_ne (ne_of_none h fa)]
              exact c13 _ _ (c12 _ _ h n1 n2) n1 n2
            exists ("wq", ())
            refine ⟨ms ++ [_], n' + 1, _, _, rfl, ?_, by simp; omega, f14, M14 _, by omega, c14 _⟩
            rw [upd_same, VI, VI, List.map_append] <;> rfl
        · rintro σ H10 ⟨ms, n', t5, t6, rfl, h10, e10, u10, M10, l10, c10⟩
          exists ("wq", ())
          exact q a ms H10 n' (by omega) M10 c10 fa h10 u10 (by omega) (by omega)
end
end
/-! #### W17 -/
section
abbrev N_scSR : List Str := ["_law_bounds_here", "_law_k", "_law_sums_here", "_law_first", "_law_given_here", "_law_found", "_law_height", "_law_power_here", "_law_item_here", "_law_so_far"]
theorem scSR : FnScope N_scSR ["_law_bounds_here", "_law_k", "_law_sums_here", "_law_first", "_law_given_here"] (defScope sSR) := ⟨rfl, rfl, rfl, by decide +kernel, rfl, by decide +kernel, by decide +kernel⟩
def spSR : Sp := fun vs H Q _ => ∃ (p s g : Addr) (b sums : List Int) (k : Nat) (first : Int) (sp : Nat → Option Int), vs = [.ref p, .int (k : Int), .ref s, .int first, .ref g] ∧ H p = some (.lst (VI b)) ∧ H s = some (.lst (VI sums)) ∧ DG H g sp ∧
  2 ≤ k ∧ k ≤ 9 ∧ b.length ≤ 19 ∧ 1 ≤ sums.length ∧ (match spineN k b sums first sp 11 with | none => RetV .non H Q | some l => RetL (VI l) H Q)
theorem len_sp {k : Nat} {b s : List Int} {first : Int} {sp : Nat → Option Int} : ∀ {n : Nat} {l : List Int}, spineN k b s first sp n = some l → l.length = n + 1
  | 0, l, h => by
    have e : [firstItem sp first] = l := Option.some.inj h
    rw [← e] <;> rfl
  | n + 1, l, h => by
    have h : (spineN k b s first sp n).bind (fun l => (spItem k b s sp n).map fun x => l ++ [x]) = some l := h
    cases e : spineN k b s first sp n with
    | none => rw [e] at h; cases h
    | some l' =>
      rw [e] at h
      cases e2 : spItem k b s sp n with
      | none => rw [e2] at h; cases h
      | some x =>
        rw [e2] at h
        have h : l' ++ [x] = l := Option.some.inj h
        rw [← h, List.length_append, len_sp e] <;> rfl
theorem sp_none {k : Nat} {b s : List Int} {first : Int} {sp : Nat → Option Int} {n : Nat} (h : spineN k b s first sp n = none) : ∀ m, spineN k b s first sp (n + m) = none
  | 0 => h
  | m + 1 => by
    show (spineN k b s first sp (n + m)).bind _ = none
    rw [sp_none h m] <;> rfl
theorem sp_stop {k : Nat} {b s : List Int} {first : Int} {sp : Nat → Option Int} {n : Nat} {l : List Int} (h : spineN k b s first sp n = some l) (hi : spItem k b s sp n = none) (hn : n < 11) : spineN k b s first sp 11 = none := by
  have h1 : spineN k b s first sp (n + 1) = none := by
    show (spineN k b s first sp n).bind (fun l => (spItem k b s sp n).map fun x => l ++ [x]) = none
    rw [h, hi] <;> rfl
  have h2 := sp_none h1 (10 - n)
  rwa [show n + 1 + (10 - n) = 11 by omega] at h2
theorem sp_go {k : Nat} {b s : List Int} {first : Int} {sp : Nat → Option Int} {n : Nat} {l : List Int} {x : Int} (h : spineN k b s first sp n = some l) (hi : spItem k b s sp n = some x) : spineN k b s first sp (n + 1) = some (l ++ [x]) := by
  show (spineN k b s first sp n).bind (fun l => (spItem k b s sp n).map fun x => l ++ [x]) = some (l ++ [x])
  rw [h, hi] <;> rfl
section
variable {P : Program} {w : World} {K : PySem.W.Frag} {mg : Str → Option Value} {base : Heap} {f : Addr} {fd : FuncData} {C : Addr}
theorem ok_sr (F : FD K "_law_spine_row" "_law_spine_row" sSR f fd) (E : Glob K mg) (c__law_power : Cal P w K mg base CX0 1 "_law_power" ["_law_k", "_law_height"] spPow) : FnOk P w K mg base CX0 2 f fd ["_law_bounds_here", "_law_k", "_law_sums_here", "_law_first", "_law_given_here"] spSR := by
  refine F.ok scSR (fun vs H Q E h => ?_) (fun cdv A outer s H vs Q _ hr h => ?_)
  · obtain ⟨p, s, g, b, sums, k, first, sp, rfl, _⟩ := h
    rfl
  · obtain ⟨p, s', g, b, sums, k, first, sp, rfl, hp, hs, hg, hk, hk9, hl, hsl, q⟩ := h
    refine ⟨_, PSs.nox (pss_cons (ps_set (i := 5) scSR.nd rfl (.inl rfl) (pe_lst (pa_cons (pe_dget2 (u1 hr.units) (pv 4) pe_int (pv 3) ⟨by rfl, by rfl, by rfl, by rfl⟩) pa_nil)))
      (pss_cons (ps_for PassesOwn.never rfl (pi_range1 (by rfl) E.n_range (pa_cons pe_int pa_nil)) (pg_name (i := 6) scSR.nd rfl (.inl rfl))
        (pss_cons (ps_par (i := 7) (j := 8) rfl scSR.nd rfl rfl (by decide) rfl rfl (pa_cons (pe_cal c__law_power (hr.mono (by decide)) (pa_cons (pv 1) (pa_cons (pv 6) pa_nil))) (pa_cons (pe_dget2 (u1 hr.units) (pv 4) (pe_op op_add (pv 6) pe_int) pe_int ⟨by rfl, by rfl, by rfl, by rfl⟩) pa_nil)) (by rfl))
        (pss_cons (ps_set (i := 9) scSR.nd rfl (.inl rfl) (pe_ix (ix_listK (K := K) rfl) (pv 2) (pe_callB (call_mn2 rfl) (by rfl) E.n_min PyProof.Rows.Boot.«min» (pa_cons (pv 6) (pa_cons (pe_op op_sub (pe_callB (call_lenK (K := K) rfl) (by rfl) E.n_len PySem.boot_len (pa_cons (pv 2) pa_nil)) pe_int) pa_nil))) (fun _ _ => rfl)))
        (pss_cons (ps_if (pt_cmpR op_lt (pv 7) (pe_callB (call_lenK (K := K) rfl) (by rfl) E.n_len PySem.boot_len (pa_cons (pv 0) pa_nil)) (nomark _))
          (pss_cons (ps_set (i := 8) scSR.nd rfl (.inl rfl) (pe_op op_sub (pe_ix (ix_listK (K := K) rfl) (pv 0) (pe_op op_sub (pv 7) pe_int) (fun _ _ => rfl)) (pv 9)))
          (pss_one (ps_if (pt_cmpR op_ne (pe_dget2 (u1 hr.units) (pv 4) (pe_op op_add (pv 6) pe_int) (pv 8) ⟨by rfl, by rfl, by rfl, by rfl⟩) (pv 8) (nomark _))
            (pss_one (ps_ret pe_non))
            pss_nil)))
          pss_nil)
        (pss_cons (ps_if (PW.pt (pw_and (pt_cmpR op_eq (pv 7) (pe_callB (call_lenK (K := K) rfl) (by rfl) E.n_len PySem.boot_len (pa_cons (pv 0) pa_nil)) (nomark _)) (pw_and1 (pt_cmpR op_lt (pe_op op_add (pv 9) (pv 8)) (pe_ix (ix_listK (K := K) rfl) (pv 0) (pe_op op_sub (pv 7) pe_int) (fun _ _ => rfl)) (nomark _)))))
          (pss_cons (ps_if (pt_cmpR op_notN' (pe_dget1 (u1 hr.units) (pv 4) (pe_op op_add (pv 6) pe_int) ⟨by rfl, by rfl, by rfl, by rfl⟩) pe_non (nomark _))
            (pss_one (ps_ret pe_non))
            pss_nil)
          (pss_one (ps_set (i := 8) scSR.nd rfl (.inl rfl) (pe_op op_sub (pe_ix (ix_listK (K := K) rfl) (pv 0) (pe_op op_sub (pv 7) pe_int) (fun _ _ => rfl)) (pv 9)))))
          pss_nil)
        (pss_one (ps_expr (pe_appK (K := K) rfl (pv 5) (pa_cons (pv 8) pa_nil)))))))))
      (pss_one (ps_ret (pv 5))))), ?_⟩
    refine w_start (σ' := [some (.ref p), some (.int k), some (.ref s'), some (.int first), some (.ref g), none, none, none, none, none]) rfl ?_
    exists ("wq", ())
    refine ⟨g, sp, rfl, hg, ?_⟩
    exists ("wq", ())
    refine ⟨0, first, rfl, rfl, hg, ?_⟩
    exists ("wp", ())
    refine w_newL1 (newL fun f1 H1 hf s1 h1 => ?_)
    exists ("wq", ())
    refine ⟨11, rfl, by omega, by omega, for_it (walk_range (lo := 0) (n := 11)) (fun h σ H' => ∃ l t6 t7 t8 t9, σ = [some (.ref p), some (.int k), some (.ref s'), some (.int first), some (.ref g), some (.ref f1), t6, t7, t8, t9] ∧ spineN k b sums first sp h = some l ∧ H' f1 = some (.lst (VI l)) ∧ Same H H') ⟨[firstItem sp first], _, _, _, _, rfl, rfl, h1, s1⟩ (fun _ _ _ _ _ => trivial) ?_ ?_⟩
    · rintro h x σ H2 H3 hi ⟨l, t6, t7, t8, t9, rfl, e3, h3, s3⟩ ⟨rfl, rfl⟩
      have e0 : (fun i : Nat => V.int (0 + (i : Int))) h = V.int (h : Int) := congrArg V.int (by omega)
      rw [e0]
      have g3 : DG H3 g sp := hg.to s3
      have hp3 := s3 _ _ hp
      have hs3 := s3 _ _ hs
      have hk1 : 1 ≤ k ^ h := Nat.pow_pos (by omega)
      have stop : spItem k b sums sp h = none → Q .non H3 := by
        intro z
        rw [sp_stop e3 z hi] at q
        exact q H3 s3
      exists ("wq", ())
      refine ⟨k, h, rfl, hk9, by omega, ?_⟩
      exists ("wq", ())
      refine ⟨g, sp, rfl, g3, ?_⟩
      exists ("wq", ())
      refine ⟨h + 1, 0, rfl, rfl, g3, ?_⟩
      exists ("wq", ())
      rw [List.length_map]
      exists ("wq", ())
      rw [show min (h : Int) ((sums.length : Int) - 1) = ((min h (sums.length - 1) : Nat) : Int) by omega]
      refine w_ixIn (i := min h (sums.length - 1)) (ns := sums) (SqL.of hs3) (by omega) ?_
      rw [show sums.getD (min h (sums.length - 1)) 0 = soFar sums h from rfl]
      exists ("wq", ())
      rw [List.length_map]
      exists ("wq", ())
      refine w_ite (fun c1 => ?_) (fun c1 => ?_)
      · have c1' : k ^ h < b.length := by omega
        exists ("wq", ())
        refine w_ixI (ns := b) (SqL.of hp3) (by omega) (by omega) ?_
        rw [show (((k ^ h : Nat) : Int) - 1).toNat = k ^ h - 1 by omega]
        exists ("wq", ())
        refine ⟨g, sp, rfl, g3, ?_⟩
        exists ("wq", ())
        refine ⟨h + 1, _, rfl, rfl, g3, ?_⟩
        exists ("wq", ())
        refine w_iteN (fun c2 => ?_) (fun c2 => ?_)
        · exists ("wq", ())
          refine stop ?_
          unfold spItem
          rw [if_pos c1', if_pos c2]
        · have e4 := sp_go e3 (show spItem k b sums sp h = some (b.getD (k ^ h - 1) 0 - soFar sums h) by
            unfold spItem
            rw [if_pos c1', if_neg (fun z => z c2)])
          exists ("wq", ())
          rw [List.length_map]
          exists ("wq", ())
          refine w_itF (by omega) ?_
          exists ("wq", ())
          refine ⟨ty_lst h3, ?_⟩
          exists ("wq", ())
          refine w_append h3 (small_lt (by rw [List.length_map, len_sp e3]; omega)) ?_
          exists ("wq", ())
          refine ⟨_, _, _, _, _, rfl, e4, ?_, Same.mut s3 hf⟩
          rw [upd_same, VI, VI, List.map_append] <;> rfl
      · have c1' : ¬ k ^ h < b.length := by omega
        exists ("wq", ())
        rw [List.length_map]
        exists ("wq", ())
        refine w_ite (fun c2 => ?_) (fun c2 => ?_)
        · exists ("wq", ())
          refine w_ixI (ns := b) (SqL.of hp3) (by omega) (by omega) ?_
          rw [show (((k ^ h : Nat) : Int) - 1).toNat = k ^ h - 1 by omega]
          exists ("wq", ())
          refine w_ite (fun c3 => ?_) (fun c3 => ?_)
          · have c4 : k ^ h = b.length ∧ soFar sums h + (sp (h + 1)).getD 0 < b.getD (k ^ h - 1) 0 := ⟨by omega, c3⟩
            exists ("wq", ())
            refine ⟨g, sp, rfl, g3, ?_⟩
            exists ("wq", ())
            refine ⟨h + 1, rfl, g3, ?_⟩
            exists ("wq", ())
            refine w_iteN (fun c5 => ?_) (fun c5 => ?_)
            · exists ("wq", ())
              refine stop ?_
              unfold spItem
              rw [if_neg c1', if_pos c4, if_pos (Option.isSome_iff_ne_none.mpr c5)]
            · have e4 := sp_go e3 (show spItem k b sums sp h = some (b.getD (k ^ h - 1) 0 - soFar sums h) by
                unfold spItem
                rw [if_neg c1', if_pos c4, if_neg (by rw [c5]; decide)])
              exists ("wq", ())
              refine w_ixI (ns := b) (SqL.of hp3) (by omega) (by omega) ?_
              rw [show (((k ^ h : Nat) : Int) - 1).toNat = k ^ h - 1 by omega]
              exists ("wq", ())
              refine ⟨ty_lst h3, ?_⟩
              exists ("wq", ())
              refine w_append h3 (small_lt (by rw [List.length_map, len_sp e3]; omega)) ?_
              exists ("wq", ())
              refine ⟨_, _, _, _, _, rfl, e4, ?_, Same.mut s3 hf⟩
              rw [upd_same, VI, VI, List.map_append] <;> rfl
          · have e4 := sp_go e3 (show spItem k b sums sp h = some ((sp (h + 1)).getD 0) by
              unfold spItem
              rw [if_neg c1', if_neg (fun z => c3 z.2)])
            exists ("wq", ())
            refine ⟨ty_lst h3, ?_⟩
            exists ("wq", ())
            refine w_append h3 (small_lt (by rw [List.length_map, len_sp e3]; omega)) ?_
            exists ("wq", ())
            refine ⟨_, _, _, _, _, rfl, e4, ?_, Same.mut s3 hf⟩
            rw [upd_same, VI, VI, List.map_append] <;> rfl
        · have e4 := sp_go e3 (show spItem k b sums sp h = some ((sp (h + 1)).getD 0) by
            unfold spItem
            rw [if_neg c1', if_neg (fun z => c2 (by omega))])
          exists ("wq", ())
          refine ⟨ty_lst h3, ?_⟩
          exists ("wq", ())
          refine w_append h3 (small_lt (by rw [List.length_map, len_sp e3]; omega)) ?_
          exists ("wq", ())
          refine ⟨_, _, _, _, _, rfl, e4, ?_, Same.mut s3 hf⟩
          rw [upd_same, VI, VI, List.map_append] <;> rfl
    · rintro σ H2 ⟨l, t6, t7, t8, t9, rfl, e3, h3, s3⟩
      exists ("wq", ())
      rw [e3] at q
      exact q _ _ hf s3 h3
end
end
/-! #### W18 -/
section
abbrev N_scDu : List Str := ["_law_bounds_here", "_law_k", "_law_first", "_law_is_open", "_law_given_here", "_law_rows", "_law_sums_here", "_law_level_row", "_law_spine_row_here", "_law_n"]
theorem scDu : FnScope N_scDu ["_law_bounds_here", "_law_k", "_law_first", "_law_is_open", "_law_given_here", "_law_rows"] (defScope sDu) := ⟨rfl, rfl, rfl, by decide +kernel, rfl, by decide +kernel, by decide +kernel⟩
theorem maxOf_le {b : List Int} {m : Int} (h1 : 1 ≤ m) (h : ∀ x ∈ b, x ≤ m) : maxOf b ≤ m := by
  have key : ∀ (b : List Int) (a : Int), a ≤ m → (∀ x ∈ b, x ≤ m) → b.foldl max a ≤ m := by
    intro b
    induction b with
    | nil => intro a ha _; exact ha
    | cons y b ih =>
      intro a ha hb
      have := hb y (List.mem_cons_self ..)
      exact ih (max a y) (by omega) fun x hx => hb x (List.mem_cons_of_mem _ hx)
  exact key b 1 h1 h
def DueAns (H : Hp) (Q : VK) : Option (List Int × List Int) → Prop
  | none => RetV .non H Q
  | some (lv, sp) => ∀ t a c H', H t = none → Same H H' → H' t = some (.tup [.ref a, .ref c]) → H' a = some (.lst (VI lv)) → H' c = some (.lst (VI sp)) → Q (.ref t) H'
def spDu : Sp := fun vs H Q _ => ∃ (p gs gr : Addr) (b : List Int) (k : Nat) (first : Int) (op : Bool) (sp : Nat → Option Int) (g : Gaps), vs = [.ref p, .int (k : Int), .int first, .bl op, .ref gs, .ref gr] ∧ H p = some (.lst (VI b)) ∧ DG H gs sp ∧ DGk H gr g ∧
  2 ≤ k ∧ k ≤ 9 ∧ b.length ≤ 19 ∧ (∀ x ∈ b, 0 ≤ x ∧ x ≤ 1000) ∧ (∀ n, n ≤ topOf k b.length + 1 → (sumsN k b (capOf b) n).length ≤ sizeLine) ∧ DueAns H Q (due k b first op sp g)
theorem levels_cat (s : List Int) (g : Gaps) (h : s.length ≤ 12) : ((List.range s.length).map fun n => s.getD n 0 - (0 :: s).getD n 0) ++ ((List.range (12 - s.length)).map fun j => (g (s.length + j)).getD 0) = levelList s g := by
  unfold levelList
  obtain ⟨d, hd⟩ : ∃ d, 12 = s.length + d := ⟨12 - s.length, by omega⟩
  rw [hd, List.range_add, List.map_append, show s.length + d - s.length = d by omega, List.map_map]
  congr 1
  · refine List.map_congr_left fun n hn => ?_
    have hn := List.mem_range.mp hn
    show _ = levelRow s g n
    unfold levelRow
    rw [if_pos hn]
    cases n with
    | zero => rfl
    | succ n => rfl
  · refine List.map_congr_left fun n hn => ?_
    show _ = levelRow s g (s.length + n)
    unfold levelRow
    rw [if_neg (by omega)]
theorem rows_of {s : List Int} {g : Gaps} {ns : List (Nat × Int)} (h1 : ∀ t ∈ ns, t.1 < 12 ∧ g t.1 = some t.2) (h2 : ∀ i x, g i = some x → (i, x) ∈ ns) : rowsMatch s g = true ↔ ∀ t ∈ ns, levelRow s g t.1 = t.2 := by
  unfold rowsMatch
  rw [List.all_eq_true]
  constructor
  · intro h t ht
    obtain ⟨a1, a2⟩ := h1 t ht
    have z := h t.1 (List.mem_range.mpr a1)
    rw [a2] at z
    exact of_decide_eq_true z
  · intro h n hn
    cases e : g n with
    | none => rfl
    | some x => exact decide_eq_true (h (n, x) (h2 n x e))
theorem find_take {α β : Type} (f : α → Option β) (l : List α) (i : Nat) (x : α) (h : l[i]? = some x) (h0 : (l.take i).findSome? f = none) : (f x = none → (l.take (i + 1)).findSome? f = none) ∧ ∀ y, f x = some y → l.findSome? f = some y := by
  have e : l.take (i + 1) = l.take i ++ [x] := by rw [List.take_succ, h] <;> rfl
  refine ⟨fun hx => ?_, fun y hy => ?_⟩
  · rw [e, List.findSome?_append, h0]
    simp [hx]
  · have e2 : l = l.take (i + 1) ++ l.drop (i + 1) := (List.take_append_drop _ _).symm
    rw [e2, e, List.findSome?_append, List.findSome?_append, h0]
    simp [hy]
section
variable {P : Program} {w : World} {K : PySem.W.Frag} {mg : Str → Option Value} {base : Heap} {f : Addr} {fd : FuncData} {C : Addr}
theorem ok_du (F : FD K "_law_due" "_law_due" sDu f fd) (E : Glob K mg) (c__law_sums : Cal P w K mg base CX0 3 "_law_sums" ["_law_bounds_here", "_law_k", "_law_cap"] spSu)
    (c__law_spine_row : Cal P w K mg base CX0 2 "_law_spine_row" ["_law_bounds_here", "_law_k", "_law_sums_here", "_law_first", "_law_given_here"] spSR) : FnOk P w K mg base CX0 4 f fd ["_law_bounds_here", "_law_k", "_law_first", "_law_is_open", "_law_given_here", "_law_rows"] spDu := by
  refine F.ok scDu (fun vs H Q E h => ?_) (fun cdv A outer s H vs Q _ hr h => ?_)
  · obtain ⟨p, gs, gr, b, k, first, op, sp, g, rfl, _⟩ := h
    rfl
  · obtain ⟨p, gs, gr, b, k, first, op, sp, g, rfl, hp, hgs, ⟨hgr, ns, hns, hnl, hn1, hn2⟩, hk, hk9, hl, hb, hsz, q⟩ := h
    refine ⟨_, PSs.nox (pss_cons (ps_if (PW.pt (pw_or (pt_cmpR op_lt (pe_dget2 (u1 hr.units) (pv 4) pe_int (pv 2) ⟨by rfl, by rfl, by rfl, by rfl⟩) (pv 2) (nomark _)) (pw_or1 (PW.pt (pw_and (pt_not (pt_val (pv 3))) (pw_and1 (pt_cmpR op_ne (pe_dget2 (u1 hr.units) (pv 4) pe_int (pv 2) ⟨by rfl, by rfl, by rfl, by rfl⟩) (pv 2) (nomark _))))))))
        (pss_one (ps_ret pe_non))
        pss_nil)
      (pss_cons (ps_for PassesOwn.never rfl (pi_listK (K := K) rfl (pe_cal c__law_sums (hr.mono (by decide)) (pa_cons (pv 0) (pa_cons (pv 1) (pa_cons (pe_op op_add (pe_callB (cr_maxK (K := K) rfl rfl) (by rfl) E.n_max PyProof.Rows.Boot.«max» (pa_cons (pe_op op_cat (pe_lst (pa_cons pe_int pa_nil)) (pv 0)) pa_nil)) pe_int) pa_nil))))) (pg_name (i := 6) scDu.nd rfl (.inr rfl))
        (pss_cons (ps_set (i := 7) scDu.nd rfl (.inr rfl) (pe_lc (own := [("_law_n", 9)]) rfl scDu.nd (pi_range1 (by rfl) E.n_range (pa_cons (pe_callB (call_lenK (K := K) rfl) (by rfl) E.n_len PySem.boot_len (pa_cons (pv 6) pa_nil)) pa_nil)) (blkOk_by (N := N_scDu) (sc := defScope sDu) (by decide +kernel)) (fun _ _ _ _ _ => (pg_name (i := 9) scDu.nd rfl (.inl rfl) (.inr rfl))) (fun _ _ _ _ _ => pts_nil) (fun _ _ _ _ _ => (pe_op op_sub (pe_ix (ix_listK (K := K) rfl) (pe_op op_cat (pe_lst (pa_cons pe_int pa_nil)) (pv 6)) (pe_op op_add (pv 9) pe_int) (fun _ _ => rfl)) (pe_ix (ix_listK (K := K) rfl) (pe_op op_cat (pe_lst (pa_cons pe_int pa_nil)) (pv 6)) (pv 9) (fun _ _ => rfl))))))
        (pss_cons (ps_set (i := 7) scDu.nd rfl (.inr rfl) (pe_op op_cat (pv 7) (pe_lc (own := [("_law_n", 9)]) rfl scDu.nd (pi_range2 (by rfl) E.n_range (pa_cons (pe_callB (call_lenK (K := K) rfl) (by rfl) E.n_len PySem.boot_len (pa_cons (pv 6) pa_nil)) (pa_cons pe_int pa_nil))) (blkOk_by (N := N_scDu) (sc := defScope sDu) (by decide +kernel)) (fun _ _ _ _ _ => (pg_name (i := 9) scDu.nd rfl (.inl rfl) (.inr rfl))) (fun _ _ _ _ _ => pts_nil) (fun _ _ _ _ _ => (pe_dget2 (u1 hr.units) (pv 5) (pv 9) pe_int ⟨by rfl, by rfl, by rfl, by rfl⟩)))))
        (pss_one (ps_if (pt_cmpR (op_eqDK (K := K) rfl hr.units) (pe_lock (pe_lc (own := [("_law_n", 9)]) rfl scDu.nd (pi_keys (pv 5)) (blkOk_by (N := N_scDu) (sc := defScope sDu) (by decide +kernel)) (fun _ _ _ _ _ => (pg_name (i := 9) scDu.nd rfl (.inl rfl) (.inr rfl))) (fun _ _ _ _ _ => (pts_one (pt_cmpR op_ne (pe_ix (ix_listK (K := K) rfl) (pv 7) (pv 9) (fun _ _ => rfl)) (pe_dget (u1 hr.units) (pv 5) (pv 9) (fun _ _ => rfl)) (nomark _)))) (fun _ _ _ _ _ => (pv 9)))) (pe_lst pa_nil) (nomark _))
          (pss_cons (ps_set (i := 8) scDu.nd rfl (.inl rfl) (pe_cal c__law_spine_row (hr.mono (by decide)) (pa_cons (pv 0) (pa_cons (pv 1) (pa_cons (pv 6) (pa_cons (pv 2) (pa_cons (pv 4) pa_nil)))))))
          (pss_one (ps_if (pt_cmpR op_notN' (pv 8) pe_non (nomark _))
            (pss_one (ps_ret (pe_tup (pa_cons (pv 7) (pa_cons (pv 8) pa_nil)))))
            pss_nil)))
          pss_nil)))))
      (pss_one (ps_ret pe_non)))), ?_⟩
    refine w_start (σ' := [some (.ref p), some (.int k), some (.int first), some (.bl op), some (.ref gs), some (.ref gr), none, none, none, none]) rfl ?_
    have nope : (firstItem sp first < first ∨ op = false ∧ firstItem sp first ≠ first) → Q .non H := by
      intro z
      unfold due at q
      rw [if_pos z] at q
      exact q H (Same.refl _)
    have main : ¬ (firstItem sp first < first ∨ op = false ∧ firstItem sp first ≠ first) → DueAns H Q ((sumsN k b (capOf b) (topOf k b.length + 1)).findSome? (dueOf k b first sp g)) := by
      intro z
      unfold due at q
      rw [if_neg z] at q
      exact q
    exists ("wq", ())
    refine ⟨gs, sp, rfl, hgs, ?_⟩
    exists ("wq", ())
    refine ⟨0, first, rfl, rfl, hgs, ?_⟩
    rw [show (sp 0).getD first = firstItem sp first from rfl]
    exists ("wq", ())
    refine w_ite (fun c1 => ?_) (fun c1 => ?_)
    · exists ("wq", ())
      exact nope (.inl c1)
    · cases op with
      | true =>
        have main := main (by rintro (z | z); exact c1 z; cases z.1)
        exists ("wp", ())
        refine w_newL1 (newL fun p1 H1 hp1 s1 h1 => ?_)
        exists ("wq", ())
        refine w_catL (by exists ("hp", ())) (by exists ("hp", ())) (small_le (by simp; omega)) fun p2 H2 hp2 s2 h2 => ?_
        exists ("wq", ())
        refine w_maxL (a := 1) (ns := b) (SqL.of h2) ?_
        exists ("wq", ())
        have m1 := maxOf_ge b
        have m2 : maxOf b ≤ 1000 := maxOf_le (by decide) fun x hx => (hb x hx).2
        have s02 : Same H H2 := s1.trans s2
        refine ⟨p, b, k, capOf b, rfl, s02 _ _ hp, hl, hk, hk9, by unfold capOf; omega, by unfold capOf; omega, fun i => ?_, hsz, fun q3 H3 us s3 h3 l3 => ?_⟩
        · by_cases hi : i < b.length
          · have := hb _ (getD_mem hi)
            omega
          · rw [List.getD_eq_getElem?_getD, List.getElem?_eq_none (by omega)]
            exact ⟨Int.le_refl _, by decide⟩
        refine ⟨q3, rfl, ⟨us, SqL.of h3⟩, ?_⟩
        have s03 : Same H H3 := s02.trans s3
        refine for_it (walk_list (xs := us)) (fun i σ H' => ∃ t6 t7 t8, σ = [some (.ref p), some (.int k), some (.int first), some (.bl _), some (.ref gs), some (.ref gr), t6, t7, t8, none] ∧ Same H3 H' ∧ ((sumsN k b (capOf b) (topOf k b.length + 1)).take i).findSome? (dueOf k b first sp g) = none) ⟨_, _, _, rfl, Same.refl _, rfl⟩ ?_ ?_ ?_
        · rintro i σ H4 _ ⟨t6, t7, t8, rfl, s4, e4⟩
          exact SqL.of (s4 _ _ h3)
        · rintro i x σ H4 H4' hi ⟨t6, t7, t8, rfl, s4, e4⟩ ⟨rfl, hx⟩
          obtain ⟨a, s', rfl, hs0, ha⟩ := (Lists.to s4 l3).get hx
          have row := mem_sums.mp (List.mem_of_getElem? hs0)
          have hlen : 1 ≤ s'.length ∧ s'.length ≤ 6 := by
            have := row.len
            have := top_small (k := k) hk hl
            omega
          obtain ⟨ft1, ft2⟩ := find_take _ _ _ _ hs0 e4
          have s04 : Same H H4' := s03.trans s4
          have prg : DG H4' gr g := hgr.to s04
          have prk := s04 _ _ hns
          clear e4 hx l3 hi
          exists ("wq", ())
          refine ⟨s'.length, by simp, by omega, by omega, fun D5 hD5 => ?_⟩
          refine lc_rci (n := s'.length) (fun i => VI ((List.range i).map fun n => s'.getD n 0 - (0 :: s').getD n 0)) hD5 (fun i H' hi p sm => ?_) (fun H5 s5 h5 => ?_)
          · exists ("wq", ())
            refine ⟨rfl, ?_⟩
            exists ("wp", ())
            refine w_newL1 (newL fun p6 H6 hp6 s6 h6 => ?_)
            exists ("wq", ())
            refine w_catL (ys := VI s') (by exists ("hp", ())) (by exists ("hp", ())) (small_le (by simp; omega)) fun p7 H7 hp7 s7 h7 => ?_
            exists ("wq", ())
            refine w_ixIn (i := i + 1) (ns := 0 :: s') (SqL.of h7) (by simp; omega) ?_
            exists ("wp", ())
            refine w_newL1 (newL fun p8 H8 hp8 s8 h8 => ?_)
            exists ("wq", ())
            refine w_catL (ys := VI s') (by exists ("hp", ())) (by exists ("hp", ())) (small_le (by simp; omega)) fun p9 H9 hp9 s9 h9 => ?_
            exists ("wq", ())
            refine w_ixIn (i := i) (ns := 0 :: s') (SqL.of h9) (by simp; omega) ?_
            exists ("wq", ())
            refine ci_add p (by exists ("sm", ())) ?_ (by simp; omega)
            rw [VI, VI, range_snoc, List.map_append] <;> rfl
          have ha5 := s5 _ _ ha
          exists ("wq", ())
          refine ⟨s'.length, 12, by simp, ⟨by omega, by omega, by omega, by omega⟩, fun D6 hD6 => ?_⟩
          refine lc_ci (fun i => VI ((List.range i).map fun j => (g (s'.length + j)).getD 0)) (walk_range (lo := (s'.length : Int)) (n := ((12 : Int) - s'.length).toNat)) hD6 (fun _ _ => trivial) (fun i x H' Hy hi p sm y => ?_) (fun H6 s6 h6 => ?_)
          · obtain ⟨rfl, rfl⟩ := y
            have prg6 : DG Hy gr g := (prg.to s5).to sm
            have e0 : (fun i : Nat => V.int ((s'.length : Int) + (i : Int))) i = V.int (((s'.length + i : Nat) : Int)) := rfl
            rw [e0]
            exists ("wq", ())
            refine ⟨rfl, ?_⟩
            exists ("wq", ())
            refine ⟨gr, g, rfl, prg6, ?_⟩
            exists ("wq", ())
            refine ⟨s'.length + i, 0, rfl, rfl, prg6, ?_⟩
            refine ci_add p (Same.refl _) ?_ (by simp; omega)
            rw [VI, VI, range_snoc, List.map_append] <;> rfl
          have h56 := s6 _ _ h5
          exists ("wq", ())
          refine w_catL h56 h6 (small_le (by simp; omega)) fun p7 H7 hp7 s7 h7 => ?_
          have h7 : H7 p7 = some (.lst (VI (levelList s' g))) := by
            rw [h7, ← levels_cat s' g (by omega), VI, VI, VI, List.map_append, show ((12 : Int) - s'.length).toNat = 12 - s'.length by omega]
          have s47 : Same H4' H7 := (s5.trans s6).trans s7
          have s07 : Same H H7 := s04.trans s47
          have prk7 := s47 _ _ prk
          exists ("wq", ())
          refine ⟨gr, _, prk7, trivial, fun od => ?_⟩
          obtain ⟨H8, e8, hd8, b8⟩ := upd_name H7 gr (.frz od (.dK (ns.map fun t => (.inl (t.1 : Int), .int t.2))))
          rw [e8]
          have h78 : H8 p7 = some (.lst (VI (levelList s' g))) := b8 _ _ h7 (by rintro rfl; rw [h7] at prk7; cases prk7)
          exists ("wq", ())
          refine ⟨gr, od, rfl, .inl ⟨_, hd8, fun D9 hD9 => ?_⟩⟩
          have lc : ∀ i, (((ns.take i).filter fun t => decide (levelRow s' g t.1 ≠ t.2)).map fun t => ((t.1 : Nat) : Int)).length ≤ 100000 := fun i => by
            rw [List.length_map]
            have z1 := List.length_filter_le (fun t : Nat × Int => decide (levelRow s' g t.1 ≠ t.2)) (ns.take i)
            have z2 := List.length_take_le i ns
            rw [List.length_take] at z1
            omega
          refine lc_ci (fun i => VI (((ns.take i).filter fun t => decide (levelRow s' g t.1 ≠ t.2)).map fun t => ((t.1 : Nat) : Int))) walk_keys hD9 (fun H' sm => sm _ _ hd8) (fun i x H' Hy hi p sm y => ?_) (fun H10 s10 h10 => ?_)
          · obtain ⟨rfl, k', v', hkv, rfl⟩ := y
            have hin : i < ns.length := by rw [List.length_map] at hi; exact hi
            rw [List.getElem?_map, List.getElem?_eq_getElem hin] at hkv
            cases Option.some.inj hkv
            have hmem := hn1 _ (List.getElem_mem hin)
            have tk : ns.take (i + 1) = ns.take i ++ [ns[i]] := by rw [List.take_succ, List.getElem?_eq_getElem hin] <;> rfl
            have hd10 := sm _ _ hd8
            have h710 := sm _ _ h78
            generalize ns[i] = tt at hmem tk hkv ⊢
            obtain ⟨ti, tv⟩ := tt
            have gi : g ti = some tv := hmem.2
            have ti12 : ti < 12 := hmem.1
            have hll : (levelList s' g).getD ti 0 = levelRow s' g ti := by
              unfold levelList
              rw [List.getD_eq_getElem?_getD, List.getElem?_map, List.getElem?_range ti12] <;> rfl
            have dg : DGet Hy gr (.int (ti : Int)) (some (.int tv)) := by
              refine .inl ⟨_, .inl (ti : Int), .inr ⟨od, hd10⟩, rfl, ?_⟩
              obtain ⟨kvs, k1, k2, k3⟩ := prg
              rw [prk] at k1
              injection k1 with k1
              injection k1 with k1
              subst k1
              rw [k3 ti, gi] <;> rfl
            show gName 9 (.int (ti : Int)) _ _ _
            exists ("wq", ())
            refine ⟨rfl, ?_⟩
            exists ("wq", ())
            refine w_ixIn (i := ti) (ns := levelList s' g) (SqL.of h710) (by unfold levelList; simpa using ti12) ?_
            rw [hll]
            exists ("wq", ())
            refine ⟨gr, _, rfl, dg, ?_⟩
            exists ("wq", ())
            refine w_iteN (fun c => ?_) (fun c => ?_)
            · exists ("wq", ())
              refine ci_add p (Same.refl _) ?_ (by rw [List.length_map]; exact lc i)
              rw [tk, List.filter_append, List.map_append, VI, VI, List.map_append, List.filter_cons, if_pos (decide_eq_true c)] <;> rfl
            · refine ci_skip p (Same.refl _) ?_
              rw [tk, List.filter_append, List.filter_cons, if_neg (fun z => (of_decide_eq_true (p := levelRow s' g ti ≠ tv) z) c), List.filter_nil, List.append_nil]
          refine ⟨s10 _ _ hd8, ?_⟩
          have s711 := lock_back prk7 b8 s10
          obtain ⟨H11, e11, hd11, b11⟩ := upd_name H10 gr (.dK (ns.map fun t => (.inl (t.1 : Int), .int t.2)))
          rw [e11] at s711 ⊢
          have hDg : D9 ≠ gr := by
            rintro rfl; rw [hd8] at hD9; cases hD9
          have h1011 := b11 _ _ h10 hDg
          have s011 : Same H H11 := s07.trans s711
          rw [show (ns.map fun t => ((Sum.inl (t.1 : Int) : Key), V.int t.2)).length = ns.length from List.length_map .., List.take_length] at h1011
          exists ("wp", ())
          refine w_newL0 (newL fun p12 H12 hp12 s12 h12 => ?_)
          refine w_eqL (SqL.of (s12 _ _ h1011)) (nil_l h12) ?_
          have s712 : Same H7 H12 := s711.trans s12
          have s012 : Same H H12 := s07.trans s712
          have hrm : ((ns.filter fun t => decide (levelRow s' g t.1 ≠ t.2)).map fun t => ((t.1 : Nat) : Int)) = [] ↔ rowsMatch s' g = true := by
            rw [rows_of hn1 hn2, List.map_eq_nil_iff, List.filter_eq_nil_iff]
            constructor
            · intro h t ht
              have z := h t ht
              exact Decidable.of_not_not fun c => z (decide_eq_true c)
            · intro h t ht z
              exact of_decide_eq_true z (h t ht)
          exists ("wq", ())
          refine w_ite (fun c => ?_) (fun c => ?_)
          · have rm := hrm.mp c
            exists ("wq", ())
            refine ⟨p, a, gs, b, s', k, first, sp, rfl, s012 _ _ hp, s712 _ _ (s47 _ _ ha), hgs.to s012, hk, hk9, hl, hlen.1, ?_⟩
            cases es : spineN k b s' first sp 11 with
            | none =>
              have hd0 : dueOf k b first sp g s' = none := by
                unfold dueOf
                rw [if_pos rm, es] <;> rfl
              intro H13 s13
              exists ("wq", ())
              exact ⟨_, _, _, rfl, (((s4.trans s47).trans s712).trans s13), ft1 hd0⟩
            | some l =>
              have hd0 : dueOf k b first sp g s' = some (levelList s' g, l) := by
                unfold dueOf
                rw [if_pos rm, es] <;> rfl
              rw [ft2 _ hd0] at main
              intro c13 H13 hc13 s13 h13
              exists ("wp", ())
              refine w_newT2 (newT fun t14 H14 ht14 s14 h14 => ?_)
              have sF := s712.trans (s13.trans s14)
              exact main t14 p7 c13 H14 (Same.free (s012.trans s13) ht14) (s07.trans sF) h14 (sF _ _ h7) (s14 _ _ h13)
          · have hd0 : dueOf k b first sp g s' = none := by
              unfold dueOf
              rw [if_neg (fun z => c (hrm.mpr z))]
            exists ("wq", ())
            exact ⟨_, _, _, rfl, ((s4.trans s47).trans s712), ft1 hd0⟩
        · rintro σ H4 ⟨t6, t7, t8, rfl, s4, e4⟩
          exists ("wq", ())
          rw [l3.len, List.take_length] at e4
          rw [e4] at main
          exact main _ (s03.trans s4)
      | false =>
        exists ("wq", ())
        refine ⟨gs, sp, rfl, hgs, ?_⟩
        exists ("wq", ())
        refine ⟨0, first, rfl, rfl, hgs, ?_⟩
        rw [show (sp 0).getD first = firstItem sp first from rfl]
        exists ("wq", ())
        refine w_iteN (fun c2 => ?_) (fun c2 => ?_)
        · exists ("wq", ())
          exact nope (.inr ⟨rfl, c2⟩)
        · have main := main (by rintro (z | z); exact c1 z; exact z.2 c2)
          exists ("wp", ())
          refine w_newL1 (newL fun p1 H1 hp1 s1 h1 => ?_)
          exists ("wq", ())
          refine w_catL (by exists ("hp", ())) (by exists ("hp", ())) (small_le (by simp; omega)) fun p2 H2 hp2 s2 h2 => ?_
          exists ("wq", ())
          refine w_maxL (a := 1) (ns := b) (SqL.of h2) ?_
          exists ("wq", ())
          have m1 := maxOf_ge b
          have m2 : maxOf b ≤ 1000 := maxOf_le (by decide) fun x hx => (hb x hx).2
          have s02 : Same H H2 := s1.trans s2
          refine ⟨p, b, k, capOf b, rfl, s02 _ _ hp, hl, hk, hk9, by unfold capOf; omega, by unfold capOf; omega, fun i => ?_, hsz, fun q3 H3 us s3 h3 l3 => ?_⟩
          · by_cases hi : i < b.length
            · have := hb _ (getD_mem hi)
              omega
            · rw [List.getD_eq_getElem?_getD, List.getElem?_eq_none (by omega)]
              exact ⟨Int.le_refl _, by decide⟩
          refine ⟨q3, rfl, ⟨us, SqL.of h3⟩, ?_⟩
          have s03 : Same H H3 := s02.trans s3
          refine for_it (walk_list (xs := us)) (fun i σ H' => ∃ t6 t7 t8, σ = [some (.ref p), some (.int k), some (.int first), some (.bl _), some (.ref gs), some (.ref gr), t6, t7, t8, none] ∧ Same H3 H' ∧ ((sumsN k b (capOf b) (topOf k b.length + 1)).take i).findSome? (dueOf k b first sp g) = none) ⟨_, _, _, rfl, Same.refl _, rfl⟩ ?_ ?_ ?_
          · rintro i σ H4 _ ⟨t6, t7, t8, rfl, s4, e4⟩
            exact SqL.of (s4 _ _ h3)
          · rintro i x σ H4 H4' hi ⟨t6, t7, t8, rfl, s4, e4⟩ ⟨rfl, hx⟩
            obtain ⟨a, s', rfl, hs0, ha⟩ := (Lists.to s4 l3).get hx
            have row := mem_sums.mp (List.mem_of_getElem? hs0)
            have hlen : 1 ≤ s'.length ∧ s'.length ≤ 6 := by
              have := row.len
              have := top_small (k := k) hk hl
              omega
            obtain ⟨ft1, ft2⟩ := find_take _ _ _ _ hs0 e4
            have s04 : Same H H4' := s03.trans s4
            have prg : DG H4' gr g := hgr.to s04
            have prk := s04 _ _ hns
            clear e4 hx l3 hi
            exists ("wq", ())
            refine ⟨s'.length, by simp, by omega, by omega, fun D5 hD5 => ?_⟩
            refine lc_rci (n := s'.length) (fun i => VI ((List.range i).map fun n => s'.getD n 0 - (0 :: s').getD n 0)) hD5 (fun i H' hi p sm => ?_) (fun H5 s5 h5 => ?_)
            · exists ("wq", ())
              refine ⟨rfl, ?_⟩
              exists ("wp", ())
              refine w_newL1 (newL fun p6 H6 hp6 s6 h6 => ?_)
              exists ("wq", ())
              refine w_catL (ys := VI s') (by exists ("hp", ())) (by exists ("hp", ())) (small_le (by simp; omega)) fun p7 H7 hp7 s7 h7 => ?_
              exists ("wq", ())
              refine w_ixIn (i := i + 1) (ns := 0 :: s') (SqL.of h7) (by simp; omega) ?_
              exists ("wp", ())
              refine w_newL1 (newL fun p8 H8 hp8 s8 h8 => ?_)
              exists ("wq", ())
              refine w_catL (ys := VI s') (by exists ("hp", ())) (by exists ("hp", ())) (small_le (by simp; omega)) fun p9 H9 hp9 s9 h9 => ?_
              exists ("wq", ())
              refine w_ixIn (i := i) (ns := 0 :: s') (SqL.of h9) (by simp; omega) ?_
              exists ("wq", ())
              refine ci_add p (by exists ("sm", ())) ?_ (by simp; omega)
              rw [VI, VI, range_snoc, List.map_append] <;> rfl
            have ha5 := s5 _ _ ha
            exists ("wq", ())
            refine ⟨s'.length, 12, by simp, ⟨by omega, by omega, by omega, by omega⟩, fun D6 hD6 => ?_⟩
            refine lc_ci (fun i => VI ((List.range i).map fun j => (g (s'.length + j)).getD 0)) (walk_range (lo := (s'.length : Int)) (n := ((12 : Int) - s'.length).toNat)) hD6 (fun _ _ => trivial) (fun i x H' Hy hi p sm y => ?_) (fun H6 s6 h6 => ?_)
            · obtain ⟨rfl, rfl⟩ := y
              have prg6 : DG Hy gr g := (prg.to s5).to sm
              have e0 : (fun i : Nat => V.int ((s'.length : Int) + (i : Int))) i = V.int (((s'.length + i : Nat) : Int)) := rfl
              rw [e0]
              exists ("wq", ())
              refine ⟨rfl, ?_⟩
              exists ("wq", ())
              refine ⟨gr, g, rfl, prg6, ?_⟩
              exists ("wq", ())
              refine ⟨s'.length + i, 0, rfl, rfl, prg6, ?_⟩
              refine ci_add p (Same.refl _) ?_ (by simp; omega)
              rw [VI, VI, range_snoc, List.map_append] <;> rfl
            have h56 := s6 _ _ h5
            exists ("wq", ())
            refine w_catL h56 h6 (small_le (by simp; omega)) fun p7 H7 hp7 s7 h7 => ?_
            have h7 : H7 p7 = some (.lst (VI (levelList s' g))) := by
              rw [h7, ← levels_cat s' g (by omega), VI, VI, VI, List.map_append, show ((12 : Int) - s'.length).toNat = 12 - s'.length by omega]
            have s47 : Same H4' H7 := (s5.trans s6).trans s7
            have s07 : Same H H7 := s04.trans s47
            have prk7 := s47 _ _ prk
            exists ("wq", ())
            refine ⟨gr, _, prk7, trivial, fun od => ?_⟩
            obtain ⟨H8, e8, hd8, b8⟩ := upd_name H7 gr (.frz od (.dK (ns.map fun t => (.inl (t.1 : Int), .int t.2))))
            rw [e8]
            have h78 : H8 p7 = some (.lst (VI (levelList s' g))) := b8 _ _ h7 (by rintro rfl; rw [h7] at prk7; cases prk7)
            exists ("wq", ())
            refine ⟨gr, od, rfl, .inl ⟨_, hd8, fun D9 hD9 => ?_⟩⟩
            have lc : ∀ i, (((ns.take i).filter fun t => decide (levelRow s' g t.1 ≠ t.2)).map fun t => ((t.1 : Nat) : Int)).length ≤ 100000 := fun i => by
              rw [List.length_map]
              have z1 := List.length_filter_le (fun t : Nat × Int => decide (levelRow s' g t.1 ≠ t.2)) (ns.take i)
              have z2 := List.length_take_le i ns
              rw [List.length_take] at z1
              omega
            refine lc_ci (fun i => VI (((ns.take i).filter fun t => decide (levelRow s' g t.1 ≠ t.2)).map fun t => ((t.1 : Nat) : Int))) walk_keys hD9 (fun H' sm => sm _ _ hd8) (fun i x H' Hy hi p sm y => ?_) (fun H10 s10 h10 => ?_)
            · obtain ⟨rfl, k', v', hkv, rfl⟩ := y
              have hin : i < ns.length := by rw [List.length_map] at hi; exact hi
              rw [List.getElem?_map, List.getElem?_eq_getElem hin] at hkv
              cases Option.some.inj hkv
              have hmem := hn1 _ (List.getElem_mem hin)
              have tk : ns.take (i + 1) = ns.take i ++ [ns[i]] := by rw [List.take_succ, List.getElem?_eq_getElem hin] <;> rfl
              have hd10 := sm _ _ hd8
              have h710 := sm _ _ h78
              generalize ns[i] = tt at hmem tk hkv ⊢
              obtain ⟨ti, tv⟩ := tt
              have gi : g ti = some tv := hmem.2
              have ti12 : ti < 12 := hmem.1
              have hll : (levelList s' g).getD ti 0 = levelRow s' g ti := by
                unfold levelList
                rw [List.getD_eq_getElem?_getD, List.getElem?_map, List.getElem?_range ti12] <;> rfl
              have dg : DGet Hy gr (.int (ti : Int)) (some (.int tv)) := by
                refine .inl ⟨_, .inl (ti : Int), .inr ⟨od, hd10⟩, rfl, ?_⟩
                obtain ⟨kvs, k1, k2, k3⟩ := prg
                rw [prk] at k1
                injection k1 with k1
                injection k1 with k1
                subst k1
                rw [k3 ti, gi] <;> rfl
              show gName 9 (.int (ti : Int)) _ _ _
              exists ("wq", ())
              refine ⟨rfl, ?_⟩
              exists ("wq", ())
              refine w_ixIn (i := ti) (ns := levelList s' g) (SqL.of h710) (by unfold levelList; simpa using ti12) ?_
              rw [hll]
              exists ("wq", ())
              refine ⟨gr, _, rfl, dg, ?_⟩
              exists ("wq", ())
              refine w_iteN (fun c => ?_) (fun c => ?_)
              · exists ("wq", ())
                refine ci_add p (Same.refl _) ?_ (by rw [List.length_map]; exact lc i)
                rw [tk, List.filter_append, List.map_append, VI, VI, List.map_append, List.filter_cons, if_pos (decide_eq_true c)] <;> rfl
              · refine ci_skip p (Same.refl _) ?_
                rw [tk, List.filter_append, List.filter_cons, if_neg (fun z => (of_decide_eq_true (p := levelRow s' g ti ≠ tv) z) c), List.filter_nil, List.append_nil]
            refine ⟨s10 _ _ hd8, ?_⟩
            have s711 := lock_back prk7 b8 s10
            obtain ⟨H11, e11, hd11, b11⟩ := upd_name H10 gr (.dK (ns.map fun t => (.inl (t.1 : Int), .int t.2)))
            rw [e11] at s711 ⊢
            have hDg : D9 ≠ gr := by
              rintro rfl; rw [hd8] at hD9; cases hD9
            have h1011 := b11 _ _ h10 hDg
            have s011 : Same H H11 := s07.trans s711
            rw [show (ns.map fun t => ((Sum.inl (t.1 : Int) : Key), V.int t.2)).length = ns.length from List.length_map .., List.take_length] at h1011
            exists ("wp", ())
            refine w_newL0 (newL fun p12 H12 hp12 s12 h12 => ?_)
            refine w_eqL (SqL.of (s12 _ _ h1011)) (nil_l h12) ?_
            have s712 : Same H7 H12 := s711.trans s12
            have s012 : Same H H12 := s07.trans s712
            have hrm : ((ns.filter fun t => decide (levelRow s' g t.1 ≠ t.2)).map fun t => ((t.1 : Nat) : Int)) = [] ↔ rowsMatch s' g = true := by
              rw [rows_of hn1 hn2, List.map_eq_nil_iff, List.filter_eq_nil_iff]
              constructor
              · intro h t ht
                have z := h t ht
                exact Decidable.of_not_not fun c => z (decide_eq_true c)
              · intro h t ht z
                exact of_decide_eq_true z (h t ht)
            exists ("wq", ())
            refine w_ite (fun c => ?_) (fun c => ?_)
            · have rm := hrm.mp c
              exists ("wq", ())
              refine ⟨p, a, gs, b, s', k, first, sp, rfl, s012 _ _ hp, s712 _ _ (s47 _ _ ha), hgs.to s012, hk, hk9, hl, hlen.1, ?_⟩
              cases es : spineN k b s' first sp 11 with
              | none =>
                have hd0 : dueOf k b first sp g s' = none := by
                  unfold dueOf
                  rw [if_pos rm, es] <;> rfl
                intro H13 s13
                exists ("wq", ())
                exact ⟨_, _, _, rfl, (((s4.trans s47).trans s712).trans s13), ft1 hd0⟩
              | some l =>
                have hd0 : dueOf k b first sp g s' = some (levelList s' g, l) := by
                  unfold dueOf
                  rw [if_pos rm, es] <;> rfl
                rw [ft2 _ hd0] at main
                intro c13 H13 hc13 s13 h13
                exists ("wp", ())
                refine w_newT2 (newT fun t14 H14 ht14 s14 h14 => ?_)
                have sF := s712.trans (s13.trans s14)
                exact main t14 p7 c13 H14 (Same.free (s012.trans s13) ht14) (s07.trans sF) h14 (sF _ _ h7) (s14 _ _ h13)
            · have hd0 : dueOf k b first sp g s' = none := by
                unfold dueOf
                rw [if_neg (fun z => c (hrm.mpr z))]
              exists ("wq", ())
              exact ⟨_, _, _, rfl, ((s4.trans s47).trans s712), ft1 hd0⟩
          · rintro σ H4 ⟨t6, t7, t8, rfl, s4, e4⟩
            exists ("wq", ())
            rw [l3.len, List.take_length] at e4
            rw [e4] at main
            exact main _ (s03.trans s4)
end
end
/-! #### W19 -/
section
abbrev N_scCV : List Str := ["values", "index", "value", "least"]
theorem scCV : FnScope N_scCV ["values"] (defScope sCV) := ⟨rfl, rfl, rfl, by decide +kernel, rfl, by decide +kernel, by decide +kernel⟩
def spCV : Sp := fun vs H Q _ => ∃ (p : Addr) (a : List Int), vs = [.ref p] ∧ H p = some (.lst (VI a)) ∧ Up a ∧ 1 ≤ a.length ∧ a.length ≤ 1000 ∧ RetV .non H Q
abbrev N_scCP : List Str := ["places", "index", "place", "least", "most"]
theorem scCP : FnScope N_scCP ["places"] (defScope sCP) := ⟨rfl, rfl, rfl, by decide +kernel, rfl, by decide +kernel, by decide +kernel⟩
def Inc (ps : List Int) : Prop := ∀ i, i < ps.length → (if i = 0 then 0 else ps.getD (i - 1) 0 + 1) ≤ ps.getD i 0 ∧ ps.getD i 0 ≤ (if i = 0 then 1000000 else ps.getD (i - 1) 0 + 1000000)
def spCP : Sp := fun vs H Q _ => ∃ (p : Addr) (a : List Int), vs = [.ref p] ∧ H p = some (.lst (VI a)) ∧ Inc a ∧ a.length ≤ 500 ∧ RetV .non H Q
section
variable {P : Program} {w : World} {K : PySem.W.Frag} {mg : Str → Option Value} {base : Heap} {f : Addr} {fd : FuncData} {C : Addr}
theorem w_isLT {H : Hp} {Q : VK} {p t : Addr} {xs : List V} (hp : H p = some (.lst xs)) (ht : H t = some (.tup [.ty "list", .ty "tuple"])) (q : Q (.bl true) H) : rIsiT K [.ref p, .ref t] H Q :=
  ⟨.ref p, t, _, .type "list", [.type "list", .type "tuple"], true, rfl, ht, .cons (.ty _) (.cons (.ty _) .nil), tx_lst hp, kitAny_cons (b := true) (kit_ty (a := "list") (b := "list") (by decide +kernel)) (fun z => by cases z) (fun _ => rfl), q⟩
theorem ok_cv (F : FD K "check_values" "check_values" sCV f fd) (E : Glob K mg) (c_is_integer : CalK P w K mg base CX0 1 "is_integer" ["value", "low", "high"] 1 ["low", "high"] spInt) : FnOk P w K mg base CX0 2 f fd ["values"] spCV := by
  refine F.ok scCV (fun vs H Q E h => ?_) (fun cdv A outer s H vs Q _ hr h => ?_)
  · obtain ⟨p, a, rfl, _⟩ := h
    rfl
  · obtain ⟨p, a, rfl, hp, up, h1, h2, q⟩ := h
    refine ⟨_, PSs.nox (pss_cons (ps_if (PW.pt (pw_or (pt_not (pt_val (pe_callB (call_isiTK (K := K) rfl) (by rfl) E.n_isinstance PyProof.Rows.Boot.«isinstance» (pa_cons (pv 0) (pa_cons (pe_tup (pa_cons (pe_bltn (v := .ty "list") (by rfl) E.n_list PyProof.Rows.Boot.«list» rfl) (pa_cons (pe_bltn (v := .ty "tuple") (by rfl) E.n_tuple PyProof.Rows.Boot.«tuple» rfl) pa_nil))) pa_nil))))) (pw_or1 (pt_not (pt_chain op_le op_le pe_int (pe_callB (call_lenK (K := K) rfl) (by rfl) E.n_len PySem.boot_len (pa_cons (pv 0) pa_nil)) pe_int)))))
        (pss_one ps_never)
        pss_nil)
      (pss_one (ps_for PassesOwn.never rfl (pi_enumK (K := K) rfl (by rfl) E.n_enumerate (pa_cons (pv 0) pa_nil)) (pg_tupK (K := K) (n := 2) rfl rfl (pgs_cons (pg_name (i := 1) scCV.nd rfl (.inl rfl)) (pgs_cons (pg_name (i := 2) scCV.nd rfl (.inl rfl)) pgs_nil)))
        (pss_cons (ps_set (i := 3) scCV.nd rfl (.inl rfl) (pe_ifExp (pt_cmpR op_gt (pv 1) pe_int (nomark _)) (pe_ix (ix_listK (K := K) rfl) (pv 0) (pe_op op_sub (pv 1) pe_int) (fun _ _ => rfl)) pe_int))
        (pss_one (ps_if (pt_not (pt_val (pe_calK c_is_integer (hr.mono (by decide)) (pa_cons (pv 2) pa_nil) (pk_cons (pv 3) (pk_cons (pe_op op_add (pv 3) pe_int) pk_nil)))))
          (pss_one ps_never)
          pss_nil)))))), ?_⟩
    refine w_start (σ' := [some (.ref p), none, none, none]) rfl ?_
    exists ("wp", ())
    refine w_newT2 (newT fun t H1 ht s1 h3 => ?_)
    have hp1 := s1 _ _ hp
    exists ("wq", ())
    refine w_isLT hp1 h3 ?_
    exists ("wq", ())
    rw [List.length_map]
    refine w_itT (by omega) ?_
    exists ("wq", ())
    refine w_iteN (fun c => absurd (by omega) c) (fun _ => ?_)
    exists ("wq", ())
    refine ⟨p, VI a, rfl, SqL.of hp1, for_it (walk_enum (xs := VI a)) (fun i σ H' => ∃ t1 t2 t3, σ = [some (.ref p), t1, t2, t3] ∧ Same H H') ⟨_, _, _, rfl, s1⟩ ?_ ?_ ?_⟩
    · rintro i σ H2 _ ⟨t1, t2, t3, rfl, s2⟩
      exact SqL.of (s2 _ _ hp)
    · rintro i x σ H2 H3 hi ⟨t1, t2, t3, rfl, s2⟩ y
      obtain ⟨T, u, v, rfl, sy, hT, e1, e2⟩ := pair_in y
      obtain ⟨hi', rfl⟩ := vi_get e2
      cases Option.some.inj e1
      have hp3 : H3 p = some (.lst (VI a)) := sy _ _ (s2 _ _ hp)
      have u := up i hi'
      exists ("wq", ())
      refine w_ite (fun c => ?_) (fun c => ?_)
      · exists ("wq", ())
        refine w_ixI (ns := a) (SqL.of hp3) (by omega) (by omega) ?_
        obtain ⟨j, rfl⟩ : ∃ j, i = j + 1 := ⟨i - 1, by omega⟩
        rw [show (((j + 1 : Nat) : Int) - 1).toNat = j by omega]
        have u : a.getD (j + 1) 0 = a.getD j 0 ∨ a.getD (j + 1) 0 = a.getD j 0 + 1 := u
        exists ("wq", ())
        refine ⟨rfl, rfl, _, _, _, rfl, ?_⟩
        rw [decide_eq_true (show a.getD j 0 ≤ a.getD (j + 1) 0 ∧ a.getD (j + 1) 0 ≤ a.getD j 0 + 1 from by omega)]
        exists ("wq", ())
        exact ⟨_, _, _, rfl, (by exists ("sm", ()))⟩
      · obtain rfl : i = 0 := by omega
        have u : a.getD 0 0 = 0 ∨ a.getD 0 0 = 0 + 1 := u
        exists ("wq", ())
        refine ⟨rfl, rfl, _, _, _, rfl, ?_⟩
        rw [decide_eq_true (show 0 ≤ a.getD 0 0 ∧ a.getD 0 0 ≤ 0 + 1 from by omega)]
        exists ("wq", ())
        exact ⟨_, _, _, rfl, (by exists ("sm", ()))⟩
    · rintro σ H2 ⟨t1, t2, t3, rfl, s2⟩
      exists ("wq", ())
      exact q _ s2
theorem ok_cp (F : FD K "check_places" "check_places" sCP f fd) (E : Glob K mg) (c_is_integer : CalK P w K mg base CX0 1 "is_integer" ["value", "low", "high"] 1 ["low", "high"] spInt) : FnOk P w K mg base CX0 2 f fd ["places"] spCP := by
  refine F.ok scCP (fun vs H Q E h => ?_) (fun cdv A outer s H vs Q _ hr h => ?_)
  · obtain ⟨p, a, rfl, _⟩ := h
    rfl
  · obtain ⟨p, a, rfl, hp, up, h2, q⟩ := h
    refine ⟨_, PSs.nox (pss_cons (ps_if (PW.pt (pw_or (pt_not (pt_val (pe_callB (call_isiTK (K := K) rfl) (by rfl) E.n_isinstance PyProof.Rows.Boot.«isinstance» (pa_cons (pv 0) (pa_cons (pe_tup (pa_cons (pe_bltn (v := .ty "list") (by rfl) E.n_list PyProof.Rows.Boot.«list» rfl) (pa_cons (pe_bltn (v := .ty "tuple") (by rfl) E.n_tuple PyProof.Rows.Boot.«tuple» rfl) pa_nil))) pa_nil))))) (pw_or1 (pt_cmpR op_gt (pe_callB (call_lenK (K := K) rfl) (by rfl) E.n_len PySem.boot_len (pa_cons (pv 0) pa_nil)) pe_int (nomark _)))))
        (pss_one ps_never)
        pss_nil)
      (pss_one (ps_for PassesOwn.never rfl (pi_enumK (K := K) rfl (by rfl) E.n_enumerate (pa_cons (pv 0) pa_nil)) (pg_tupK (K := K) (n := 2) rfl rfl (pgs_cons (pg_name (i := 1) scCP.nd rfl (.inl rfl)) (pgs_cons (pg_name (i := 2) scCP.nd rfl (.inl rfl)) pgs_nil)))
        (pss_cons (ps_set (i := 3) scCP.nd rfl (.inl rfl) (pe_ifExp (pt_cmpR op_gt (pv 1) pe_int (nomark _)) (pe_op op_add (pe_ix (ix_listK (K := K) rfl) (pv 0) (pe_op op_sub (pv 1) pe_int) (fun _ _ => rfl)) pe_int) pe_int))
        (pss_cons (ps_set (i := 4) scCP.nd rfl (.inl rfl) (pe_ifExp (pt_cmpR op_gt (pv 1) pe_int (nomark _)) (pe_op op_add (pe_ix (ix_listK (K := K) rfl) (pv 0) (pe_op op_sub (pv 1) pe_int) (fun _ _ => rfl)) (pe_globI E.kMOST_LABELS)) (pe_globI E.kMOST_LABELS)))
        (pss_one (ps_if (pt_not (pt_val (pe_calK c_is_integer (hr.mono (by decide)) (pa_cons (pv 2) pa_nil) (pk_cons (pv 3) (pk_cons (pv 4) pk_nil)))))
          (pss_one ps_never)
          pss_nil))))))), ?_⟩
    refine w_start (σ' := [some (.ref p), none, none, none, none]) rfl ?_
    exists ("wp", ())
    refine w_newT2 (newT fun t H1 ht s1 h3 => ?_)
    have hp1 := s1 _ _ hp
    exists ("wq", ())
    refine w_isLT hp1 h3 ?_
    exists ("wq", ())
    rw [List.length_map]
    refine w_itF (by omega) ?_
    exists ("wq", ())
    refine ⟨p, VI a, rfl, SqL.of hp1, for_it (walk_enum (xs := VI a)) (fun i σ H' => ∃ t1 t2 t3 t4, σ = [some (.ref p), t1, t2, t3, t4] ∧ Same H H') ⟨_, _, _, _, rfl, s1⟩ ?_ ?_ ?_⟩
    · rintro i σ H2 _ ⟨t1, t2, t3, t4, rfl, s2⟩
      exact SqL.of (s2 _ _ hp)
    · rintro i x σ H2 H3 hi ⟨t1, t2, t3, t4, rfl, s2⟩ y
      obtain ⟨T, u, v, rfl, sy, hT, e1, e2⟩ := pair_in y
      obtain ⟨hi', rfl⟩ := vi_get e2
      cases Option.some.inj e1
      have hp3 : H3 p = some (.lst (VI a)) := sy _ _ (s2 _ _ hp)
      have u := up i hi'
      exists ("wq", ())
      refine w_ite (fun c => ?_) (fun c => ?_)
      · exists ("wq", ())
        refine w_ixI (ns := a) (SqL.of hp3) (by omega) (by omega) ?_
        rw [show ((i : Int) - 1).toNat = i - 1 by omega]
        rw [if_neg (by omega), if_neg (by omega)] at u
        exists ("wq", ())
        refine w_itT c ?_
        exists ("wq", ())
        refine w_ixI (ns := a) (SqL.of hp3) (by omega) (by omega) ?_
        rw [show ((i : Int) - 1).toNat = i - 1 by omega]
        exists ("wq", ())
        refine ⟨rfl, rfl, _, _, _, rfl, ?_⟩
        rw [decide_eq_true u]
        exists ("wq", ())
        exact ⟨_, _, _, _, rfl, (by exists ("sm", ()))⟩
      · obtain rfl : i = 0 := by omega
        rw [if_pos rfl, if_pos rfl] at u
        exists ("wq", ())
        refine w_itF c ?_
        exists ("wq", ())
        refine ⟨rfl, rfl, _, _, _, rfl, ?_⟩
        rw [decide_eq_true u]
        exists ("wq", ())
        exact ⟨_, _, _, _, rfl, (by exists ("sm", ()))⟩
    · rintro σ H2 ⟨t1, t2, t3, t4, rfl, s2⟩
      exists ("wq", ())
      exact q _ s2
end
end
/-! #### W20 -/
section
abbrev N_scGi : List Str := ["_law_way", "_law_x", "_law_y", "_law_some"]
theorem scGi : FnScope N_scGi ["_law_way", "_law_x", "_law_y"] (defScope sGi) := ⟨rfl, rfl, rfl, by decide +kernel, rfl, by decide +kernel, by decide +kernel⟩
def spL (way : Nat) (x y : Int) : List (Nat × Int) := [[], [], [], [(1, x)], [(2, y)], [(0, x)], [(1, y)], [(11, y)], [(3, x), (2, y)], [], [(1, y)], [], [(3, y), (2, x)]].getD way []
def gpL (way : Nat) (x y : Int) : List (Nat × Int) := [[], [(0, x + 1)], [(1, x)], [], [(1, x)], [(0, y + 1)], [(2, x)], [(11, x)], [], [(1, x), (2, y)], [(0, x + 1)], [(3, y), (10, x)], [(1, x), (2, y)]].getD way []
def spGi : Sp := fun vs H Q _ => ∃ (way : Nat) (x y : Int), vs = [.int (way : Int), .int x, .int y] ∧ way < 13 ∧ ∀ t d1 d2 H', Same H H' → H' t = some (.tup [.ref d1, .ref d2]) → H' d1 = some (.dK (kvI (spL way x y))) → H' d2 = some (.dK (kvI (gpL way x y))) → Q (.ref t) H'
section
variable {P : Program} {w : World} {K : PySem.W.Frag} {mg : Str → Option Value} {base : Heap} {f : Addr} {fd : FuncData} {C : Addr}
local macro_rules
  | `(tactic| exists ("gi", ())) => `(tactic| repeat first
    | exists ("wq1", ())
    | (with_reducible first
      | refine w_d1v (by with_unfolding_all rfl) (newD fun _ _ _ _ _ => ?_) | refine w_d1p (by with_unfolding_all rfl) (newD fun _ _ _ _ _ => ?_) | refine w_d2v (by decide) (by with_unfolding_all rfl) (by with_unfolding_all rfl) (newD fun _ _ _ _ _ => ?_)))
theorem ok_gi (F : FD K "_law_given" "_law_given" sGi f fd) (E : Glob K mg) : FnOk P w K mg base CX0 1 f fd ["_law_way", "_law_x", "_law_y"] spGi := by
  refine F.ok scGi (fun vs H Q E h => ?_) (fun cdv A outer s H vs Q _ hr h => ?_)
  · obtain ⟨way, x, y, rfl, _⟩ := h
    rfl
  · obtain ⟨way, x, y, rfl, hw, q⟩ := h
    refine ⟨_, PSs.nox (pss_cons (ps_set (i := 3) scGi.nd rfl (.inl rfl) (pe_lst (pa_cons (pe_tup (pa_cons pe_dnewK (pa_cons pe_dnewK pa_nil))) (pa_cons (pe_tup (pa_cons pe_dnewK (pa_cons (pe_disp (pps_cons pe_int (pe_op op_add (pv 1) pe_int) pps_nil) (by rfl) (by rfl) (fun z => by cases z) (by decide)) pa_nil))) (pa_cons (pe_tup (pa_cons pe_dnewK (pa_cons (pe_disp (pps_cons pe_int (pv 1) pps_nil) (by rfl) (by rfl) (fun z => by cases z) (by decide)) pa_nil))) (pa_cons (pe_tup (pa_cons (pe_disp (pps_cons pe_int (pv 1) pps_nil) (by rfl) (by rfl) (fun z => by cases z) (by decide)) (pa_cons pe_dnewK pa_nil))) (pa_cons (pe_tup (pa_cons (pe_disp (pps_cons pe_int (pv 2) pps_nil) (by rfl) (by rfl) (fun z => by cases z) (by decide)) (pa_cons (pe_disp (pps_cons pe_int (pv 1) pps_nil) (by rfl) (by rfl) (fun z => by cases z) (by decide)) pa_nil))) (pa_cons (pe_tup (pa_cons (pe_disp (pps_cons pe_int (pv 1) pps_nil) (by rfl) (by rfl) (fun z => by cases z) (by decide)) (pa_cons (pe_disp (pps_cons pe_int (pe_op op_add (pv 2) pe_int) pps_nil) (by rfl) (by rfl) (fun z => by cases z) (by decide)) pa_nil))) pa_nil))))))))
      (pss_cons (ps_set (i := 3) scGi.nd rfl (.inl rfl) (pe_op op_cat (pv 3) (pe_lst (pa_cons (pe_tup (pa_cons (pe_disp (pps_cons pe_int (pv 2) pps_nil) (by rfl) (by rfl) (fun z => by cases z) (by decide)) (pa_cons (pe_disp (pps_cons pe_int (pv 1) pps_nil) (by rfl) (by rfl) (fun z => by cases z) (by decide)) pa_nil))) (pa_cons (pe_tup (pa_cons (pe_disp (pps_cons pe_int (pv 2) pps_nil) (by rfl) (by rfl) (fun z => by cases z) (by decide)) (pa_cons (pe_disp (pps_cons pe_int (pv 1) pps_nil) (by rfl) (by rfl) (fun z => by cases z) (by decide)) pa_nil))) (pa_cons (pe_tup (pa_cons (pe_disp (pps_cons pe_int (pv 1) (pps_cons pe_int (pv 2) pps_nil)) (by rfl) (by rfl) (fun z => by cases z) (by decide)) (pa_cons pe_dnewK pa_nil))) (pa_cons (pe_tup (pa_cons pe_dnewK (pa_cons (pe_disp (pps_cons pe_int (pv 1) (pps_cons pe_int (pv 2) pps_nil)) (by rfl) (by rfl) (fun z => by cases z) (by decide)) pa_nil))) (pa_cons (pe_tup (pa_cons (pe_disp (pps_cons pe_int (pv 2) pps_nil) (by rfl) (by rfl) (fun z => by cases z) (by decide)) (pa_cons (pe_disp (pps_cons pe_int (pe_op op_add (pv 1) pe_int) pps_nil) (by rfl) (by rfl) (fun z => by cases z) (by decide)) pa_nil))) pa_nil))))))))
      (pss_one (ps_ret (pe_ix (ix_listK (K := K) rfl) (pe_op op_cat (pv 3) (pe_lst (pa_cons (pe_tup (pa_cons pe_dnewK (pa_cons (pe_disp (pps_cons pe_int (pv 2) (pps_cons pe_int (pv 1) pps_nil)) (by rfl) (by rfl) (fun z => by cases z) (by decide)) pa_nil))) (pa_cons (pe_tup (pa_cons (pe_disp (pps_cons pe_int (pv 2) (pps_cons pe_int (pv 1) pps_nil)) (by rfl) (by rfl) (fun z => by cases z) (by decide)) (pa_cons (pe_disp (pps_cons pe_int (pv 1) (pps_cons pe_int (pv 2) pps_nil)) (by rfl) (by rfl) (fun z => by cases z) (by decide)) pa_nil))) pa_nil)))) (pv 0) (fun _ _ => rfl)))))), ?_⟩
    refine w_start (σ' := [some (.int way), some (.int x), some (.int y), none]) rfl ?_
    exists ("gi", ())
    refine ⟨show 6 ≤ sizeLine by decide, newL fun l1 H1 hl1 s1 h1 => ?_⟩
    exists ("gi", ())
    refine ⟨show 5 ≤ sizeLine by decide, newL fun l2 H2 hl2 s2 h2 => ?_⟩
    exists ("gi", ())
    refine w_catL (by exists ("hp", ())) h2 (small_le (by simp)) fun l3 H3 hl3 s3 h3 => ?_
    exists ("gi", ())
    refine w_catL (by exists ("hp", ())) (by exists ("hp", ())) (small_le (by simp)) fun l4 H4 hl4 s4 h4 => ?_
    exists ("gi", ())
    obtain rfl | rfl | rfl | rfl | rfl | rfl | rfl | rfl | rfl | rfl | rfl | rfl | rfl : way = 0 ∨ way = 1 ∨ way = 2 ∨ way = 3 ∨ way = 4 ∨ way = 5 ∨ way = 6 ∨ way = 7 ∨ way = 8 ∨ way = 9 ∨ way = 10 ∨ way = 11 ∨ way = 12 := by omega
    · have q0 : ∀ t d1 d2 H', Same H H' → H' t = some (.tup [.ref d1, .ref d2]) → H' d1 = some (.dK []) → H' d2 = some (.dK []) → Q (.ref t) H' := q
      clear q
      refine w_ixL (SqL.of h4) rfl ?_
      apply q0 _ _ _ H4
      · exists ("sm", ())
      · exists ("hp", ())
      · exists ("hp", ())
      · exists ("hp", ())
    · have q0 : ∀ t d1 d2 H', Same H H' → H' t = some (.tup [.ref d1, .ref d2]) → H' d1 = some (.dK []) → H' d2 = some (.dK (([(0, x + 1)] : List (Int × Int)).map fun t => (.inl t.1, .int t.2))) → Q (.ref t) H' := q
      clear q
      refine w_ixL (SqL.of h4) rfl ?_
      apply q0 _ _ _ H4
      · exists ("sm", ())
      · exists ("hp", ())
      · exists ("hp", ())
      · exists ("hp", ())
    · have q0 : ∀ t d1 d2 H', Same H H' → H' t = some (.tup [.ref d1, .ref d2]) → H' d1 = some (.dK []) → H' d2 = some (.dK (([(1, x)] : List (Int × Int)).map fun t => (.inl t.1, .int t.2))) → Q (.ref t) H' := q
      clear q
      refine w_ixL (SqL.of h4) rfl ?_
      apply q0 _ _ _ H4
      · exists ("sm", ())
      · exists ("hp", ())
      · exists ("hp", ())
      · exists ("hp", ())
    · have q0 : ∀ t d1 d2 H', Same H H' → H' t = some (.tup [.ref d1, .ref d2]) → H' d1 = some (.dK (([(1, x)] : List (Int × Int)).map fun t => (.inl t.1, .int t.2))) → H' d2 = some (.dK []) → Q (.ref t) H' := q
      clear q
      refine w_ixL (SqL.of h4) rfl ?_
      apply q0 _ _ _ H4
      · exists ("sm", ())
      · exists ("hp", ())
      · exists ("hp", ())
      · exists ("hp", ())
    · have q0 : ∀ t d1 d2 H', Same H H' → H' t = some (.tup [.ref d1, .ref d2]) → H' d1 = some (.dK (([(2, y)] : List (Int × Int)).map fun t => (.inl t.1, .int t.2))) → H' d2 = some (.dK (([(1, x)] : List (Int × Int)).map fun t => (.inl t.1, .int t.2))) → Q (.ref t) H' := q
      clear q
      refine w_ixL (SqL.of h4) rfl ?_
      apply q0 _ _ _ H4
      · exists ("sm", ())
      · exists ("hp", ())
      · exists ("hp", ())
      · exists ("hp", ())
    · have q0 : ∀ t d1 d2 H', Same H H' → H' t = some (.tup [.ref d1, .ref d2]) → H' d1 = some (.dK (([(0, x)] : List (Int × Int)).map fun t => (.inl t.1, .int t.2))) → H' d2 = some (.dK (([(0, y + 1)] : List (Int × Int)).map fun t => (.inl t.1, .int t.2))) → Q (.ref t) H' := q
      clear q
      refine w_ixL (SqL.of h4) rfl ?_
      apply q0 _ _ _ H4
      · exists ("sm", ())
      · exists ("hp", ())
      · exists ("hp", ())
      · exists ("hp", ())
    · have q0 : ∀ t d1 d2 H', Same H H' → H' t = some (.tup [.ref d1, .ref d2]) → H' d1 = some (.dK (([(1, y)] : List (Int × Int)).map fun t => (.inl t.1, .int t.2))) → H' d2 = some (.dK (([(2, x)] : List (Int × Int)).map fun t => (.inl t.1, .int t.2))) → Q (.ref t) H' := q
      clear q
      refine w_ixL (SqL.of h4) rfl ?_
      apply q0 _ _ _ H4
      · exists ("sm", ())
      · exists ("hp", ())
      · exists ("hp", ())
      · exists ("hp", ())
    · have q0 : ∀ t d1 d2 H', Same H H' → H' t = some (.tup [.ref d1, .ref d2]) → H' d1 = some (.dK (([(11, y)] : List (Int × Int)).map fun t => (.inl t.1, .int t.2))) → H' d2 = some (.dK (([(11, x)] : List (Int × Int)).map fun t => (.inl t.1, .int t.2))) → Q (.ref t) H' := q
      clear q
      refine w_ixL (SqL.of h4) rfl ?_
      apply q0 _ _ _ H4
      · exists ("sm", ())
      · exists ("hp", ())
      · exists ("hp", ())
      · exists ("hp", ())
    · have q0 : ∀ t d1 d2 H', Same H H' → H' t = some (.tup [.ref d1, .ref d2]) → H' d1 = some (.dK (([(3, x), (2, y)] : List (Int × Int)).map fun t => (.inl t.1, .int t.2))) → H' d2 = some (.dK []) → Q (.ref t) H' := q
      clear q
      refine w_ixL (SqL.of h4) rfl ?_
      apply q0 _ _ _ H4
      · exists ("sm", ())
      · exists ("hp", ())
      · exists ("hp", ())
      · exists ("hp", ())
    · have q0 : ∀ t d1 d2 H', Same H H' → H' t = some (.tup [.ref d1, .ref d2]) → H' d1 = some (.dK []) → H' d2 = some (.dK (([(1, x), (2, y)] : List (Int × Int)).map fun t => (.inl t.1, .int t.2))) → Q (.ref t) H' := q
      clear q
      refine w_ixL (SqL.of h4) rfl ?_
      apply q0 _ _ _ H4
      · exists ("sm", ())
      · exists ("hp", ())
      · exists ("hp", ())
      · exists ("hp", ())
    · have q0 : ∀ t d1 d2 H', Same H H' → H' t = some (.tup [.ref d1, .ref d2]) → H' d1 = some (.dK (([(1, y)] : List (Int × Int)).map fun t => (.inl t.1, .int t.2))) → H' d2 = some (.dK (([(0, x + 1)] : List (Int × Int)).map fun t => (.inl t.1, .int t.2))) → Q (.ref t) H' := q
      clear q
      refine w_ixL (SqL.of h4) rfl ?_
      apply q0 _ _ _ H4
      · exists ("sm", ())
      · exists ("hp", ())
      · exists ("hp", ())
      · exists ("hp", ())
    · have q0 : ∀ t d1 d2 H', Same H H' → H' t = some (.tup [.ref d1, .ref d2]) → H' d1 = some (.dK []) → H' d2 = some (.dK (([(3, y), (10, x)] : List (Int × Int)).map fun t => (.inl t.1, .int t.2))) → Q (.ref t) H' := q
      clear q
      refine w_ixL (SqL.of h4) rfl ?_
      apply q0 _ _ _ H4
      · exists ("sm", ())
      · exists ("hp", ())
      · exists ("hp", ())
      · exists ("hp", ())
    · have q0 : ∀ t d1 d2 H', Same H H' → H' t = some (.tup [.ref d1, .ref d2]) → H' d1 = some (.dK (([(3, y), (2, x)] : List (Int × Int)).map fun t => (.inl t.1, .int t.2))) → H' d2 = some (.dK (([(1, x), (2, y)] : List (Int × Int)).map fun t => (.inl t.1, .int t.2))) → Q (.ref t) H' := q
      clear q
      refine w_ixL (SqL.of h4) rfl ?_
      apply q0 _ _ _ H4
      · exists ("sm", ())
      · exists ("hp", ())
      · exists ("hp", ())
      · exists ("hp", ())
end
end
/-! #### W21 -/
section
theorem bind_co (ks : List Str) (hks : ks ∈ ([[], ["w0"], ["w1"], ["d1"], ["d2", "w1"], ["w0", "d0"], ["d1", "w2"], ["w11", "d11"], ["d3", "d2"], ["w1", "w2"], ["w0", "d1"], ["w3", "w10"], ["w1", "d3", "w2", "d2"]] : List (List Str)))
    (kV doc pm : Value) (an : Option Addr) (cdv ct u : Value) (ws : List Value) (hl : ws.length = ks.length) :
      bindArgs (PySem.W.fnOf "completed" "PlaceFit.completed" (defArgs sCo) (defBody sCo) (defScope sCo) .none kV doc pm an cdv ct) ⟨[u], ks.zip ws⟩ = (do
        let d ← alloc { cls := .type "dict", data := .dict #[] }
        forIn (ks.zip ws) PUnit.unit fun y _ => (nsSet d y.1 y.2 >>= fun _ => pure (ForInStep.yield PUnit.unit))
        pure [("self", u), ("items", .ref d)]) := by
  simp only [List.mem_cons, List.not_mem_nil, or_false] at hks
  rcases hks with rfl | rfl | rfl | rfl | rfl | rfl | rfl | rfl | rfl | rfl | rfl | rfl | rfl
  · match ws, hl with | [], _ => rfl
  · match ws, hl with | [_], _ => rfl
  · match ws, hl with | [_], _ => rfl
  · match ws, hl with | [_], _ => rfl
  · match ws, hl with | [_, _], _ => rfl
  · match ws, hl with | [_, _], _ => rfl
  · match ws, hl with | [_, _], _ => rfl
  · match ws, hl with | [_, _], _ => rfl
  · match ws, hl with | [_, _], _ => rfl
  · match ws, hl with | [_, _], _ => rfl
  · match ws, hl with | [_, _], _ => rfl
  · match ws, hl with | [_, _], _ => rfl
  · match ws, hl with | [_, _, _, _], _ => rfl
end
/-! #### W22 -/
section
abbrev N_scLC : List Str := ["_law_fit", "_law_way", "_law_x", "_law_y"]
theorem scLC : FnScope N_scLC ["_law_fit", "_law_way", "_law_x", "_law_y"] (defScope sLC) := ⟨rfl, rfl, rfl, by decide +kernel, rfl, by decide +kernel, by decide +kernel⟩
abbrev KSS : List (List Str) := [[], ["w0"], ["w1"], ["d1"], ["d2", "w1"], ["w0", "d0"], ["d1", "w2"], ["w11", "d11"], ["d3", "d2"], ["w1", "w2"], ["w0", "d1"], ["w3", "w10"], ["w1", "d3", "w2", "d2"]]
def AnsV (K : PySem.W.Frag) (k : Int) (H : Hp) (v : V) : Option (List Int × List Int) → Prop
  | none => v = .non
  | some (lv, sp) => ∃ y, v = .ref y ∧ Sch K H y k sp lv
theorem AnsV.to {K : PySem.W.Frag} {k : Int} {H H' : Hp} {v : V} (s : Same H H') : ∀ {o : Option (List Int × List Int)}, AnsV K k H v o → AnsV K k H' v o
  | none, h => h
  | some (lv, sp), ⟨y, h1, h2⟩ => ⟨y, h1, h2.to s⟩
theorem ans_of {K : PySem.W.Frag} {k : Int} {H : Hp} {Q : VK} : ∀ {o : Option (List Int × List Int)}, (∀ v H', Same H H' → AnsV K k H' v o → Q v H') → Answer K k H Q o
  | none, h => fun H' s => h _ H' s rfl
  | some (lv, sp), h => fun y H' _ s sch => h _ H' s ⟨y, rfl, sch⟩
def itsW (way : Nat) (x y : Int) : Its := [[], [(false, 0, x + 1)], [(false, 1, x)], [(true, 1, x)], [(true, 2, y), (false, 1, x)], [(false, 0, y + 1), (true, 0, x)], [(true, 1, y), (false, 2, x)], [(false, 11, x), (true, 11, y)], [(true, 3, x), (true, 2, y)], [(false, 1, x), (false, 2, y)], [(false, 0, x + 1), (true, 1, y)], [(false, 3, y), (false, 10, x)], [(false, 1, x), (true, 3, y), (false, 2, y), (true, 2, x)]].getD way []
theorem way_cases {way : Nat} (h : way < 13) : way = 0 ∨ way = 1 ∨ way = 2 ∨ way = 3 ∨ way = 4 ∨ way = 5 ∨ way = 6 ∨ way = 7 ∨ way = 8 ∨ way = 9 ∨ way = 10 ∨ way = 11 ∨ way = 12 := by omega
theorem sp_way {way : Nat} (h : way < 13) (x y : Int) : spG (itsW way x y) = ofL (spL way x y) := by
  funext i
  rcases way_cases h with rfl | rfl | rfl | rfl | rfl | rfl | rfl | rfl | rfl | rfl | rfl | rfl | rfl <;> simp [itsW, spL, itOf, addIt, ofL, List.find?_cons, eq_comm] <;> (try split) <;> (try split) <;> simp_all
theorem gp_way {way : Nat} (h : way < 13) (x y : Int) : gpG (itsW way x y) = ofL (gpL way x y) := by
  funext i
  rcases way_cases h with rfl | rfl | rfl | rfl | rfl | rfl | rfl | rfl | rfl | rfl | rfl | rfl | rfl <;> simp [itsW, gpL, itOf, addIt, ofL, List.find?_cons, eq_comm] <;> (try split) <;> (try split) <;> simp_all
theorem itsW_ok {way : Nat} {x y : Int} (h : way < 13) (hx : 0 ≤ x) (hx3 : x ≤ 3) (hy : 0 ≤ y) (hy3 : y ≤ 3) : ∀ t ∈ itsW way x y, ItOk t := by
  rcases way_cases h with rfl | rfl | rfl | rfl | rfl | rfl | rfl | rfl | rfl | rfl | rfl | rfl | rfl <;> simp [itsW, ItOk] <;> omega
section
variable {P : Program} {w : World} {K : PySem.W.Frag} {mg : Str → Option Value} {base : Heap} {f : Addr} {fd : FuncData} {C : Addr}
theorem call_co {H : Hp} {Q : VK} {ks : List Str} {zs : List V} {its : Its} {a : Addr} {ps b : List Int} {k : Nat} {rest : Int} (e : kvS ks zs = kvOf its) (hits : its.length ≤ 15) (ok : ∀ t ∈ its, ItOk t) (fit : Fit K H C a ps k rest b) (hk : 2 ≤ k) (hk9 : k ≤ 9) (hl : b.length ≤ 19)
    (good : ∀ lv sp, completed k b rest (firstOf ps rest) (mostOf ps) (spG its) (gpG its) = some (lv, sp) → Good lv sp)
    (q : ∀ v H', Same H H' → AnsV K (k : Int) H' v (completed k b rest (firstOf ps rest) (mostOf ps) (spG its) (gpG its)) → Q v H') : ∀ d, H d = none → spCo K C [.ref a, .ref d] (upd H d (.dK (kvS ks zs))) Q E0 := by
  intro d hd
  have s1 : Same H (upd H d (.dK (kvS ks zs))) := Same.new hd
  refine ⟨a, d, ps, k, rest, b, its, rfl, fit.to s1, by rw [upd_same, e], hits, ok, hk, hk9, hl, good, ans_of fun v H' s2 an => q v H' (s1.trans s2) an⟩
def spLC (K : PySem.W.Frag) (C : Addr) : Sp := fun vs H Q _ => ∃ (a : Addr) (ps b : List Int) (k : Nat) (rest : Int) (way : Nat) (x y : Int), vs = [.ref a, .int (way : Int), .int x, .int y] ∧ Fit K H C a ps k rest b ∧ 2 ≤ k ∧ k ≤ 9 ∧ b.length ≤ 19 ∧ way < 13 ∧ (0 ≤ x ∧ x ≤ 3 ∧ 0 ≤ y ∧ y ≤ 3) ∧
  (∀ way', way' < 13 → ∀ lv sp, completed k b rest (firstOf ps rest) (mostOf ps) (ofL (spL way' x y)) (ofL (gpL way' x y)) = some (lv, sp) → Good lv sp) ∧
  ∀ v H', Same H H' → AnsV K (k : Int) H' v (completed k b rest (firstOf ps rest) (mostOf ps) (ofL (spL way x y)) (ofL (gpL way x y))) → Q v H'
theorem ok_lc (F : FD K "_law_completed" "_law_completed" sLC f fd) (E : Glob K mg) (FC : FitC K C) (c_completed : ∃ g, Meth K C "completed" g ∧ ∀ ks ∈ KSS, FnKw P w K mg base 6 g ks (spCo K C)) : FnOk P w K mg base CX0 7 f fd ["_law_fit", "_law_way", "_law_x", "_law_y"] (spLC K C) := by
  obtain ⟨gco, Mco, Fco⟩ := c_completed
  refine F.ok scLC (fun vs H Q E h => ?_) (fun cdv A outer s H vs Q _ hr h => ?_)
  · obtain ⟨a, ps, b, k, rest, way, x, y, rfl, _⟩ := h
    rfl
  · obtain ⟨a, ps, b, k, rest, way, x, y, rfl, ⟨dx, tp, lb, fit⟩, hk, hk9, hl, hw, ⟨hx, hx3, hy, hy3⟩, good, q⟩ := h
    refine ⟨_, PSs.nox (pss_cons (ps_if (pt_cmpR op_lt (pv 1) pe_int (nomark _))
        (pss_one (ps_ret (pe_ix (ix_listK (K := K) rfl) (pe_lst (pa_cons (pe_kwM (ks := []) (pv 0) FC.cls Mco (Fco _ (by decide)) (hr.mono (by decide)) pk_nil) (pa_cons (pe_kwM (ks := ["w0"]) (pv 0) FC.cls Mco (Fco _ (by decide)) (hr.mono (by decide)) (pk_cons (pe_op op_add (pv 2) pe_int) pk_nil)) (pa_cons (pe_kwM (ks := ["w1"]) (pv 0) FC.cls Mco (Fco _ (by decide)) (hr.mono (by decide)) (pk_cons (pv 2) pk_nil)) pa_nil)))) (pv 1) (fun _ _ => rfl))))
        pss_nil)
      (pss_cons (ps_if (pt_cmpR op_lt (pv 1) pe_int (nomark _))
        (pss_one (ps_ret (pe_ix (ix_listK (K := K) rfl) (pe_lst (pa_cons (pe_kwM (ks := ["d1"]) (pv 0) FC.cls Mco (Fco _ (by decide)) (hr.mono (by decide)) (pk_cons (pv 2) pk_nil)) (pa_cons (pe_kwM (ks := ["d2", "w1"]) (pv 0) FC.cls Mco (Fco _ (by decide)) (hr.mono (by decide)) (pk_cons (pv 3) (pk_cons (pv 2) pk_nil))) (pa_cons (pe_kwM (ks := ["w0", "d0"]) (pv 0) FC.cls Mco (Fco _ (by decide)) (hr.mono (by decide)) (pk_cons (pe_op op_add (pv 3) pe_int) (pk_cons (pv 2) pk_nil))) pa_nil)))) (pe_op op_sub (pv 1) pe_int) (fun _ _ => rfl))))
        pss_nil)
      (pss_cons (ps_if (pt_cmpR op_lt (pv 1) pe_int (nomark _))
        (pss_one (ps_ret (pe_ix (ix_listK (K := K) rfl) (pe_lst (pa_cons (pe_kwM (ks := ["d1", "w2"]) (pv 0) FC.cls Mco (Fco _ (by decide)) (hr.mono (by decide)) (pk_cons (pv 3) (pk_cons (pv 2) pk_nil))) (pa_cons (pe_kwM (ks := ["w11", "d11"]) (pv 0) FC.cls Mco (Fco _ (by decide)) (hr.mono (by decide)) (pk_cons (pv 2) (pk_cons (pv 3) pk_nil))) (pa_cons (pe_kwM (ks := ["d3", "d2"]) (pv 0) FC.cls Mco (Fco _ (by decide)) (hr.mono (by decide)) (pk_cons (pv 2) (pk_cons (pv 3) pk_nil))) pa_nil)))) (pe_op op_sub (pv 1) pe_int) (fun _ _ => rfl))))
        pss_nil)
      (pss_cons (ps_if (pt_cmpR op_lt (pv 1) pe_int (nomark _))
        (pss_one (ps_ret (pe_ix (ix_listK (K := K) rfl) (pe_lst (pa_cons (pe_kwM (ks := ["w1", "w2"]) (pv 0) FC.cls Mco (Fco _ (by decide)) (hr.mono (by decide)) (pk_cons (pv 2) (pk_cons (pv 3) pk_nil))) (pa_cons (pe_kwM (ks := ["w0", "d1"]) (pv 0) FC.cls Mco (Fco _ (by decide)) (hr.mono (by decide)) (pk_cons (pe_op op_add (pv 2) pe_int) (pk_cons (pv 3) pk_nil))) (pa_cons (pe_kwM (ks := ["w3", "w10"]) (pv 0) FC.cls Mco (Fco _ (by decide)) (hr.mono (by decide)) (pk_cons (pv 3) (pk_cons (pv 2) pk_nil))) pa_nil)))) (pe_op op_sub (pv 1) pe_int) (fun _ _ => rfl))))
        pss_nil)
      (pss_one (ps_ret (pe_kwM (ks := ["w1", "d3", "w2", "d2"]) (pv 0) FC.cls Mco (Fco _ (by decide)) (hr.mono (by decide)) (pk_cons (pv 2) (pk_cons (pv 3) (pk_cons (pv 3) (pk_cons (pv 2) pk_nil))))))))))), ?_⟩
    refine w_start (σ' := [some (.ref a), some (.int way), some (.int x), some (.int y)]) rfl ?_
    exists ("wp", ())
    refine w_ite (fun c0 => ?_) (fun c0 => ?_)
    · exists ("wp", ())
      refine ⟨a, dx, _, rfl, (FitAt.to (by exists ("sm", ())) fit).x, rfl, ?_⟩
      exists ("wq", ())
      refine ⟨rfl, call_co (its := itsW 0 x y) rfl (show 0 ≤ 15 by decide) (itsW_ok (way := 0) (by omega) hx hx3 hy hy3) (Fit.to (by exists ("sm", ())) ⟨dx, tp, lb, fit⟩) hk hk9 hl (by rw [sp_way (way := 0) (by omega), gp_way (way := 0) (by omega)]; exact good 0 (by omega)) fun v0 H1 s0 a0 => ?_⟩
      rw [sp_way (way := 0) (by omega), gp_way (way := 0) (by omega)] at a0
      exists ("wq", ())
      refine ⟨a, dx, _, rfl, (FitAt.to (by exists ("sm", ())) fit).x, rfl, ?_⟩
      exists ("wq", ())
      refine ⟨rfl, call_co (its := itsW 1 x y) rfl (show 1 ≤ 15 by decide) (itsW_ok (way := 1) (by omega) hx hx3 hy hy3) (Fit.to (by exists ("sm", ())) ⟨dx, tp, lb, fit⟩) hk hk9 hl (by rw [sp_way (way := 1) (by omega), gp_way (way := 1) (by omega)]; exact good 1 (by omega)) fun v1 H2 s1 a1 => ?_⟩
      rw [sp_way (way := 1) (by omega), gp_way (way := 1) (by omega)] at a1
      exists ("wq", ())
      refine ⟨a, dx, _, rfl, (FitAt.to (by exists ("sm", ())) fit).x, rfl, ?_⟩
      exists ("wq", ())
      refine ⟨rfl, call_co (its := itsW 2 x y) rfl (show 1 ≤ 15 by decide) (itsW_ok (way := 2) (by omega) hx hx3 hy hy3) (Fit.to (by exists ("sm", ())) ⟨dx, tp, lb, fit⟩) hk hk9 hl (by rw [sp_way (way := 2) (by omega), gp_way (way := 2) (by omega)]; exact good 2 (by omega)) fun v2 H3 s2 a2 => ?_⟩
      rw [sp_way (way := 2) (by omega), gp_way (way := 2) (by omega)] at a2
      exists ("wp", ())
      refine w_newL3 (newL fun l1 G hl1 sG hG => ?_)
      exists ("wq", ())
      rcases (show way = 0 ∨ way = 1 ∨ way = 2 by omega) with rfl | rfl | rfl
      · refine w_ixL (i := 0) (SqL.of hG) rfl ?_
        exact q v0 G (by exists ("sm", ())) (a0.to (by exists ("sm", ())))
      · refine w_ixL (i := 1) (SqL.of hG) rfl ?_
        exact q v1 G (by exists ("sm", ())) (a1.to (by exists ("sm", ())))
      · refine w_ixL (i := 2) (SqL.of hG) rfl ?_
        exact q v2 G (by exists ("sm", ())) (a2.to (by exists ("sm", ())))
    · exists ("wp", ())
      refine w_ite (fun c1 => ?_) (fun c1 => ?_)
      · exists ("wp", ())
        refine ⟨a, dx, _, rfl, (FitAt.to (by exists ("sm", ())) fit).x, rfl, ?_⟩
        exists ("wq", ())
        refine ⟨rfl, call_co (its := itsW 3 x y) rfl (show 1 ≤ 15 by decide) (itsW_ok (way := 3) (by omega) hx hx3 hy hy3) (Fit.to (by exists ("sm", ())) ⟨dx, tp, lb, fit⟩) hk hk9 hl (by rw [sp_way (way := 3) (by omega), gp_way (way := 3) (by omega)]; exact good 3 (by omega)) fun v3 H4 s3 a3 => ?_⟩
        rw [sp_way (way := 3) (by omega), gp_way (way := 3) (by omega)] at a3
        exists ("wq", ())
        refine ⟨a, dx, _, rfl, (FitAt.to (by exists ("sm", ())) fit).x, rfl, ?_⟩
        exists ("wq", ())
        refine ⟨rfl, call_co (its := itsW 4 x y) rfl (show 2 ≤ 15 by decide) (itsW_ok (way := 4) (by omega) hx hx3 hy hy3) (Fit.to (by exists ("sm", ())) ⟨dx, tp, lb, fit⟩) hk hk9 hl (by rw [sp_way (way := 4) (by omega), gp_way (way := 4) (by omega)]; exact good 4 (by omega)) fun v4 H5 s4 a4 => ?_⟩
        rw [sp_way (way := 4) (by omega), gp_way (way := 4) (by omega)] at a4
        exists ("wq", ())
        refine ⟨a, dx, _, rfl, (FitAt.to (by exists ("sm", ())) fit).x, rfl, ?_⟩
        exists ("wq", ())
        refine ⟨rfl, call_co (its := itsW 5 x y) rfl (show 2 ≤ 15 by decide) (itsW_ok (way := 5) (by omega) hx hx3 hy hy3) (Fit.to (by exists ("sm", ())) ⟨dx, tp, lb, fit⟩) hk hk9 hl (by rw [sp_way (way := 5) (by omega), gp_way (way := 5) (by omega)]; exact good 5 (by omega)) fun v5 H6 s5 a5 => ?_⟩
        rw [sp_way (way := 5) (by omega), gp_way (way := 5) (by omega)] at a5
        exists ("wp", ())
        refine w_newL3 (newL fun l1 G hl1 sG hG => ?_)
        exists ("wq", ())
        rcases (show way = 3 ∨ way = 4 ∨ way = 5 by omega) with rfl | rfl | rfl
        · refine w_ixL (i := 0) (SqL.of hG) rfl ?_
          exact q v3 G (by exists ("sm", ())) (a3.to (by exists ("sm", ())))
        · refine w_ixL (i := 1) (SqL.of hG) rfl ?_
          exact q v4 G (by exists ("sm", ())) (a4.to (by exists ("sm", ())))
        · refine w_ixL (i := 2) (SqL.of hG) rfl ?_
          exact q v5 G (by exists ("sm", ())) (a5.to (by exists ("sm", ())))
      · exists ("wp", ())
        refine w_ite (fun c2 => ?_) (fun c2 => ?_)
        · exists ("wp", ())
          refine ⟨a, dx, _, rfl, (FitAt.to (by exists ("sm", ())) fit).x, rfl, ?_⟩
          exists ("wq", ())
          refine ⟨rfl, call_co (its := itsW 6 x y) rfl (show 2 ≤ 15 by decide) (itsW_ok (way := 6) (by omega) hx hx3 hy hy3) (Fit.to (by exists ("sm", ())) ⟨dx, tp, lb, fit⟩) hk hk9 hl (by rw [sp_way (way := 6) (by omega), gp_way (way := 6) (by omega)]; exact good 6 (by omega)) fun v6 H7 s6 a6 => ?_⟩
          rw [sp_way (way := 6) (by omega), gp_way (way := 6) (by omega)] at a6
          exists ("wq", ())
          refine ⟨a, dx, _, rfl, (FitAt.to (by exists ("sm", ())) fit).x, rfl, ?_⟩
          exists ("wq", ())
          refine ⟨rfl, call_co (its := itsW 7 x y) rfl (show 2 ≤ 15 by decide) (itsW_ok (way := 7) (by omega) hx hx3 hy hy3) (Fit.to (by exists ("sm", ())) ⟨dx, tp, lb, fit⟩) hk hk9 hl (by rw [sp_way (way := 7) (by omega), gp_way (way := 7) (by omega)]; exact good 7 (by omega)) fun v7 H8 s7 a7 => ?_⟩
          rw [sp_way (way := 7) (by omega), gp_way (way := 7) (by omega)] at a7
          exists ("wq", ())
          refine ⟨a, dx, _, rfl, (FitAt.to (by exists ("sm", ())) fit).x, rfl, ?_⟩
          exists ("wq", ())
          refine ⟨rfl, call_co (its := itsW 8 x y) rfl (show 2 ≤ 15 by decide) (itsW_ok (way := 8) (by omega) hx hx3 hy hy3) (Fit.to (by exists ("sm", ())) ⟨dx, tp, lb, fit⟩) hk hk9 hl (by rw [sp_way (way := 8) (by omega), gp_way (way := 8) (by omega)]; exact good 8 (by omega)) fun v8 H9 s8 a8 => ?_⟩
          rw [sp_way (way := 8) (by omega), gp_way (way := 8) (by omega)] at a8
          exists ("wp", ())
          refine w_newL3 (newL fun l1 G hl1 sG hG => ?_)
          exists ("wq", ())
          rcases (show way = 6 ∨ way = 7 ∨ way = 8 by omega) with rfl | rfl | rfl
          · refine w_ixL (i := 0) (SqL.of hG) rfl ?_
            exact q v6 G (by exists ("sm", ())) (a6.to (by exists ("sm", ())))
          · refine w_ixL (i := 1) (SqL.of hG) rfl ?_
            exact q v7 G (by exists ("sm", ())) (a7.to (by exists ("sm", ())))
          · refine w_ixL (i := 2) (SqL.of hG) rfl ?_
            exact q v8 G (by exists ("sm", ())) (a8.to (by exists ("sm", ())))
        · exists ("wp", ())
          refine w_ite (fun c3 => ?_) (fun c3 => ?_)
          · exists ("wp", ())
            refine ⟨a, dx, _, rfl, (FitAt.to (by exists ("sm", ())) fit).x, rfl, ?_⟩
            exists ("wq", ())
            refine ⟨rfl, call_co (its := itsW 9 x y) rfl (show 2 ≤ 15 by decide) (itsW_ok (way := 9) (by omega) hx hx3 hy hy3) (Fit.to (by exists ("sm", ())) ⟨dx, tp, lb, fit⟩) hk hk9 hl (by rw [sp_way (way := 9) (by omega), gp_way (way := 9) (by omega)]; exact good 9 (by omega)) fun v9 H10 s9 a9 => ?_⟩
            rw [sp_way (way := 9) (by omega), gp_way (way := 9) (by omega)] at a9
            exists ("wq", ())
            refine ⟨a, dx, _, rfl, (FitAt.to (by exists ("sm", ())) fit).x, rfl, ?_⟩
            exists ("wq", ())
            refine ⟨rfl, call_co (its := itsW 10 x y) rfl (show 2 ≤ 15 by decide) (itsW_ok (way := 10) (by omega) hx hx3 hy hy3) (Fit.to (by exists ("sm", ())) ⟨dx, tp, lb, fit⟩) hk hk9 hl (by rw [sp_way (way := 10) (by omega), gp_way (way := 10) (by omega)]; exact good 10 (by omega)) fun v10 H11 s10 a10 => ?_⟩
            rw [sp_way (way := 10) (by omega), gp_way (way := 10) (by omega)] at a10
            exists ("wq", ())
            refine ⟨a, dx, _, rfl, (FitAt.to (by exists ("sm", ())) fit).x, rfl, ?_⟩
            exists ("wq", ())
            refine ⟨rfl, call_co (its := itsW 11 x y) rfl (show 2 ≤ 15 by decide) (itsW_ok (way := 11) (by omega) hx hx3 hy hy3) (Fit.to (by exists ("sm", ())) ⟨dx, tp, lb, fit⟩) hk hk9 hl (by rw [sp_way (way := 11) (by omega), gp_way (way := 11) (by omega)]; exact good 11 (by omega)) fun v11 H12 s11 a11 => ?_⟩
            rw [sp_way (way := 11) (by omega), gp_way (way := 11) (by omega)] at a11
            exists ("wp", ())
            refine w_newL3 (newL fun l1 G hl1 sG hG => ?_)
            exists ("wq", ())
            rcases (show way = 9 ∨ way = 10 ∨ way = 11 by omega) with rfl | rfl | rfl
            · refine w_ixL (i := 0) (SqL.of hG) rfl ?_
              exact q v9 G (by exists ("sm", ())) (a9.to (by exists ("sm", ())))
            · refine w_ixL (i := 1) (SqL.of hG) rfl ?_
              exact q v10 G (by exists ("sm", ())) (a10.to (by exists ("sm", ())))
            · refine w_ixL (i := 2) (SqL.of hG) rfl ?_
              exact q v11 G (by exists ("sm", ())) (a11.to (by exists ("sm", ())))
          · exists ("wp", ())
            obtain rfl : way = 12 := by omega
            refine ⟨a, dx, _, rfl, (FitAt.to (by exists ("sm", ())) fit).x, rfl, ?_⟩
            exists ("wq", ())
            refine ⟨rfl, call_co (its := itsW 12 x y) rfl (show 4 ≤ 15 by decide) (itsW_ok (way := 12) (by omega) hx hx3 hy hy3) (Fit.to (by exists ("sm", ())) ⟨dx, tp, lb, fit⟩) hk hk9 hl (by rw [sp_way (way := 12) (by omega), gp_way (way := 12) (by omega)]; exact good 12 (by omega)) fun v12 H1 s12 a12 => ?_⟩
            rw [sp_way (way := 12) (by omega), gp_way (way := 12) (by omega)] at a12
            exact q v12 H1 (by exists ("sm", ())) a12
end
end
/-! #### W23 -/
section
abbrev N_scEC : List Str := ["bounds", "arity", "plain", "tops", "number", "height", "exponent", "other", "bound", "triple"]
theorem scEC : GScope N_scEC ["bounds", "arity"] (defScope sEC) := ⟨rfl, rfl, rfl, by decide +kernel, rfl, by decide +kernel, by decide +kernel⟩
/-- the scope that the inner comprehension stands in -/
abbrev sInner : Scope := { kind := .function, names := [(".0", .local), ("height", .cell), ("max", .globalImplicit), ("plain", .cell)], isGenerator := false, isCoroutine := false }
/-! ### readings of a generator's body -/
section
variable {σ : L2.St} {H : Hp} {D : Ends} {yl : VK} {t u : TY} {c : TT} {te : TE} {wi : TI} {g : TG} {ts : TS}
theorem w_yps (q : ts D σ H) : tYP ts D yl σ H := q
theorem w_ythen (q : tSeq (fun D => t D yl) (fun D => u D yl) D σ H) : tYThen t u D yl σ H := q
theorem w_yif (q : tIfS c (fun D => t D yl) (fun D => u D yl) D σ H) : tYIf c t u D yl σ H := q
theorem w_yfor (q : tFor wi g (fun D => t D yl) D σ H) : tYFor wi g t D yl σ H := q
theorem w_yyield (q : te σ H yl) : tYYield te D yl σ H := q
theorem w_y0 (q : D.nx σ H) : tY0 D yl σ H := q
end
theorem for_itY {J : It} {n : Nat} {G : Hp → Prop} {Y : Nat → Hp → V → Hp → Prop} (w : Walk J n G Y) {g : TG} {tb : TY} {D : Ends} {yl : VK} {σ : L2.St} {H : Hp} (Pv : Nat → L2.St → Hp → Prop) (h0 : Pv 0 σ H) (hG : ∀ i σ H, i ≤ n → Pv i σ H → G H)
    (hs : ∀ i x σ H H', i < n → Pv i σ H → Y i H x H' → g x σ H' fun σ2 H2 => tb { D with nx := Pv (i + 1), ct := Pv (i + 1), bk := D.nx } yl σ2 H2) (hd : ∀ σ H, Pv n σ H → D.nx σ H) :
    ∃ W : Nat → Nat → L2.St → Hp → Prop, (∃ m, W 0 m σ H) ∧ ∀ i m σ H, W i m σ H →
      (J.stop i H ∧ D.nx σ H) ∨ (J.go i H ∧ ∃ N : L2.St → Hp → Prop, (∀ σ' H', N σ' H' → ∃ m', m' < m ∧ W (i + 1) m' σ' H') ∧ ∀ x H', J.yld i H x H' → g x σ H' fun σ2 H2 => tb { D with nx := N, ct := N, bk := D.nx } yl σ2 H2) :=
  for_it (tb := fun D => tb D yl) w Pv h0 hG hs hd
local macro_rules
  | `(tactic| exists ("yq", ())) => `(tactic| repeat first
    | exists ("wq1", ())
    | with_reducible first | apply w_yps | apply w_ythen | apply w_yif | apply w_yfor | apply w_yyield | apply w_y0)
/-! ### conflicts -/
def Conf (k : Nat) (b : List Int) : Prop := ∃ n, 1 ≤ n ∧ n < b.length ∧ ∃ l ∈ plains k b, l.1 ≤ expo k n ∧ b.getD (n - 1) 0 < l.2.2
def topAt (k : Nat) (b : List Int) (h : Nat) : Int := (((plains k b).filter fun l => decide (l.1 ≤ h)).map fun l => l.2.2).foldl max 0
theorem foldmax_ge : ∀ (ns : List Int) (a x : Int), x ≤ a ∨ x ∈ ns → x ≤ ns.foldl max a
  | [], a, x, h => by
    rcases h with h | h
    · exact h
    · cases h
  | n :: r, a, x, h => by
    refine foldmax_ge r (max a n) x ?_
    rcases h with h | h
    · exact .inl (by omega)
    · rcases List.mem_cons.mp h with h | h
      · exact .inl (by omega)
      · exact .inr h
theorem topAt_ge {k : Nat} {b : List Int} {h : Nat} {l : Nat × Nat × Int} (hl : l ∈ plains k b) (he : l.1 ≤ h) : l.2.2 ≤ topAt k b h :=
  foldmax_ge _ 0 _ (.inr (List.mem_map_of_mem (f := fun l : Nat × Nat × Int => l.2.2) (List.mem_filter.mpr ⟨hl, decide_eq_true he⟩)))
theorem plains_len (k : Nat) (b : List Int) : (plains k b).length ≤ b.length := by
  unfold plains plainsN
  rw [List.length_map]
  have := List.length_filter_le (fun i => decide (core k (i + 1) ≠ 1)) (List.range b.length)
  rwa [List.length_range] at this
def spEC : SpY := fun vs H QE QY => ∃ (p : Addr) (b : List Int) (k : Nat), vs = [.ref p, .int (k : Int)] ∧ H p = some (.lst (VI b)) ∧ b.length ≤ 19 ∧ 2 ≤ k ∧ k ≤ 9 ∧
  (¬ Conf k b → ∀ H', Same H H' → QE H') ∧ (Conf k b → ∀ t n o H', Same H H' → H' t = some (.tup [.int n, .int o]) → QY (.ref t) H')
section
variable {P : Program} {w : World} {K : PySem.W.Frag} {mg : Str → Option Value} {base : Heap} {f : Addr} {fd : FuncData}
theorem ok_ec (F : FunD K "each_conflict" "each_conflict" (defArgs sEC) (defBody sEC) (defScope sEC) [] [] f fd) (E : Glob K mg) (c_split_number : Cal P w K mg base CX0 1 "split_number" ["number", "arity"] spSpl)
    (c_plain_numbers : Cal P w K mg base CX0 2 "plain_numbers" ["bounds", "arity"] spPn) : FnY P w K mg base 3 f fd ["bounds", "arity"] spEC := by
  refine fnY_of F scEC (fun vs H QE QY h => ?_) (fun cdv A outer s H vs QE QY pn hr h => ?_)
  · obtain ⟨p, b, k, rfl, _⟩ := h
    rfl
  · obtain ⟨p, b, k, rfl, hp, hl, hk, hk9, qE, qY⟩ := h
    refine ⟨_, yss_cons (ys_ps (fun _ _ h => h) (ps_set (i := 2) scEC.nd rfl (.inr rfl) (pe_cal c_plain_numbers (hr.mono (by decide)) (pa_cons (pv 0) (pa_cons (pv 1) pa_nil)))))
      (yss_cons (ys_ps (fun _ _ h => h) (ps_setLc (i := 3) (own := [("height", 5)]) rfl scEC.nd rfl rfl (sw_true rfl rfl rfl (by decide +kernel)) (pi_range1 (by rfl) E.n_range (pa_cons (pe_globI E.kITEM_COUNT) pa_nil)) (blkOk_by (N := N_scEC) (sc := defScope sEC) (by decide +kernel))
          (fun _ _ _ _ _ => pg_name (i := 5) scEC.nd rfl (.inr rfl) (.inl rfl)) (fun _ _ _ _ _ => pts_nil)
          (fun _ _ _ _ _ => pe_callB (cr_maxK (K := K) rfl rfl) (by rfl) E.n_max PyProof.Rows.Boot.«max» (pa_cons (pe_op op_cat (pe_lst (pa_cons pe_int pa_nil))
            (pe_lc (own := [("triple", 9)]) rfl scEC.nd (pi_listK (K := K) rfl (pv 2)) (blkOk_by (N := N_scEC) (sc := sInner) (by decide +kernel)) (fun _ _ _ _ _ => pg_name (i := 9) scEC.nd rfl (.inl rfl) (.inr rfl))
              (fun _ _ _ _ _ => pts_one (pt_cmpR op_le (pe_ix (ix_tupK (K := K) rfl) (pv 9) pe_int (fun _ _ => rfl)) (pv 5) (nomark _))) (fun _ _ _ _ _ => pe_ix (ix_tupK (K := K) rfl) (pv 9) pe_int (fun _ _ => rfl)))) pa_nil))))
      (yss_one (ys_for (fun _ _ h => h) rfl (pi_range2 (by rfl) E.n_range (pa_cons pe_int (pa_cons (pe_callB (call_lenK (K := K) rfl) (by rfl) E.n_len PySem.boot_len (pa_cons (pv 0) pa_nil)) pa_nil))) (pg_name (i := 4) scEC.nd rfl (.inl rfl))
        (yss_cons (ys_ps (fun _ _ h => h) (ps_set (i := 5) scEC.nd rfl (.inl rfl) (pe_ix (ix_tupK (K := K) rfl) (pe_cal c_split_number (hr.mono (by decide)) (pa_cons (pv 4) (pa_cons (pv 1) pa_nil))) pe_int (fun _ _ => rfl))))
        (yss_one (ys_if (fun _ _ h => h) (pt_cmpR op_lt (pe_ix (ix_listK (K := K) rfl) (pv 0) (pe_op op_sub (pv 4) pe_int) (fun _ _ => rfl)) (pe_ix (ix_listK (K := K) rfl) (pv 3) (pv 5) (fun _ _ => rfl)) (nomark _))
          (yss_one (ys_for (fun _ _ h => h) rfl (pi_listK (K := K) rfl (pv 2)) (pg_tupK (K := K) (n := 3) rfl rfl (pgs_cons (pg_name (i := 6) scEC.nd rfl (.inl rfl)) (pgs_cons (pg_name (i := 7) scEC.nd rfl (.inl rfl)) (pgs_cons (pg_name (i := 8) scEC.nd rfl (.inl rfl)) pgs_nil))))
            (yss_one (ys_if (fun _ _ h => h) (PW.pt (pw_and (pt_cmpR op_le (pv 6) (pv 5) (nomark _)) (pw_and1 (pt_cmpR op_lt (pe_ix (ix_listK (K := K) rfl) (pv 0) (pe_op op_sub (pv 4) pe_int) (fun _ _ => rfl)) (pv 8) (nomark _)))))
              (yss_one (ys_yield (fun _ _ h => h) (pe_tup (pa_cons (pv 4) (pa_cons (pv 7) pa_nil))))) yss_nil)))) yss_nil)))))), ?_⟩
    refine w_start (σ' := [some (.ref p), some (.int k), none, none, none, none, none, none, none, none]) rfl ?_
    exists ("yq", ())
    refine ⟨p, b, k, rfl, hp, by omega, hk, hk9, fun lp H1 us hlp s1 h1 tr => ?_⟩
    exists ("yq", ())
    refine ⟨12, rfl, by omega, by omega, fun D hD => ?_⟩
    refine lc_rci (n := 12) (fun i => VI ((List.range i).map (topAt k b))) hD (fun i H' hi pp sm => ?_) (fun H2 s2 h2 => ?_)
    · exists ("yq", ())
      refine ⟨rfl, ?_⟩
      exists ("yq", ())
      rename_i p5 H5 hp5 s5 h5
      have h5l : H5 lp = some (.lst us) := (by exists ("hp", ()))
      have tr5 : Trip lp H5 us (plains k b) := Trip.to (by exists ("sm", ())) tr
      refine ⟨lp, rfl, ⟨us, SqL.of h5l⟩, fun D2 hD2 => ?_⟩
      refine lc_ci (fun j => VI ((((plains k b).take j).filter fun l => decide (l.1 ≤ i)).map fun l => l.2.2)) (walk_list (xs := us)) hD2 (fun H' sm => SqL.of (sm _ _ h5l)) (fun j x H' Hy hj p6 s6 y => ?_) (fun H6 s6 h6 => ?_)
      · obtain ⟨rfl, e2⟩ := y
        obtain ⟨a, l, rfl, el, ha⟩ := (tr5.to s6).2 j x e2
        have tk : (plains k b).take (j + 1) = (plains k b).take j ++ [l] := by rw [List.take_succ, el] <;> rfl
        exists ("yq", ())
        refine ⟨rfl, ?_⟩
        exists ("yq", ())
        refine w_ixT (i := 0) (SqT.of ha) rfl ?_
        exists ("yq", ())
        refine w_ite (fun c => ?_) (fun c => ?_)
        · exists ("yq", ())
          refine w_ixT (i := 2) (SqT.of ha) rfl ?_
          refine ci_add p6 (Same.refl _) ?_ ?_
          · rw [tk, List.filter_append, List.map_append, VI, VI, List.map_append, List.filter_cons, if_pos (decide_eq_true (by omega))] <;> rfl
          · rw [List.length_map, List.length_map]
            have z1 := List.length_filter_le (fun l : Nat × Nat × Int => decide (l.1 ≤ i)) ((plains k b).take j)
            have z2 := plains_len k b
            rw [List.length_take] at z1
            omega
        · refine ci_skip p6 (Same.refl _) ?_
          rw [tk, List.filter_append, List.filter_cons, if_neg (fun z => c (by have := of_decide_eq_true z; omega)), List.filter_nil, List.append_nil]
      · rw [tr.1, List.take_length] at h6
        exists ("yq", ())
        refine w_catL (xs := [.int 0]) (by exists ("hp", ())) h6 (small_le (by
          rw [List.length_map, List.length_map]
          have z1 := List.length_filter_le (fun l : Nat × Nat × Int => decide (l.1 ≤ i)) (plains k b)
          have z2 := plains_len k b
          simp
          omega)) fun p7 H7 hp7 s7 h7 => ?_
        exists ("yq", ())
        have h7 : H7 p7 = some (.lst (VI (0 :: ((plains k b).filter fun l => decide (l.1 ≤ i)).map fun l => l.2.2))) := h7
        refine w_maxL (a := 0) (ns := ((plains k b).filter fun l => decide (l.1 ≤ i)).map fun l => l.2.2) (SqL.of h7) ?_
        refine ci_add pp (by exists ("sm", ())) ?_ (by simp; omega)
        rw [VI, VI, range_snoc, List.map_append] <;> rfl
    · exists ("yq", ())
      rw [List.length_map]
      refine ⟨1, (b.length : Int), rfl, ⟨by omega, by omega, by omega, by omega⟩, ?_⟩
      rw [show ((b.length : Int) - 1).toNat = b.length - 1 by omega]
      have s02 : Same H H2 := (by exists ("sm", ()))
      have hp2 := s02 _ _ hp
      have hl2 := s2 _ _ h1
      have tr2 := tr.to s2
      refine for_itY (walk_range (lo := 1) (n := b.length - 1)) (fun i σ H' => ∃ t4 t5 t6 t7 t8, σ = [some (.ref p), some (.int k), some (.ref lp), some (.ref D), t4, t5, t6, t7, t8, none] ∧ Same H2 H' ∧ ∀ n, 1 ≤ n → n ≤ i → ∀ l ∈ plains k b, ¬ (l.1 ≤ expo k n ∧ b.getD (n - 1) 0 < l.2.2)) ⟨_, _, _, _, _, rfl, Same.refl _, fun n h1 h2 => by omega⟩ (fun _ _ _ _ _ => trivial) ?_ ?_
      · rintro i x σ H3 H4 hi ⟨t4, t5, t6, t7, t8, rfl, s3, old⟩ ⟨rfl, rfl⟩
        have e0 : (fun i : Nat => V.int (1 + (i : Int))) i = V.int ((i + 1 : Nat) : Int) := congrArg V.int (by omega)
        rw [e0]
        have hex : expo k (i + 1) < 12 := by
          have z1 := expo_le hk (show 1 ≤ i + 1 by omega)
          have z2 : 2 ^ expo k (i + 1) ≤ k ^ expo k (i + 1) := Nat.pow_le_pow_left hk _
          have z3 : expo k (i + 1) < 2 ^ expo k (i + 1) := Nat.lt_two_pow_self
          by_cases c : expo k (i + 1) < 5
          · omega
          · have z4 : 2 ^ 5 ≤ 2 ^ expo k (i + 1) := Nat.pow_le_pow_right (by decide) (by omega)
            omega
        exists ("yq", ())
        refine ⟨i + 1, k, rfl, by omega, hk, hk9, fun q5 H5 hq5 s5 h5 => ?_⟩
        have s25 : Same H2 H5 := s3.trans s5
        exists ("yq", ())
        refine w_ixT (i := 0) (SqT.of h5) rfl ?_
        exists ("yq", ())
        refine w_ixI (ns := b) (SqL.of (s25 _ _ hp2)) (by omega) (by omega) ?_
        rw [show (((i + 1 : Nat) : Int) - 1).toNat = i by omega]
        exists ("yq", ())
        refine w_ixIn (i := expo k (i + 1)) (ns := (List.range 12).map (topAt k b)) (SqL.of (s25 _ _ h2)) (by simpa using hex) ?_
        rw [show ((List.range 12).map (topAt k b)).getD (expo k (i + 1)) 0 = topAt k b (expo k (i + 1)) by rw [List.getD_eq_getElem?_getD, List.getElem?_map, List.getElem?_range hex] <;> rfl]
        exists ("yq", ())
        refine w_ite (fun c => ?_) (fun c => ?_)
        · exists ("yq", ())
          refine ⟨lp, rfl, ⟨us, SqL.of (s25 _ _ hl2)⟩, ?_⟩
          refine for_itY (walk_list (xs := us)) (fun j σ H' => ∃ t6 t7 t8, σ = [some (.ref p), some (.int k), some (.ref lp), some (.ref D), some (.int ((i + 1 : Nat) : Int)), some (.int (expo k (i + 1) : Nat)), t6, t7, t8, none] ∧ Same H2 H' ∧ ∀ l ∈ (plains k b).take j, ¬ (l.1 ≤ expo k (i + 1) ∧ b.getD i 0 < l.2.2)) ⟨_, _, _, rfl, s25, fun l h => (by simp at h)⟩ ?_ ?_ ?_
          · rintro j σ H6 _ ⟨t6, t7, t8, rfl, s6, _⟩
            exact SqL.of (s6 _ _ hl2)
          · rintro j x σ H6 H6' hj ⟨t6, t7, t8, rfl, s6, old2⟩ ⟨rfl, hx⟩
            obtain ⟨a, l, rfl, el, ha⟩ := (tr2.to s6).2 j x hx
            have tk : (plains k b).take (j + 1) = (plains k b).take j ++ [l] := by rw [List.take_succ, el] <;> rfl
            have skip : ¬ (l.1 ≤ expo k (i + 1) ∧ b.getD i 0 < l.2.2) → ∀ l' ∈ (plains k b).take (j + 1), ¬ (l'.1 ≤ expo k (i + 1) ∧ b.getD i 0 < l'.2.2) := fun z l' hl' => by
              rw [tk] at hl'
              rcases List.mem_append.mp hl' with h | h
              · exact old2 l' h
              · rw [List.mem_singleton.mp h]; exact z
            refine w_gtup (SqT.of ha) rfl ?_
            exists ("yq", ())
            refine w_ite (fun c1 => ?_) (fun c1 => ?_)
            · exists ("yq", ())
              refine w_ixI (ns := b) (SqL.of (s6 _ _ hp2)) (by omega) (by omega) ?_
              rw [show (((i + 1 : Nat) : Int) - 1).toNat = i by omega]
              exists ("yq", ())
              refine w_ite (fun c2 => ?_) (fun c2 => ?_)
              · exists ("yq", ())
                rename_i t9 H9 ht9 s9 h9
                exact qY ⟨i + 1, by omega, by omega, l, List.mem_of_getElem? el, by omega, c2⟩ t9 _ _ H9 (by exists ("sm", ())) h9
              · exists ("yq", ())
                exact ⟨_, _, _, rfl, s6, skip fun z => c2 z.2⟩
            · exists ("yq", ())
              exact ⟨_, _, _, rfl, s6, skip fun z => c1 (by omega)⟩
          · rintro σ H6 ⟨t6, t7, t8, rfl, s6, old2⟩
            rw [tr2.1, List.take_length] at old2
            exists ("yq", ())
            refine ⟨_, _, _, _, _, rfl, s6, fun n n1 n2 l hl' => ?_⟩
            by_cases cn : n = i + 1
            · subst cn
              exact old2 l hl'
            · exact old n n1 (by omega) l hl'
        · exists ("yq", ())
          refine ⟨_, _, _, _, _, rfl, s25, fun n n1 n2 l hl' z => ?_⟩
          by_cases cn : n = i + 1
          · subst cn
            have z1 := topAt_ge hl' z.1
            have z2 := z.2
            rw [show i + 1 - 1 = i by omega] at z2
            omega
          · exact old n n1 (by omega) l hl' z
      · rintro σ H3 ⟨t4, t5, t6, t7, t8, rfl, s3, old⟩
        exact qE (fun ⟨n, n1, n2, l, hl', z⟩ => old n n1 (by omega) l hl' z) H3 (s02.trans s3)
end
end
/-! #### W24 -/
section
abbrev N_scCI : List Str := ["self", "first", "second"]
theorem scCI : FnScope N_scCI ["self", "first", "second"] (defScope sCI) := ⟨rfl, rfl, rfl, by decide +kernel, rfl, by decide +kernel, by decide +kernel⟩
abbrev N_scPr : List Str := ["self", "places", "arity", "rest", "number", "other"]
theorem scPr : FnScope N_scPr ["self", "places", "arity", "rest"] (defScope sPr) := ⟨rfl, rfl, rfl, by decide +kernel, rfl, by decide +kernel, by decide +kernel⟩
abbrev N_scPi : List Str := ["self", "places", "arity"]
theorem scPi : FnScope N_scPi ["self", "places", "arity"] (defScope sPi) := ⟨rfl, rfl, rfl, by decide +kernel, rfl, by decide +kernel, by decide +kernel⟩
abbrev N_scVi : List Str := ["self", "values", "arity", "places"]
theorem scVi : FnScope N_scVi ["self", "values", "arity"] (defScope sVi) := ⟨rfl, rfl, rfl, by decide +kernel, rfl, by decide +kernel, by decide +kernel⟩
/-- the class Conflict -/
structure ConfC (K : PySem.W.Frag) (mg : Str → Option Value) : Prop where
  g_StateError : mg "StateError" = some (.ref (He.ga K "StateError"))
  se : ∃ mc, ClX.CRead K (He.ga K "StateError") mc ∧ PySem.W.findCls K (.ref (He.ga K "StateError")) mc "__init__" = some (.val (.builtin "RuntimeError.__init__"))
  rt : RtC K (cfA K)
  ex : PySem.W.exmOne K (.ref (cfA K)) (.ref (cfA K)) = some true
def spCI (K : PySem.W.Frag) : Sp := fun vs H Q _ => ∃ (a C : Addr) (y z : V), vs = [.ref a, y, z] ∧ RtC K C ∧ H a = some (exo a C none) ∧
  ∀ d fs H', H d = none → d ≠ a → H' a = some (exo a C (some d)) → H' d = some (exd d fs) → (∀ b u, H b = some u → b ≠ a → H' b = some u) → Q .non H'
/-! ### rules for calls that may raise -/
def tMethX (C : Addr) (m : Str) (sp : Sp) (E : XK) (ta : TE) (t : TA) : TE := fun σ H Q => ta σ H fun x H1 => ∃ a dx fs, x = .ref a ∧ H1 a = some (.ins C dx fs) ∧ fs.lookup m = none ∧ t σ H1 fun vs H2 => sp (x :: vs) H2 Q E
theorem w_methX {C : Addr} {m : Str} {sp : Sp} {E : XK} {ta : TE} {t : TA} {σ : L2.St} {H : Hp} {Q : VK} (q : ta σ H fun x H1 => ∃ a dx fs, x = .ref a ∧ H1 a = some (.ins C dx fs) ∧ fs.lookup m = none ∧ t σ H1 fun vs H2 => sp (x :: vs) H2 Q E) : tMethX C m sp E ta t σ H Q := q
structure CalMX (P : Program) (w : World) (K : PySem.W.Frag) (mg : Str → Option Value) (base : Heap) (k : Nat) (C : Addr) (m : Str) (ps : List Str) (sp : Sp) : Prop where
  ok : ∃ f fd, Meth K C m f ∧ FnOk P w K mg base (L2.CX P w) k f fd ps sp ∧ Binds K fd ps []
structure CalMkX (P : Program) (w : World) (K : PySem.W.Frag) (mg : Str → Option Value) (base : Heap) (k : Nat) (x : Str) (C : Addr) (ps : List Str) (sp : Sp) : Prop where
  ok : ∃ f fd, Mk K C f ∧ FnOk P w K mg base (L2.CX P w) k f fd ps sp ∧ Binds K fd ps []
  g : mg x = some (.ref C)
structure CalY (P : Program) (w : World) (K : PySem.W.Frag) (mg : Str → Option Value) (base : Heap) (k : Nat) (x : Str) (ps : List Str) (sp : SpY) : Prop where
  ok : ∃ fd, FnY P w K mg base k (He.ga K x) fd ps sp ∧ Binds K fd ps []
  g : mg x = some (.ref (He.ga K x))
  kp : PySem.W.keepIn K (.ref (He.ga K x)) = true
structure CalC (P : Program) (w : World) (K : PySem.W.Frag) (mg : Str → Option Value) (base : Heap) (k : Nat) (ps : List Str) (sp : Sp) : Prop where
  ok : ∃ f fd, PySem.W.findIn K (.ref (cfA K)) "__init__" = some (some (.ref f)) ∧ PySem.W.typeIn K (.ref f) = some (.type "function") ∧ FnOk P w K mg base CX0 k f fd ps sp ∧ Binds K fd ps []
def tMkS (C : Addr) (sp : Sp) (E : L2.St → XK) (t : TA) : TE := fun σ H Q => t σ H fun vs H1 => ∀ x dx, H1 x = none → H1 dx = none → dx ≠ x → sp (.ref x :: vs) (upd (upd H1 dx (.own x)) x (.ins C dx [])) (fun v H2 => v = .non ∧ Q (.ref x) H2) (E σ)
theorem w_mkS {C : Addr} {sp : Sp} {E : L2.St → XK} {t : TA} {σ : L2.St} {H : Hp} {Q : VK} (q : t σ H fun vs H1 => ∀ x dx, H1 x = none → H1 dx = none → dx ≠ x → sp (.ref x :: vs) (upd (upd H1 dx (.own x)) x (.ins C dx [])) (fun v H2 => v = .non ∧ Q (.ref x) H2) (E σ)) : tMkS C sp E t σ H Q := q
section
variable {X : Cx} {k : Nat} {C : Addr} {m x : Str} {ps : List Str} {sp : Sp} {o e : Expr} {es : List Expr} {p pos apos : Pos} {ta : TE} {t : TA} {pl : Sem Bool} {E : XK} {Es : L2.St → XK}
theorem pe_calMX (he : PE X o ta) (cl : Cls X.K C) (c : CalMX X.prog X.w X.K X.mg X.base k C m ps sp) (hr : Room k X.A) (hx : Passes (L2.CX X.prog X.w) X E) (ha : PA X (e :: es) t)
    (hst : starEach (e :: es) X.env = (false, eval e X.env) :: starEach es X.env := by rfl) (hpl : (backTo pos (starEach es X.env)).any (·.1) = false := by rfl)
    (ht : eval (.Call (.Attribute o m apos) (e :: es) [] pos) X.env = (do
      let ov ← eval o X.env
      standAt apos.atName
      let (f, first) ← holding [ov] (getMethod ov m pl)
      callWith pos f first (backTo pos (starEach (e :: es) X.env)) (backToKw pos (keywordEach [] X.env))) := by rfl) : PE X (.Call (.Attribute o m apos) (e :: es) [] pos) (tMethX C m sp E ta t) := by
  obtain ⟨f, fd, M, F, b⟩ := c.ok
  have h := pe_meth (E := E) (dvs := []) he cl M F hr b .nil hx ha hst hpl ht
  have e1 : tMeth C m sp [] E ta t = tMethX C m sp E ta t := by
    unfold tMeth tMethX
    funext σ H Q
    congr 1
    funext x H1
    simp only [List.append_nil]
  rw [← e1]
  exact h
theorem pe_mkS (c : CalMkX X.prog X.w X.K X.mg X.base k x C ps sp) (hr : Room (k + 1) X.A) (hx : ∀ σ, PassesAt (L2.CX X.prog X.w) X σ (Es σ)) (ha : PA X (e :: es) t) (hg : Gl X x := by rfl)
    (hdb : (x == ("__debug__" : Str)) = false := by decide) (he : starEach (e :: es) X.env = (false, eval e X.env) :: starEach es X.env := by rfl) (hpl : (backTo pos (starEach es X.env)).any (·.1) = false := by rfl) :
    PE X (.Call (.Name x p) (e :: es) [] pos) (tMkS C sp Es t) := by
  obtain ⟨f, fd, M, F, hb⟩ := c.ok
  refine ⟨fun pins s σ H Q I h => wpAny_Call_Name_kw (ld_glob I hg c.g ?_ hdb)⟩
  refine PySem.W.callWith_K (h₀ := X.base) I.ok.mod.kin M.kp (thn (ha.run pos pins s σ H _ I h) fun us s1 h1 => ?_) he hpl
  obtain ⟨vs, H1, I1, r, q⟩ := h1
  refine ⟨I1.kIn, ?_⟩
  have hq := q (s1.heap.objs.size + 1) s1.heap.objs.size (I1.hok.fresh (Nat.le_succ _)) (I1.hok.fresh (Nat.le_refl _)) (Nat.ne_of_lt (Nat.lt_succ_self _))
  have I2 := Inv.made (C := C) I1
  have r2 : Vals (V.ref (s1.heap.objs.size + 1) :: vs) (Value.ref (s1.heap.objs.size + 1) :: us) := .cons rfl r
  have hl : (Value.ref (s1.heap.objs.size + 1) :: us ++ []).length = ps.length := by
    rw [List.append_nil, ← r2.length]
    exact F.len _ _ _ _ hq
  refine wpAny_call (make_map (f := f) I1.kIn M.makes M.init (beq_iff_eq.mp M.fn) (codeAny_mono (F.run _ X.stack _ _ ⟨Value.ref (s1.heap.objs.size + 1) :: us, []⟩ (Value.ref (s1.heap.objs.size + 1) :: us ++ []) _ _ (Es σ) (hr.make C us [])
    (I2.env0.make C us []) (hb _ (Value.ref (s1.heap.objs.size + 1) :: us) I2.kIn hl) (by rw [List.append_nil]; exact r2) hq) fun r s' hq' => ?_))
  cases r with
  | error e => exact hx σ pins _ _ e s' I2 hq'
  | ok fl =>
    cases fl with
    | ret u =>
      obtain ⟨v, H', I3, rv, ev, q3⟩ := I2.after hq'
      subst ev
      exact ⟨rv, V.ref (s1.heap.objs.size + 1), H', I3, rfl, q3⟩
    | next => exact False.elim hq'
    | brk => exact False.elim hq'
    | cont => exact False.elim hq'
end
theorem w_forY {tg : TGY} {g : TG} {tb : TS} {D : Ends} {σ : L2.St} {H : Hp} (q : tg σ H (fun H1 => D.nx σ H1) fun x H1 => g x σ H1 fun σ2 H2 => tb { D with nx := fun _ _ => False, ct := fun _ _ => False, bk := D.nx } σ2 H2) : tForY tg g tb D σ H := q
theorem w_callY {sp : SpY} {t : TA} {σ : L2.St} {H : Hp} {QE : Hp → Prop} {QY : VK} (q : t σ H fun vs H1 => sp vs H1 QE QY) : tCallY sp t σ H QE QY := q
theorem w_mkR {C : Addr} {sp : Sp} {ta : TA} {σ : L2.St} {H : Hp} {Q : XK} (q : ta σ H fun vs H1 => vs.length ≤ 1000 ∧ ∀ a, H1 a = none → sp (.ref a :: vs) (upd H1 a (exo a C none))
  (fun v H2 => v = .non ∧ ∃ (d : Addr) (fs : List (Str × V)), H2 a = some (exo a C (some d)) ∧ H2 d = some (exd d fs) ∧ H1 d = none ∧ Q (.ref C) (some d) (upd (del H2 a) d (.xd fs))) E0) : tMkR C sp ta σ H Q := q
/-- a fit whose list of bounds is new -/
def FitN (K : PySem.W.Frag) (H H' : Hp) (C x : Addr) (ps : List Int) (k : Nat) (rest : Int) (b : List Int) : Prop := ∃ dx tp lb, FitAt K H' C x dx tp lb ps k rest b ∧ H lb = none
theorem FitN.from {K : PySem.W.Frag} {H H1 H' : Hp} {C x : Addr} {ps : List Int} {k : Nat} {rest : Int} {b : List Int} (s : Same H H1) (h : FitN K H1 H' C x ps k rest b) : FitN K H H' C x ps k rest b := by
  obtain ⟨dx, tp, lb, f, n⟩ := h
  exact ⟨dx, tp, lb, f, Same.free s n⟩
/-! ### the promises -/
def spPr (K : PySem.W.Frag) (C : Addr) : Sp := fun vs H Q E => ∃ (x tp dx : Addr) (ps : List Int) (k : Nat) (rest : Int), vs = [.ref x, .ref tp, .int (k : Int), .int rest] ∧ H x = some (.ins C dx []) ∧ SqT K H tp (VI ps) ∧ ps.length ≤ 19 ∧ 2 ≤ k ∧ k ≤ 9 ∧
  (¬ Conf k (bnds ps rest) → ∀ H', But x H H' → FitN K H H' C x ps k rest (bnds ps rest) → Q .non H') ∧ (Conf k (bnds ps rest) → ∀ d H', But x H H' → E (.ref (cfA K)) d H')
theorem bnds_len (ps : List Int) (rest : Int) : (bnds ps rest).length = ps.length := by
  unfold bnds gapsOf
  by_cases c : ps = []
  · subst c; rfl
  · rw [if_neg c]
    have := List.length_pos_iff.mpr c
    simp
    omega
theorem But.sqT {K : PySem.W.Frag} {x a C dx : Addr} {H H1 : Hp} {fs : List (Str × V)} {xs : List V} (b : But x H H1) (hx : H x = some (.ins C dx fs)) (h : SqT K H a xs) : SqT K H1 a xs := by
  rcases h with h | h
  · rcases h with h | ⟨o, h⟩
    · exact SqT.of (b.tup hx h)
    · exact .inl (.inr ⟨o, b.to hx h (fun z => by cases z)⟩)
  · exact .inr h
theorem But.lst {x a C dx : Addr} {H H1 : Hp} {fs : List (Str × V)} {xs : List V} (b : But x H H1) (hx : H x = some (.ins C dx fs)) (h : H a = some (.lst xs)) : H1 a = some (.lst xs) := b.to hx h (fun z => by cases z)
section
variable {P : Program} {w : World} {K : PySem.W.Frag} {mg : Str → Option Value} {base : Heap} {f : Addr} {fd : FuncData} {C : Addr}
theorem ok_ci (F : FunD K "__init__" "Conflict.__init__" (defArgs sCI) (defBody sCI) (defScope sCI) [] [] f fd) (CC : ConfC K mg) : FnOk P w K mg base CX0 1 f fd ["self", "first", "second"] (spCI K) := by
  obtain ⟨mc, cr, cv⟩ := CC.se
  refine F.ok scCI (fun vs H Q E h => ?_) (fun cdv A outer s H vs Q _ hr h => ?_)
  · obtain ⟨a, C, y, z, rfl, _⟩ := h
    rfl
  · obtain ⟨a, C, y, z, rfl, T, ha, q⟩ := h
    refine ⟨_, PSs.nox (pss_cons (ps_expr (pe_rtinit (pe_glob (v := .ref _) rfl CC.g_StateError rfl) cr cv (pa_cons (pv 0) (pa_cons pe_str pa_nil)))) (pss_cons (ps_rts (pv 0) (pv 1)) (pss_one (ps_rts (pv 0) (pv 2))))), ?_⟩
    refine w_start (σ' := [some (.ref a), some y, some z]) rfl ?_
    exists ("wq", ())
    refine ⟨rfl, ?_⟩
    exists ("wq", ())
    refine ⟨a, C, _, rfl, by decide, T, ha, ?_⟩
    exists ("wq", ())
    refine ⟨_, rfl, _, rfl, a, C, rfl, T, by decide, .inl ⟨ha, fun d hd hne => ?_⟩⟩
    have e1 : upd (upd (upd H d (exd d [])) a (exo a C (some d))) d (exd d [("first", y)]) a = some (exo a C (some d)) := by rw [upd_ne hne.symm, upd_same]
    exists ("wq", ())
    refine ⟨_, rfl, _, rfl, a, C, rfl, T, by decide, .inr ⟨d, _, e1, upd_same, (show 1 ≤ 900 by decide), ?_⟩⟩
    refine q d _ _ hd hne (by rw [upd_ne hne.symm]; exact e1) upd_same fun b u hb nb => ?_
    have nd := ne_of_none hb hd
    rw [upd_ne nd, upd_ne nd, upd_ne nb, upd_ne nd]
    exact hb
theorem ok_pr (F : FunD K "prepare" "PlaceFit.prepare" (defArgs sPr) (defBody sPr) (defScope sPr) [] [] f fd) (E : Glob K mg) (FC : FitC K C) (CC : ConfC K mg) (c_bounds_of : Cal P w K mg base CX0 1 "bounds_of" ["places", "rest"] (spBo K))
    (c_each_conflict : CalY P w K mg base 3 "each_conflict" ["bounds", "arity"] spEC) (c_Conflict : CalC P w K mg base 1 ["self", "first", "second"] (spCI K)) : FnOk P w K mg base (L2.CX P w) 5 f fd ["self", "places", "arity", "rest"] (spPr K C) := by
  obtain ⟨yfd, YF, yb⟩ := c_each_conflict.ok
  obtain ⟨cf, cfd, iC, tI, CF, cb⟩ := c_Conflict.ok
  refine F.ok scPr (fun vs H Q E h => ?_) (fun cdv A outer s H vs Q Ex hr h => ?_)
  · obtain ⟨x, tp, dx, ps, k, rest, rfl, _⟩ := h
    rfl
  · obtain ⟨x, tp, dx, ps, k, rest, rfl, hx, ht, hl, hk, hk9, qN, qC⟩ := h
    refine ⟨_, (pss_cons (ps_fldK (K := K) rfl (pv 0) (pv 1))
      (pss_cons (ps_fldK (K := K) rfl (pv 0) (pv 2))
      (pss_cons (ps_fldK (K := K) rfl (pv 0) (pv 3))
      (pss_cons (ps_fldK (K := K) rfl (pv 0) (pe_cal c_bounds_of (hr.mono (by decide)) (pa_cons (pv 1) (pa_cons (pv 3) pa_nil))))
      (pss_one (ps_forY (passes_of rfl) rfl hr (pgy_call YF (hr.mono (by decide)) c_each_conflict.g c_each_conflict.kp yb (pa_cons (pe_fldK (K := K) rfl (pv 0)) (pa_cons (pv 2) pa_nil)))
        (pg_tupK (K := K) (n := 2) rfl rfl (pgs_cons (pg_name (i := 4) scPr.nd rfl (.inl rfl)) (pgs_cons (pg_name (i := 5) scPr.nd rfl (.inl rfl)) pgs_nil)))
        (pss_one (ps_raise rfl (takes_of rfl rfl rfl rfl) (pmk_rt CC.rt iC tI CF (hr.mono (by decide)) cb E.g_Conflict (pa_cons (pv 4) (pa_cons (pv 5) pa_nil))))))))))), ?_⟩
    refine w_start (σ' := [some (.ref x), some (.ref tp), some (.int k), some (.int rest), none, none]) rfl ?_
    exists ("wq", ())
    refine ⟨x, C, dx, [], rfl, hx, FC.cls, FC.no _ (by decide), (show 0 < 1000 by decide), ?_⟩
    obtain ⟨H1, e1, hx1, b1⟩ := upd_name H x (.ins C dx (putF "own_places" (.ref tp) []))
    rw [e1]
    exists ("wq", ())
    refine ⟨x, C, dx, _, rfl, hx1, FC.cls, FC.no _ (by decide), pl1, ?_⟩
    obtain ⟨H2, e2, hx2, b2⟩ := upd_name H1 x (.ins C dx (putF "own_arity" (.int (k : Int)) (putF "own_places" (.ref tp) [])))
    rw [e2]
    exists ("wq", ())
    refine ⟨x, C, dx, _, rfl, hx2, FC.cls, FC.no _ (by decide), pl2, ?_⟩
    obtain ⟨H3, e3, hx3, b3⟩ := upd_name H2 x (.ins C dx (putF "own_rest" (.int rest) (putF "own_arity" (.int (k : Int)) (putF "own_places" (.ref tp) []))))
    rw [e3]
    have ht1 := But.sqT b1 hx ht
    have ht2 := But.sqT b2 hx1 ht1
    have ht3 := But.sqT b3 hx2 ht2
    exists ("wq", ())
    refine ⟨tp, ps, rest, rfl, ht3, by omega, fun lb H4 hlb s4 h4 => ?_⟩
    have hx4 := s4 _ _ hx3
    have ht4 := Same.seqT s4 ht3
    exists ("wq", ())
    refine ⟨x, C, dx, _, rfl, hx4, FC.cls, FC.no _ (by decide), pl3, ?_⟩
    obtain ⟨H5, e5, hx5, b5⟩ := upd_name H4 x (.ins C dx (putF "own_bounds" (.ref lb) (putF "own_rest" (.int rest) (putF "own_arity" (.int (k : Int)) (putF "own_places" (.ref tp) [])))))
    rw [e5]
    have ht5 := But.sqT b5 hx4 ht4
    have h5 := But.lst b5 hx4 h4
    have fit5 : FitAt K H5 C x dx tp lb ps k rest (bnds ps rest) := ⟨hx5, ht5, h5⟩
    have b05 : But x H H5 := But.trans (But.trans (But.trans (But.trans b1 b2) b3) (But.same s4)) b5
    exists ("wq", ())
    refine w_forY (w_callY ?_)
    exists ("wq", ())
    refine fit5.get FC (by decide) rfl ?_
    exists ("wq", ())
    refine ⟨lb, bnds ps rest, k, rfl, h5, by rw [bnds_len]; exact hl, hk, hk9, fun nc H6 s6 => ?_, fun cf' t n o H6 s6 h6 => ?_⟩
    · refine qN nc H6 (But.trans b05 (.same s6)) ⟨dx, tp, lb, fit5.to s6, ?_⟩
      cases e : H lb with
      | none => rfl
      | some u =>
        exfalso
        by_cases c : lb = x
        · subst c
          rw [hx3] at hlb
          cases hlb
        · rw [But.trans (But.trans b1 b2) b3 lb u e c] at hlb
          cases hlb
    · refine w_gtup (SqT.of h6) rfl ?_
      exists ("wq", ())
      refine w_mkR ?_
      exists ("wq", ())
      refine ⟨(show 2 ≤ 1000 by decide), fun a ha => ⟨a, cfA K, _, _, rfl, CC.rt, upd_same, fun d fs H7 hd hne ea ed kp => ⟨rfl, d, fs, ea, ed, ?_, qC cf' _ _ (But.trans (But.trans b05 (.same s6)) ?_)⟩⟩⟩
      · rw [upd_ne hne] at hd; exact hd
      · intro b u hb nb
        have na : b ≠ a := ne_of_none hb ha
        have nd : b ≠ d := by
          rintro rfl
          rw [upd_ne na, hb] at hd
          cases hd
        rw [upd_ne nd, del_ne na]
        exact kp b u (by rw [upd_ne na]; exact hb) na
end
def restP (ps : List Int) : Int := if ps = [] then 0 else 1
def restV (a : List Int) : Int := a.length - lastOf (known a)
theorem known_len (a : List Int) : (known a).length ≤ a.length := by
  unfold known
  rw [List.length_map]
  have := List.length_filter_le (isUp a) (List.range a.length)
  rwa [List.length_range] at this
def spIn (K : PySem.W.Frag) (C : Addr) (Ok : List Int → Prop) (ps : List Int → List Int) (rest : List Int → Int) : Sp := fun vs H Q E => ∃ (x p dx : Addr) (a : List Int) (k : Nat), vs = [.ref x, .ref p, .int (k : Int)] ∧ H x = some (.ins C dx []) ∧ H p = some (.lst (VI a)) ∧ Ok a ∧ a.length ≤ 19 ∧ 2 ≤ k ∧ k ≤ 9 ∧
  (¬ Conf k (bnds (ps a) (rest a)) → ∀ H', But x H H' → FitN K H H' C x (ps a) k (rest a) (bnds (ps a) (rest a)) → Q .non H') ∧ (Conf k (bnds (ps a) (rest a)) → ∀ d H', But x H H' → E (.ref (cfA K)) d H')
def spPIn (K : PySem.W.Frag) (C : Addr) : Sp := spIn K C Inc id restP
def spVIn (K : PySem.W.Frag) (C : Addr) : Sp := spIn K C (fun a => Up a ∧ 1 ≤ a.length) known restV
section
variable {P : Program} {w : World} {K : PySem.W.Frag} {mg : Str → Option Value} {base : Heap} {f : Addr} {fd : FuncData} {C : Addr}
theorem ok_pIn (F : FunD K "__init__" "PlaceFit.__init__" (defArgs sPi) (defBody sPi) (defScope sPi) [] [] f fd) (E : Glob K mg) (FC : FitC K C) (c_check_places : Cal P w K mg base CX0 2 "check_places" ["places"] spCP) (c_check_arity : Cal P w K mg base CX0 3 "check_arity" ["arity"] spAr)
    (c_prepare : CalMX P w K mg base 5 C "prepare" ["self", "places", "arity", "rest"] (spPr K C)) : FnOk P w K mg base (L2.CX P w) 6 f fd ["self", "places", "arity"] (spPIn K C) := by
  refine F.ok scPi (fun vs H Q E h => ?_) (fun cdv A outer s H vs Q Ex hr h => ?_)
  · obtain ⟨x, p, dx, a, k, rfl, _⟩ := h
    rfl
  · obtain ⟨x, p, dx, a, k, rfl, hx, hp, inc, hl, hk, hk9, qN, qC⟩ := h
    refine ⟨_, (pss_cons (ps_expr (pe_cal c_check_places (hr.mono (by decide)) (pa_cons (pv 1) pa_nil)))
      (pss_cons (ps_expr (pe_cal c_check_arity (hr.mono (by decide)) (pa_cons (pv 2) pa_nil)))
      (pss_one (ps_expr (pe_calMX (pv 0) FC.cls c_prepare hr (passes_call (takes_of rfl rfl rfl rfl) (fun _ _ _ _ h => h)) (pa_cons (pe_callTy (call_tupleK (K := K) rfl) (by rfl) E.n_tuple PyProof.Rows.Boot.«tuple» (pa_cons (pv 1) pa_nil)) (pa_cons (pv 2) (pa_cons (pe_ifExp (pt_cmpR op_gt (pe_callB (call_lenK (K := K) rfl) (by rfl) E.n_len PySem.boot_len (pa_cons (pv 1) pa_nil)) pe_int (nomark _)) pe_int pe_int) pa_nil)))))))), ?_⟩
    refine w_start (σ' := [some (.ref x), some (.ref p), some (.int k)]) rfl ?_
    exists ("wq", ())
    refine ⟨p, a, rfl, hp, inc, by omega, fun H1 s1 => ?_⟩
    exists ("wq", ())
    refine ⟨k, rfl, hk, hk9, ?_⟩
    have hx1 := s1 _ _ hx
    have hp1 := s1 _ _ hp
    exists ("wq", ())
    refine w_methX ?_
    exists ("wq", ())
    refine ⟨x, dx, [], rfl, hx1, rfl, ?_⟩
    exists ("wq", ())
    refine w_tupL (xs := VI a) (SqL.of hp1) fun tp H2 htp s2 h2 => ?_
    exists ("wq", ())
    rw [List.length_map]
    have b02 : But x H H2 := But.same (s1.trans s2)
    have fin : ∀ rest, rest = restP a → spPr K C [.ref x, .ref tp, .int k, .int rest] H2 (fun _ H1 => Q V.non H1) Ex := by
      rintro rest rfl
      exact ⟨x, tp, dx, a, k, _, rfl, s2 _ _ hx1, SqT.of h2, hl, hk, hk9, fun nc H3 b3 fit => qN nc H3 (But.trans b02 b3) (fit.from (s1.trans s2)), fun cf d H3 b3 => qC cf d H3 (But.trans b02 b3)⟩
    refine w_ite (fun c => ?_) (fun c => ?_)
    · exists ("wq", ())
      exact fin 1 (by unfold restP; rw [if_neg (by rintro rfl; simp at c)])
    · exists ("wq", ())
      exact fin 0 (by unfold restP; rw [if_pos (by cases a with | nil => rfl | cons y r => exact absurd (by simp) c)])
theorem ok_vIn (F : FunD K "__init__" "ValueFit.__init__" (defArgs sVi) (defBody sVi) (defScope sVi) [] [] f fd) (E : Glob K mg) (FC : FitC K C) (c_check_values : Cal P w K mg base CX0 2 "check_values" ["values"] spCV) (c_check_arity : Cal P w K mg base CX0 3 "check_arity" ["arity"] spAr)
    (c_places_in : Cal P w K mg base CX0 1 "places_in" ["values"] spPl) (c_rest_of : Cal P w K mg base CX0 1 "rest_of" ["values", "places"] (spRe K)) (c_prepare : CalMX P w K mg base 5 C "prepare" ["self", "places", "arity", "rest"] (spPr K C)) :
    FnOk P w K mg base (L2.CX P w) 6 f fd ["self", "values", "arity"] (spVIn K C) := by
  refine F.ok scVi (fun vs H Q E h => ?_) (fun cdv A outer s H vs Q Ex hr h => ?_)
  · obtain ⟨x, p, dx, a, k, rfl, _⟩ := h
    rfl
  · obtain ⟨x, p, dx, a, k, rfl, hx, hp, ⟨up, hl1⟩, hl, hk, hk9, qN, qC⟩ := h
    refine ⟨_, (pss_cons (ps_expr (pe_cal c_check_values (hr.mono (by decide)) (pa_cons (pv 1) pa_nil)))
      (pss_cons (ps_expr (pe_cal c_check_arity (hr.mono (by decide)) (pa_cons (pv 2) pa_nil)))
      (pss_cons (ps_set (i := 3) scVi.nd rfl (.inl rfl) (pe_cal c_places_in (hr.mono (by decide)) (pa_cons (pv 1) pa_nil)))
      (pss_one (ps_expr (pe_calMX (pv 0) FC.cls c_prepare hr (passes_call (takes_of rfl rfl rfl rfl) (fun _ _ _ _ h => h)) (pa_cons (pv 3) (pa_cons (pv 2) (pa_cons (pe_cal c_rest_of (hr.mono (by decide)) (pa_cons (pv 1) (pa_cons (pv 3) pa_nil))) pa_nil))))))))), ?_⟩
    refine w_start (σ' := [some (.ref x), some (.ref p), some (.int k), none]) rfl ?_
    exists ("wq", ())
    refine ⟨p, a, rfl, hp, up, hl1, by omega, fun H1 s1 => ?_⟩
    exists ("wq", ())
    refine ⟨k, rfl, hk, hk9, ?_⟩
    have hx1 := s1 _ _ hx
    have hp1 := s1 _ _ hp
    exists ("wq", ())
    refine ⟨p, a, rfl, hp1, by omega, fun tp H2 htp s2 h2 => ?_⟩
    exists ("wq", ())
    refine w_methX ?_
    exists ("wq", ())
    refine ⟨x, dx, [], rfl, s2 _ _ hx1, rfl, ?_⟩
    exists ("wq", ())
    refine ⟨p, tp, a, known a, rfl, s2 _ _ hp1, SqT.of h2, fun H3 s3 => ?_⟩
    exists ("wq", ())
    have b03 : But x H H3 := But.same ((s1.trans s2).trans s3)
    have kl := known_len a
    exact ⟨x, tp, dx, known a, k, _, rfl, s3 _ _ (s2 _ _ hx1), SqT.of (s3 _ _ h2), by omega, hk, hk9, fun nc H4 b4 fit => qN nc H4 (But.trans b03 b4) (fit.from ((s1.trans s2).trans s3)), fun cf d H4 b4 => qC cf d H4 (But.trans b03 b4)⟩
end
end
/-! #### W25 -/
section
abbrev N_scMa : List Str := ["_law_values_here", "_law_k", "_law_is_exact", "_law_found"]
theorem scMa : FnScope N_scMa ["_law_values_here", "_law_k", "_law_is_exact"] (defScope sMa) := ⟨rfl, rfl, rfl, by decide +kernel, rfl, by decide +kernel, by decide +kernel⟩
def pO (ex : Bool) (a : List Int) : List Int := if ex = true then a else known a
def rO (ex : Bool) (a : List Int) : Int := if ex = true then restP a else restV a
def bO (ex : Bool) (a : List Int) : List Int := bnds (pO ex a) (rO ex a)
def cO (K : PySem.W.Frag) (ex : Bool) : Addr := if ex = true then He.ga K "PlaceFit" else He.ga K "ValueFit"
def spMa (K : PySem.W.Frag) : Sp := fun vs H Q _ => ∃ (p : Addr) (a : List Int) (k : Nat) (ex : Bool), vs = [.ref p, .int (k : Int), .bl ex] ∧ H p = some (.lst (VI a)) ∧ a.length ≤ 19 ∧ 2 ≤ k ∧ k ≤ 9 ∧ (if ex = true then Inc a else Up a ∧ 1 ≤ a.length) ∧
  (¬ Conf k (bO ex a) → ∀ x H', H x = none → Same H H' → FitN K H H' (cO K ex) x (pO ex a) k (rO ex a) (bO ex a) → Q (.ref x) H') ∧ (Conf k (bO ex a) → RetV .non H Q)
section
variable {P : Program} {w : World} {K : PySem.W.Frag} {mg : Str → Option Value} {base : Heap} {f : Addr} {fd : FuncData} {C : Addr}
theorem ok_ma (F : FD K "_law_made" "_law_made" sMa f fd) (E : Glob K mg) (CC : ConfC K mg) (c_PlaceFit : CalMkX P w K mg base 6 "PlaceFit" (He.ga K "PlaceFit") ["self", "places", "arity"] (spPIn K (He.ga K "PlaceFit")))
    (c_ValueFit : CalMkX P w K mg base 6 "ValueFit" (He.ga K "ValueFit") ["self", "values", "arity"] (spVIn K (He.ga K "ValueFit"))) : FnOk P w K mg base CX0 8 f fd ["_law_values_here", "_law_k", "_law_is_exact"] (spMa K) := by
  refine F.ok scMa (fun vs H Q E h => ?_) (fun cdv A outer s H vs Q _ hr h => ?_)
  · obtain ⟨p, a, k, ex, rfl, _⟩ := h
    rfl
  · obtain ⟨p, a, k, ex, rfl, hp, hl, hk, hk9, hex, qN, qC⟩ := h
    refine ⟨_, PSs.nox (pss_cons (ps_set (i := 3) scMa.nd rfl (.inl rfl) pe_non)
      (pss_cons (ps_try_only rfl rfl ⟨rfl, by decide, .inl E.g_Conflict⟩ takes0 (fun W pn xe tk po => pss_one (ps_set (i := 3) scMa.nd rfl (.inl rfl)
          (pe_ifExp (pt_val (pv 2)) (pe_mkS c_PlaceFit hr (fun σ => passAt tk σ) (pa_cons (pv 0) (pa_cons (pv 1) pa_nil))) (pe_mkS c_ValueFit hr (fun σ => passAt tk σ) (pa_cons (pv 0) (pa_cons (pv 1) pa_nil))))))
        (fun a oe cls d pn hz hf => pss_one (ps_set (i := 3) scMa.nd rfl (.inl rfl) pe_non)))
      (pss_one (ps_ret (pv 3))))), ?_⟩
    refine w_start (σ' := [some (.ref p), some (.int k), some (.bl ex), none]) rfl ?_
    exists ("wq", ())
    cases ex with
    | true =>
      exists ("wq", ())
      refine w_mkS ?_
      exists ("wq", ())
      intro x dx hx hd hne
      refine ⟨x, p, dx, a, k, rfl, upd_same, made_keep hx hd _ _ hp, hex, hl, hk, hk9, fun nc H' b fit => ⟨rfl, ?_⟩, fun cf d H' b => ⟨true, CC.ex, fun _ e he => ?_, fun z => nomatch z⟩⟩
      · exists ("wq", ())
        exact qN nc x H' hx (made_same hx hd b) (fit.from (made_keep hx hd))
      · exists ("wq", ())
        exact qC cf H' (made_same hx hd b)
    | false =>
      exists ("wq", ())
      refine w_mkS ?_
      exists ("wq", ())
      intro x dx hx hd hne
      refine ⟨x, p, dx, a, k, rfl, upd_same, made_keep hx hd _ _ hp, hex, hl, hk, hk9, fun nc H' b fit => ⟨rfl, ?_⟩, fun cf d H' b => ⟨true, CC.ex, fun _ e he => ?_, fun z => nomatch z⟩⟩
      · exists ("wq", ())
        exact qN nc x H' hx (made_same hx hd b) (fit.from (made_keep hx hd))
      · exists ("wq", ())
        exact qC cf H' (made_same hx hd b)
end
end
/-! #### K45Fin -/
section
/-! ### the places that values contain -/
structure Kn (ps : List Int) (L : Nat) : Prop where
  step : ∀ i, i + 1 < ps.length → ps.getD i 0 + 1 ≤ ps.getD (i + 1) 0
  lo : 0 < ps.length → 0 ≤ ps.getD 0 0
  hi : 0 < ps.length → ps.getD (ps.length - 1) 0 + 1 ≤ L
theorem known_kn (a : List Int) : Kn (known a) a.length := by
  have pw : (known a).Pairwise (· < ·) := by
    unfold known
    rw [List.pairwise_map]
    refine List.Pairwise.imp ?_ (List.Pairwise.filter _ List.pairwise_lt_range)
    intro x y h
    exact Int.ofNat_lt.mpr h
  have mem : ∀ x ∈ known a, 0 ≤ x ∧ x + 1 ≤ a.length := by
    intro x hx
    obtain ⟨i, hi, rfl⟩ := List.mem_map.mp hx
    have := List.mem_range.mp (List.mem_filter.mp hi).1
    omega
  have gd : ∀ {i : Nat} (h : i < (known a).length), (known a).getD i 0 = (known a)[i] := fun h => by
    rw [List.getD_eq_getElem?_getD, List.getElem?_eq_getElem h] <;> rfl
  refine ⟨fun i hi => ?_, fun h => ?_, fun h => ?_⟩
  · have z := List.pairwise_iff_getElem.mp pw i (i + 1) (by omega) hi (by omega)
    rw [gd (by omega), gd hi]
    omega
  · rw [gd h]; exact (mem _ (List.getElem_mem h)).1
  · rw [gd (by omega)]; exact (mem _ (List.getElem_mem _)).2
theorem Kn.low {ps : List Int} {L : Nat} (h : Kn ps L) : ∀ i, i < ps.length → (i : Int) ≤ ps.getD i 0
  | 0, hi => h.lo hi
  | i + 1, hi => by
    have z1 := h.low i (by omega)
    have z2 := h.step i hi
    omega
theorem Kn.up {ps : List Int} {L : Nat} (h : Kn ps L) : ∀ d i, i + d + 1 = ps.length → ps.getD i 0 + d + 1 ≤ L
  | 0, i, e => by
    have z := h.hi (by omega)
    rw [show ps.length - 1 = i by omega] at z
    omega
  | d + 1, i, e => by
    have z1 := h.up d (i + 1) (by omega)
    have z2 := h.step i (by omega)
    omega
theorem Kn.inc {ps : List Int} {L : Nat} (h : Kn ps L) (hL : L ≤ 19) : Inc ps := fun i hi => by
  have z1 := h.low i hi
  have z2 := h.up (ps.length - 1 - i) i (by omega)
  by_cases c : i = 0
  · subst c
    rw [if_pos rfl, if_pos rfl]
    omega
  · rw [if_neg c, if_neg c]
    obtain ⟨j, rfl⟩ : ∃ j, i = j + 1 := ⟨i - 1, by omega⟩
    have z3 := h.step j hi
    have z4 := h.low j (by omega)
    rw [show j + 1 - 1 = j by omega]
    omega
/-- bounds, small -/
structure Plain (ps : List Int) (rest : Int) : Prop where
  len : ps.length ≤ 19
  b : ∀ x ∈ bnds ps rest, 1 ≤ x ∧ x ≤ 20 - ps.length
  first : 0 ≤ firstOf ps rest ∧ firstOf ps rest ≤ 19
theorem gaps_mem {ps : List Int} {x : Int} (h : x ∈ gapsOf ps) : ∃ i, i + 1 < ps.length ∧ x = ps.getD (i + 1) 0 - ps.getD i 0 := by
  unfold gapsOf at h
  obtain ⟨i, hi, rfl⟩ := List.mem_map.mp h
  have := List.mem_range.mp hi
  exact ⟨i, by omega, rfl⟩
theorem Kn.gap {ps : List Int} {L : Nat} (h : Kn ps L) (hL : L ≤ 19) {x : Int} (hx : x ∈ gapsOf ps) : 1 ≤ x ∧ x ≤ 20 - ps.length := by
  obtain ⟨i, hi, rfl⟩ := gaps_mem hx
  have z1 := h.step i hi
  have z2 := h.low i (by omega)
  have z3 := h.up (ps.length - 1 - (i + 1)) (i + 1) (by omega)
  omega
theorem plain_of {ps : List Int} {L : Nat} {rest : Int} (h : Kn ps L) (hL : L ≤ 19) (h1 : ps ≠ [] → 1 ≤ rest ∧ rest ≤ 20 - ps.length) (h0 : ps = [] → 0 ≤ rest ∧ rest ≤ 19) : Plain ps rest := by
  have len : ps.length ≤ 19 := by
    by_cases c : 0 < ps.length
    · have z2 := h.up (ps.length - 1) 0 (by omega)
      have z1 := h.lo c
      omega
    · omega
  refine ⟨len, fun x hx => ?_, ?_⟩
  · unfold bnds at hx
    by_cases c : ps = []
    · rw [if_pos c] at hx; cases hx
    · rw [if_neg c] at hx
      rcases List.mem_append.mp hx with hx | hx
      · exact h.gap hL hx
      · rw [List.mem_singleton.mp hx]; exact h1 c
  · unfold firstOf
    by_cases c : ps = []
    · rw [if_pos c]; exact h0 c
    · rw [if_neg c]
      have hp := List.length_pos_iff.mpr c
      have z1 := h.lo hp
      have z2 := h.up (ps.length - 1) 0 (by omega)
      omega
theorem plainV {a : List Int} (hl : a.length ≤ 19) : Plain (known a) (restV a) := by
  have K := known_kn a
  refine plain_of K hl (fun c => ?_) (fun c => ?_)
  · unfold restV lastOf
    rw [if_neg c]
    have hp := List.length_pos_iff.mpr c
    have z1 := K.hi hp
    have z2 := K.low ((known a).length - 1) (by omega)
    omega
  · unfold restV lastOf
    rw [if_pos c]
    omega
theorem plainP {ps : List Int} {L : Nat} (h : Kn ps L) (hL : L ≤ 19) : Plain ps (restP ps) := by
  refine plain_of h hL (fun c => ?_) (fun c => ?_)
  · unfold restP
    rw [if_neg c]
    have hp := List.length_pos_iff.mpr c
    have z2 := h.up (ps.length - 1) 0 (by omega)
    have z1 := h.lo hp
    omega
  · unfold restP
    rw [if_pos c]
    omega
/-! ### no conflict of values: none of their places -/
theorem mem_plains {k : Nat} {b : List Int} {l : Nat × Nat × Int} : l ∈ plains k b ↔ ∃ i, i < b.length ∧ core k (i + 1) ≠ 1 ∧ l = (expo k (i + 1), i + 1, b.getD i 0) := by
  unfold plains plainsN
  constructor
  · intro h
    obtain ⟨i, hi, rfl⟩ := List.mem_map.mp h
    obtain ⟨h1, h2⟩ := List.mem_filter.mp hi
    exact ⟨i, List.mem_range.mp h1, of_decide_eq_true h2, rfl⟩
  · rintro ⟨i, h1, h2, rfl⟩
    exact List.mem_map.mpr ⟨i, List.mem_filter.mpr ⟨List.mem_range.mpr h1, decide_eq_true h2⟩, rfl⟩
theorem gaps_len (ps : List Int) : (gapsOf ps).length = ps.length - 1 := by
  unfold gapsOf
  rw [List.length_map, List.length_range]
theorem bnds_lt {ps : List Int} {rest : Int} {i : Nat} (h : i + 1 < ps.length) : (bnds ps rest).getD i 0 = (gapsOf ps).getD i 0 := by
  unfold bnds
  rw [if_neg (by rintro rfl; simp at h), List.getD_eq_getElem?_getD, List.getElem?_append_left (by rw [gaps_len]; omega), List.getD_eq_getElem?_getD]
theorem bnds_last {ps : List Int} {rest : Int} (h : ps ≠ []) : (bnds ps rest).getD (ps.length - 1) 0 = rest := by
  unfold bnds
  rw [if_neg h, List.getD_eq_getElem?_getD, List.getElem?_append_right (by rw [gaps_len]; omega), gaps_len, Nat.sub_self] <;> rfl
theorem conf_firm {k : Nat} {ps : List Int} {L : Nat} {rest : Int} (K : Kn ps L) (hL : L ≤ 19) (h : Conf k (bnds ps (restP ps))) : Conf k (bnds ps rest) := by
  obtain ⟨n, n1, n2, l, hl, e, lt⟩ := h
  obtain ⟨i, i1, i2, rfl⟩ := mem_plains.mp hl
  rw [bnds_len] at n2 i1
  have hne : ps ≠ [] := by rintro rfl; simp at i1
  rw [bnds_lt (by omega)] at lt
  by_cases c : i + 1 < ps.length
  · refine ⟨n, n1, by rw [bnds_len]; exact n2, _, mem_plains.mpr ⟨i, by rw [bnds_len]; exact i1, i2, rfl⟩, e, ?_⟩
    rw [bnds_lt (by omega)]
    have lt : (gapsOf ps).getD (n - 1) 0 < (bnds ps (restP ps)).getD i 0 := lt
    rw [bnds_lt c] at lt
    show _ < (bnds ps rest).getD i 0
    rw [bnds_lt c]
    exact lt
  · exfalso
    have lt : (gapsOf ps).getD (n - 1) 0 < (bnds ps (restP ps)).getD i 0 := lt
    have ei : i = ps.length - 1 := by omega
    subst ei
    rw [bnds_last hne] at lt
    have g := K.gap hL (getD_mem (b := gapsOf ps) (i := n - 1) (by rw [gaps_len]; omega))
    unfold restP at lt
    rw [if_neg hne] at lt
    omega
/-! ### the thirteen ways -/
section
variable {ps : List Int} {rest x y : Int} {k way : Nat}
theorem ofL_mem {ns : List (Nat × Int)} {i : Nat} {x : Int} (h : ofL ns i = some x) : (i, x) ∈ ns := by
  unfold ofL at h
  cases e : ns.find? fun t => decide (t.1 = i) with
  | none => rw [e] at h; cases h
  | some t =>
    rw [e] at h
    have z1 := List.mem_of_find?_eq_some e
    have z2 : t.1 = i := of_decide_eq_true (List.find?_some (p := fun t : Nat × Int => decide (t.1 = i)) e)
    have z3 : t.2 = x := Option.some.inj h
    rw [← z2, ← z3]
    exact z1
theorem sp_small (hw : way < 13) (hx : 0 ≤ x) (hx3 : x ≤ 3) (hy : 0 ≤ y) (hy3 : y ≤ 3) {i : Nat} {v : Int} (h : ofL (spL way x y) i = some v) : 0 ≤ v ∧ v ≤ 3 := by
  have m := ofL_mem h
  rcases way_cases hw with rfl | rfl | rfl | rfl | rfl | rfl | rfl | rfl | rfl | rfl | rfl | rfl | rfl <;> simp [spL] at m <;> omega
theorem gp_small (hw : way < 13) (hx : 0 ≤ x) (hx3 : x ≤ 3) (hy : 0 ≤ y) (hy3 : y ≤ 3) {i : Nat} {v : Int} (h : ofL (gpL way x y) i = some v) : 0 ≤ v ∧ (i = 0 → 1 ≤ v) := by
  have m := ofL_mem h
  rcases way_cases hw with rfl | rfl | rfl | rfl | rfl | rfl | rfl | rfl | rfl | rfl | rfl | rfl | rfl <;> simp [gpL] at m <;> omega
theorem gp_sum (hw : way < 13) (hx : 0 ≤ x) (hx3 : x ≤ 3) (hy : 0 ≤ y) (hy3 : y ≤ 3) : gz (ofL (gpL way x y)) 0 + gsum (ofL (gpL way x y)) 12 ≤ 8 ∧ gsum (ofL (gpL way x y)) 12 ≤ 8 := by
  rcases way_cases hw with rfl | rfl | rfl | rfl | rfl | rfl | rfl | rfl | rfl | rfl | rfl | rfl | rfl <;> simp [gpL, gsum, gz, ofL, List.find?_cons] <;> omega
theorem pl_given (b : List Int) (hw : way < 13) (hx : 0 ≤ x) (hx3 : x ≤ 3) (hy : 0 ≤ y) (hy3 : y ≤ 3) : Given b (ofL (spL way x y)) (ofL (gpL way x y)) := by
  have m1 := (maxOf_ge b).1
  obtain ⟨z1, z2⟩ := gp_sum hw hx hx3 hy hy3
  exact ⟨fun i v h => (gp_small hw hx hx3 hy hy3 h).1, fun v h => (gp_small hw hx hx3 hy hy3 h).2 rfl, fun i v h => (sp_small hw hx hx3 hy hy3 h).1, by omega⟩
theorem Plain.max_le (p : Plain ps rest) : maxOf (bnds ps rest) ≤ 19 := by
  by_cases c : ps = []
  · have e : bnds ps rest = [] := if_pos c
    rw [e]; decide
  · have hp := List.length_pos_iff.mpr c
    exact maxOf_le (by decide) fun z hz => by have := p.b z hz; omega
theorem Plain.max_big (p : Plain ps rest) (h : 16 ≤ ps.length) : maxOf (bnds ps rest) ≤ 4 := maxOf_le (by decide) fun z hz => by have := p.b z hz; omega
theorem pl_due (p : Plain ps rest) (hk : 2 ≤ k) (hw : way < 13) (hx : 0 ≤ x) (hx3 : x ≤ 3) (hy : 0 ≤ y) (hy3 : y ≤ 3) :
    due k (bnds ps rest) (firstOf ps rest) (decide (ps = [])) (ofL (spL way x y)) (ofL (gpL way x y)) = completed k (bnds ps rest) rest (firstOf ps rest) (mostOf ps) (ofL (spL way x y)) (ofL (gpL way x y)) := by
  refine due_is hk (by rw [bnds_len]; exact p.len) (by have := p.max_le; omega) (fun h => ?_) (pl_given _ hw hx hx3 hy hy3) ?_ (fun v h => by have := sp_small hw hx hx3 hy hy3 h; omega) (by have := p.first; omega)
  · have c : ps ≠ [] := by rintro rfl; exact h rfl
    rw [bnds_len, bnds_last c]
  · unfold mostOf firstOf
    by_cases c : ps = []
    · rw [if_pos c, decide_eq_true c, if_pos rfl]
    · rw [if_neg c, decide_eq_false c, if_neg Bool.false_ne_true, if_neg c]
/-! ### what is completed lies in range -/
theorem pl_good (p : Plain ps rest) (hk : 2 ≤ k) (hw : way < 13) (hx : 0 ≤ x) (hx3 : x ≤ 3) (hy : 0 ≤ y) (hy3 : y ≤ 3) (lv sp : List Int)
    (h : completed k (bnds ps rest) rest (firstOf ps rest) (mostOf ps) (ofL (spL way x y)) (ofL (gpL way x y)) = some (lv, sp)) : Good lv sp := by
  have G := pl_given (bnds ps rest) hw hx hx3 hy hy3
  have sm := fun {i : Nat} {v : Int} (h : ofL (spL way x y) i = some v) => sp_small hw hx hx3 hy hy3 h
  generalize ofL (spL way x y) = spf at h G sm
  generalize ofL (gpL way x y) = g at h G
  have hb := p.b
  have bl := bnds_len ps rest
  have plen := p.len
  have pm := p.max_le
  have lastb : ps ≠ [] → (bnds ps rest).getD (ps.length - 1) 0 = rest := fun c => bnds_last c
  obtain ⟨f0, f1⟩ := p.first
  have mo : mostOf ps ≤ 1000000 := by
    unfold mostOf
    unfold firstOf at f1
    by_cases c : ps = []
    · rw [if_pos c]; decide
    · rw [if_neg c] at f1 ⊢; omega
  unfold completed at h
  split at h
  · rename_i cond
    obtain ⟨⟨c1, c2⟩, ok⟩ := cond
    have F := relaxed_feas ok
    have cap := fun i => low_cap (i := i) hk G
    have l1 := lo_ge_one (k := k) (b := bnds ps rest) (sp := spf)
    have hi := fun e => lim_hi k (bnds ps rest) spf e
    generalize hb' : bnds ps rest = b at *
    generalize hL : Ls g (limits k b spf).1 = L at *
    have z := Option.some.inj h
    injection z with zl zs
    have L1 : ∀ i, i < 12 → 1 ≤ L i := fun i hi => Int.le_trans (l1 i) (F.lo i hi)
    have Lc : ∀ i, i < 12 → L i ≤ 27 := fun i hi => by
      have := cap i hi
      unfold capOf at this
      omega
    refine ⟨⟨?_, ?_, fun v hv => ?_⟩, ⟨?_, ?_, fun v hv => ?_⟩, ?_⟩
    · rw [← zl]; unfold levelsOf; simp
    · rw [← zl]; unfold levelsOf; simp
    · rw [← zl] at hv
      unfold levelsOf at hv
      obtain ⟨i, hi', rfl⟩ := List.mem_map.mp hv
      have hi' := List.mem_range.mp hi'
      have a1 := L1 i hi'
      have a2 := Lc i hi'
      by_cases c : i = 0
      · rw [if_pos c]
        subst c
        omega
      · rw [if_neg c]
        have a3 := F.fw i (by omega) hi'
        have a4 := gz_nn G i
        have a5 := L1 (i - 1) (by omega)
        omega
    · rw [← zs]; unfold spineOf; simp
    · rw [← zs]; unfold spineOf; simp
    · rw [← zs] at hv
      unfold spineOf at hv
      rcases List.mem_cons.mp hv with rfl | hv
      · omega
      · obtain ⟨e, he, rfl⟩ := List.mem_map.mp hv
        have he := List.mem_range.mp he
        cases es : spf (e + 1) with
        | some v =>
          have := sm es
          show 0 ≤ v ∧ v ≤ 1000000
          omega
        | none =>
          show 0 ≤ spineItem k b rest L e ∧ spineItem k b rest L e ≤ 1000000
          unfold spineItem
          have hpos : 1 ≤ k ^ e := Nat.pow_pos (by omega)
          have a1 := L1 e (by omega)
          by_cases c : k ^ e < b.length
          · rw [if_pos c]
            have m := hb _ (getD_mem (b := b) (i := k ^ e - 1) (by omega))
            have u := ((hi e _ b.length).mp (F.hi e (by omega))).2 (k ^ e - 1) (by omega) (by rw [show k ^ e - 1 + 1 = k ^ e by omega]; exact expo_pow hk e)
            unfold mostAt at u
            rw [show k ^ e - 1 + 1 = k ^ e by omega, if_neg (by omega), if_pos (core_pow hk e), expo_pow hk e, es] at u
            have u : L e ≤ b.getD (k ^ e - 1) 0 - 0 := u
            omega
          · rw [if_neg c]
            by_cases c2 : k ^ e = b.length
            · rw [if_pos c2]
              have hne : ps ≠ [] := by
                rintro rfl
                have bl : b.length = 0 := bl
                omega
              have m := hb _ (getD_mem (b := b) (i := ps.length - 1) (by have := List.length_pos_iff.mpr hne; omega))
              rw [lastb hne] at m
              omega
            · rw [if_neg c2]
              omega
    · rw [← zl]
      unfold levelsOf
      show 1 ≤ L 0
      exact L1 0 (by decide)
  · cases h
/-! ### not too many sums -/
theorem longer_le {b : List Int} {cap : Int} {n : Nat} (s : List Int) : (longer (win k b n cap) s).length ≤ cap.toNat := by
  have w1 := ((win_lo k b n cap _ b.length).mp (Int.le_refl _)).1
  have w2 := ((win_hi k b n cap _ b.length).mp (Int.le_refl _)).1
  have w3 := lowFrom_ge (win k b n cap).1 s
  rw [longer_eq, List.length_map, List.length_range]
  show ((win k b n cap).2 + 1 - lowFrom (win k b n cap).1 s).toNat ≤ cap.toNat
  unfold win at *
  omega
theorem sums_le {b : List Int} {cap : Int} : ∀ n, (sumsN k b cap n).length ≤ cap.toNat ^ n
  | 0 => by simp [sumsN]
  | n + 1 => by
    have ih := sums_le (b := b) (cap := cap) n
    have key : ∀ l : List (List Int), (l.flatMap (longer (win k b n cap))).length ≤ l.length * cap.toNat := by
      intro l
      induction l with
      | nil => simp
      | cons s r ih2 =>
        rw [List.flatMap_cons, List.length_append, List.length_cons, Nat.add_mul, Nat.one_mul]
        have := longer_le (k := k) (b := b) (cap := cap) (n := n) s
        omega
    show ((sumsN k b cap n).flatMap (longer (win k b n cap))).length ≤ _
    rw [Nat.pow_succ]
    exact Nat.le_trans (key _) (Nat.mul_le_mul_right _ ih)
theorem pl_size (p : Plain ps rest) (hk : 2 ≤ k) : ∀ n, n ≤ topOf k (bnds ps rest).length + 1 → (sumsN k (bnds ps rest) (capOf (bnds ps rest)) n).length ≤ sizeLine := by
  intro n hn
  have hs : sizeLine = 16777216 := sizeLine_eq
  have bl := bnds_len ps rest
  have z1 := sums_le (k := k) (b := bnds ps rest) (cap := capOf (bnds ps rest)) n
  have t5 := top_small (k := k) hk (by rw [bl]; exact p.len : (bnds ps rest).length ≤ 19)
  have c1 : (capOf (bnds ps rest)).toNat ≤ 27 := by
    have := p.max_le
    unfold capOf
    omega
  by_cases c : n ≤ 5
  · have z2 : (capOf (bnds ps rest)).toNat ^ n ≤ 27 ^ n := Nat.pow_le_pow_left c1 n
    have z3 : 27 ^ n ≤ 27 ^ 5 := Nat.pow_le_pow_right (by decide) c
    have z4 : 27 ^ 5 = 14348907 := by decide
    omega
  · have et : topOf k (bnds ps rest).length = 5 := by omega
    have en : n = 6 := by omega
    have hA : 1 ≤ (bnds ps rest).length := by
      rcases Nat.eq_zero_or_pos (bnds ps rest).length with e | e
      · rw [e] at et
        have : topOf k 0 = 1 := rfl
        omega
      · exact e
    have z5 := top_pow hk hA
    rw [et] at z5
    have z6 : 16 ≤ ps.length := by rw [← bl]; exact z5
    have c2 : (capOf (bnds ps rest)).toNat ≤ 12 := by
      have := p.max_big z6
      unfold capOf
      omega
    subst en
    have z2 : (capOf (bnds ps rest)).toNat ^ 6 ≤ 12 ^ 6 := Nat.pow_le_pow_left c2 6
    have z4 : 12 ^ 6 = 2985984 := by decide
    omega
end
end
/-! #### W26 -/
section
abbrev N_scRt : List Str := ["_law_m", "_law_fit", "_law_known_here", "_law_rest", "_law_k", "_law_way", "_law_x", "_law_y", "_law_given_here", "_law_rows", "_law_first", "_law_bounds_here", "_law_due_here", "_law_found"]
theorem scRt : FnScope N_scRt ["_law_m", "_law_fit", "_law_known_here", "_law_rest", "_law_k"] (defScope sRt) := ⟨rfl, rfl, rfl, by decide +kernel, rfl, by decide +kernel, by decide +kernel⟩
section
variable {P : Program} {w : World} {K : PySem.W.Frag} {mg : Str → Option Value} {base : Heap} {f : Addr} {fd : FuncData} {C : Addr}
theorem fn_or {CX : CXT} {k : Nat} {ps : List Str} {sp1 sp2 : Sp} (F1 : FnOk P w K mg base CX k f fd ps sp1) (F2 : FnOk P w K mg base CX k f fd ps sp2) : FnOk P w K mg base CX k f fd ps (fun vs H Q E => sp1 vs H Q E ∨ sp2 vs H Q E) where
  len := fun vs H Q E h => h.elim (F1.len vs H Q E) (F2.len vs H Q E)
  run := fun A outer s H args us vs Q E hr e0 b r h => h.elim (F1.run A outer s H args us vs Q E hr e0 b r) (F2.run A outer s H args us vs Q E hr e0 b r)
def spLCo (K : PySem.W.Frag) : Sp := fun vs H Q E => spLC K (He.ga K "PlaceFit") vs H Q E ∨ spLC K (He.ga K "ValueFit") vs H Q E
theorem lc_or {vs : List V} {H : Hp} {Q : VK} {E : XK} (hC : C = He.ga K "PlaceFit" ∨ C = He.ga K "ValueFit") (h : spLC K C vs H Q E) : spLCo K vs H Q E := by
  rcases hC with rfl | rfl
  · exact .inl h
  · exact .inr h
theorem w_par3 {i j l : Nat} {ta : TA} {D : Ends} {σ : L2.St} {H : Hp} (q : ta σ H fun vs H1 => ∃ u v w, vs = [u, v, w] ∧ D.nx (((σ.set i (some u)).set j (some v)).set l (some w)) H1) : tPar3 i j l ta D σ H := q
theorem sl_len {way : Nat} {x y : Int} (h : way < 13) : (spL way x y).length ≤ 15 := by
  rcases way_cases h with rfl | rfl | rfl | rfl | rfl | rfl | rfl | rfl | rfl | rfl | rfl | rfl | rfl <;> exact of_decide_eq_true rfl
theorem gl_len {way : Nat} {x y : Int} (h : way < 13) : (gpL way x y).length ≤ 15 := by
  rcases way_cases h with rfl | rfl | rfl | rfl | rfl | rfl | rfl | rfl | rfl | rfl | rfl | rfl | rfl <;> exact of_decide_eq_true rfl
theorem l0_ok {t : Nat × Int} (h : t ∈ ([] : List (Nat × Int))) : t.1 < 12 ∧ ofL [] t.1 = some t.2 := by cases h
theorem l1_ok {i : Nat} {v : Int} {t : Nat × Int} (hi : i < 12) (h : t ∈ [(i, v)]) : t.1 < 12 ∧ ofL [(i, v)] t.1 = some t.2 := by
  obtain rfl := List.mem_singleton.mp h
  exact ⟨hi, by simp [ofL]⟩
theorem l2_ok {i j : Nat} {v u : Int} {t : Nat × Int} (hi : i < 12) (hj : j < 12) (hn : i ≠ j) (h : t ∈ [(i, v), (j, u)]) : t.1 < 12 ∧ ofL [(i, v), (j, u)] t.1 = some t.2 := by
  rcases List.mem_cons.mp h with rfl | h
  · exact ⟨hi, by simp [ofL]⟩
  · obtain rfl := List.mem_singleton.mp h
    exact ⟨hj, by simp [ofL, hn]⟩
theorem sl_ok {way : Nat} {x y : Int} (h : way < 13) {t : Nat × Int} (ht : t ∈ spL way x y) : t.1 < 12 ∧ ofL (spL way x y) t.1 = some t.2 := by
  rcases way_cases h with rfl | rfl | rfl | rfl | rfl | rfl | rfl | rfl | rfl | rfl | rfl | rfl | rfl <;> first | exact l0_ok ht | exact l1_ok (by decide) ht | exact l2_ok (by decide) (by decide) (by decide) ht
theorem gl_ok {way : Nat} {x y : Int} (h : way < 13) {t : Nat × Int} (ht : t ∈ gpL way x y) : t.1 < 12 ∧ ofL (gpL way x y) t.1 = some t.2 := by
  rcases way_cases h with rfl | rfl | rfl | rfl | rfl | rfl | rfl | rfl | rfl | rfl | rfl | rfl | rfl <;> first | exact l0_ok ht | exact l1_ok (by decide) ht | exact l2_ok (by decide) (by decide) (by decide) ht
structure CalEq (P : Program) (w : World) (K : PySem.W.Frag) (mg : Str → Option Value) (base : Heap) : Prop where
  ok : ∃ f fd, PySem.W.findIn K (.ref (He.ga K "Schedule")) "__eq__" = some (some (.ref f)) ∧ PySem.W.isFn K (.ref f) = true ∧ FnOk P w K mg base CX0 1 f fd ["self", "other"] (spEq (REq K)) ∧ Binds K fd ["self", "other"] []
def spRt (K : PySem.W.Frag) : Sp := fun vs H Q _ => ∃ (m sc lf x p dx tp lb C : Addr) (script : List Int) (n k : Nat) (ps : List Int) (rest : Int), vs = [.ref m, .ref x, .ref p, .int rest, .int (k : Int)] ∧ MOk K H m sc lf script n ∧ n ≤ 900000 ∧ FitAt K H C x dx tp lb ps k rest (bnds ps rest) ∧ lb ≠ lf ∧ H p = some (.lst (VI ps)) ∧ p ≠ lf ∧
  (C = He.ga K "PlaceFit" ∨ C = He.ga K "ValueFit") ∧ Plain ps rest ∧ 2 ≤ k ∧ k ≤ 9 ∧ ∀ H' n', n' ≤ n + 3 → MOk K H' m sc lf script n' → Chg m lf H H' → Q (.bl true) H'
theorem ok_rt (F : FD K "_law_right" "_law_right" sRt f fd) (E : Glob K mg) (c__law_draw : Cal P w K mg base CX0 1 "_law_draw" ["_law_m", "_law_top_here"] (spDr K)) (c__law_given : Cal P w K mg base CX0 1 "_law_given" ["_law_way", "_law_x", "_law_y"] spGi)
    (c__law_bounds : Cal P w K mg base CX0 1 "_law_bounds" ["_law_known_here", "_law_rest"] spLB) (c__law_due : Cal P w K mg base CX0 4 "_law_due" ["_law_bounds_here", "_law_k", "_law_first", "_law_is_open", "_law_given_here", "_law_rows"] spDu)
    (c__law_completed : Cal P w K mg base CX0 7 "_law_completed" ["_law_fit", "_law_way", "_law_x", "_law_y"] (spLCo K)) (c_Schedule : CalMk P w K mg base 4 "Schedule" (He.ga K "Schedule") 1 ["spine", "levels"] ["self", "arity", "spine", "levels"] (spSc K)) (c_eq : CalEq P w K mg base) :
    FnOk P w K mg base CX0 8 f fd ["_law_m", "_law_fit", "_law_known_here", "_law_rest", "_law_k"] (spRt K) := by
  obtain ⟨ef, efd, e1, e2, eF, eb⟩ := c_eq.ok
  refine F.ok scRt (fun vs H Q E h => ?_) (fun cdv A outer s H vs Q _ hr h => ?_)
  · obtain ⟨m, sc, lf, x, p, dx, tp, lb, C, script, n, k, ps, rest, rfl, _⟩ := h
    rfl
  · obtain ⟨m, sc, lf, x, p, dx, tp, lb, C, script, n, k, ps, rest, rfl, M, hn, fit, nlb, hp, npl, hC, pl, hk, hk9, q⟩ := h
    refine ⟨_, PSs.nox (pss_cons (ps_par3 (i := 5) (j := 6) (l := 7) rfl scRt.nd rfl rfl rfl (by decide) (by decide) (by decide) rfl rfl rfl (pa_cons (pe_cal c__law_draw (hr.mono (by decide)) (pa_cons (pv 0) (pa_cons pe_int pa_nil))) (pa_cons (pe_cal c__law_draw (hr.mono (by decide)) (pa_cons (pv 0) (pa_cons pe_int pa_nil))) (pa_cons (pe_cal c__law_draw (hr.mono (by decide)) (pa_cons (pv 0) (pa_cons pe_int pa_nil))) pa_nil))) (by rfl))
      (pss_cons (ps_asg (pe_cal c__law_given (hr.mono (by decide)) (pa_cons (pv 5) (pa_cons (pv 6) (pa_cons (pv 7) pa_nil)))) (pg_tupK (K := K) (n := 2) rfl rfl (pgs_cons (pg_name (i := 8) scRt.nd rfl (.inl rfl)) (pgs_cons (pg_name (i := 9) scRt.nd rfl (.inl rfl)) pgs_nil))))
      (pss_cons (ps_set (i := 10) scRt.nd rfl (.inl rfl) (pe_ifExp (pt_cmpR (op_neDK (K := K) rfl hr.units) (pv 2) (pe_lst pa_nil) (nomark _)) (pe_ix (ix_listK (K := K) rfl) (pv 2) pe_int (fun _ _ => rfl)) (pv 3)))
      (pss_cons (ps_set (i := 11) scRt.nd rfl (.inl rfl) (pe_cal c__law_bounds (hr.mono (by decide)) (pa_cons (pv 2) (pa_cons (pv 3) pa_nil))))
      (pss_cons (ps_set (i := 12) scRt.nd rfl (.inl rfl) (pe_cal c__law_due (hr.mono (by decide)) (pa_cons (pv 11) (pa_cons (pv 4) (pa_cons (pv 10) (pa_cons (pe_cmpR (op_eqDK (K := K) rfl hr.units) (pv 2) (pe_lst pa_nil) (nomark _)) (pa_cons (pv 8) (pa_cons (pv 9) pa_nil))))))))
      (pss_cons (ps_set (i := 13) scRt.nd rfl (.inl rfl) (pe_cal c__law_completed (hr.mono (by decide)) (pa_cons (pv 1) (pa_cons (pv 5) (pa_cons (pv 6) (pa_cons (pv 7) pa_nil))))))
      (pss_cons (ps_if (pt_cmpR op_isN' (pv 12) pe_non (nomark _))
        (pss_one (ps_ret (pe_cmpR op_isN' (pv 13) pe_non (nomark _))))
        pss_nil)
      (pss_one (ps_ret (pe_cmpR (op_eqG (rcG_ins (C := He.ga K "Schedule") (E := E0) eF e1 e2 eb pass0) (hr.mono (by decide))) (pv 13) (pe_mk c_Schedule (hr.mono (by decide)) (pa_cons (pv 4) pa_nil) (pk_cons (pe_tup (pa_cons (pe_callTy (call_tupleK (K := K) rfl) (by rfl) E.n_tuple PyProof.Rows.Boot.«tuple» (pa_cons (pe_ix (ix_tupK (K := K) rfl) (pv 12) pe_int (fun _ _ => rfl)) pa_nil)) (pa_cons (pe_tup (pa_cons pe_int pa_nil)) pa_nil))) (pk_cons (pe_tup (pa_cons (pe_callTy (call_tupleK (K := K) rfl) (by rfl) E.n_tuple PyProof.Rows.Boot.«tuple» (pa_cons (pe_ix (ix_tupK (K := K) rfl) (pv 12) pe_int (fun _ _ => rfl)) pa_nil)) (pa_cons (pe_tup (pa_cons pe_int pa_nil)) pa_nil))) pk_nil))) (nomark _))))))))))), ?_⟩
    refine w_start (σ' := [some (.ref m), some (.ref x), some (.ref p), some (.int rest), some (.int k), none, none, none, none, none, none, none, none, none]) rfl ?_
    exists ("wq", ())
    refine w_par3 ?_
    exists ("wq", ())
    refine ⟨m, sc, lf, script, n, 13, rfl, M, by omega, by omega, by omega, fun wi H1 w0 w1 M1 c1 => ?_⟩
    exists ("wq", ())
    refine ⟨m, sc, lf, script, n + 1, 4, rfl, M1, by omega, by omega, by omega, fun xx H2 x0 x1 M2 c2 => ?_⟩
    exists ("wq", ())
    refine ⟨m, sc, lf, script, n + 2, 4, rfl, M2, by omega, by omega, by omega, fun yy H3 y0 y1 M3 c3 => ?_⟩
    exists ("wq", ())
    obtain ⟨way, rfl⟩ := Int.eq_ofNat_of_zero_le w0
    have hw13 : way < 13 := by omega
    have x3 : xx ≤ 3 := by omega
    have y3 : yy ≤ 3 := by omega
    have c03 : Chg m lf H H3 := (c1.trans c2).trans c3
    obtain ⟨left, hlf, _⟩ := M.hl
    have npm : p ≠ m := by rintro rfl; rw [M.hm] at hp; cases hp
    have hp3 := c03 _ _ hp npm npl
    have fit3 : FitAt K H3 C x dx tp lb ps k rest (bnds ps rest) := by
      refine ⟨c03 _ _ fit.x ?_ ?_, M.tup c03 fit.p, c03 _ _ fit.b ?_ nlb⟩
      · rintro rfl; have z := fit.x; rw [M.hm] at z; cases z
      · rintro rfl; have z := fit.x; rw [hlf] at z; cases z
      · rintro rfl; have z := fit.b; rw [M.hm] at z; cases z
    refine ⟨_, _, _, rfl, ?_⟩
    exists ("wq", ())
    refine ⟨way, xx, yy, rfl, hw13, fun t4 d1 d2 H4 s4 ht4 hd1 hd2 => ?_⟩
    have fit4 := fit3.to s4
    have hp4 := s4 _ _ hp3
    have M4 := M3.to s4
    have c04 : Chg m lf H H4 := c03.trans (.of s4)
    exists ("wp", ())
    refine w_gtup (SqT.of ht4) rfl ?_
    exists ("wp", ())
    refine w_newL0 (newL fun e5 H5 he5 s5 h5 => ?_)
    refine w_neL0 (ns := ps) (by exists ("hp", ())) h5 ?_
    exists ("wp", ())
    refine w_iteN (fun c => ?_) (fun c => ?_)
    · exists ("wq", ())
      refine w_ixIn (i := 0) (ns := ps) (by exists ("hp", ())) (List.length_pos_iff.mpr c) ?_
      have efst : ps.getD 0 0 = firstOf ps rest := (if_neg c).symm
      exists ("wq", ())
      refine ⟨p, ps, rest, rfl, (by exists ("hp", ())), by have := pl.len; omega, fun q6 H6 hq6 s6 h6 => ?_⟩
      exists ("wq", ())
      rename_i e7 H7 he7 s7 h7
      refine w_eqL0 (ns := ps) (by exists ("hp", ())) h7 ?_
      exists ("wq", ())
      have s47 : Same H4 H7 := (by exists ("sm", ()))
      have bl := bnds_len ps rest
      have d27 := s47 _ _ hd2
      have d17 := s47 _ _ hd1
      refine ⟨q6, d1, d2, bnds ps rest, k, firstOf ps rest, decide (ps = []), ofL (spL way xx yy), ofL (gpL way xx yy), by rw [← efst], s7 _ _ h6, (dgk_of d17 (sl_len hw13) (fun t ht => sl_ok hw13 ht)).1, dgk_of d27 (gl_len hw13) (fun t ht => gl_ok hw13 ht), hk, hk9, by rw [bl]; exact pl.len,
        fun z hz => by have := pl.b z hz; omega, pl_size pl hk, ?_⟩
      rw [pl_due pl hk hw13 x0 x3 y0 y3]
      have fit7 : FitAt K H7 C x dx tp lb ps k rest (bnds ps rest) := fit4.to s47
      have c07 : Chg m lf H H7 := c04.trans (.of s47)
      have M7 := M4.to s47
      have gd := fun way' (h : way' < 13) => pl_good (ps := ps) (rest := rest) (k := k) pl hk h x0 x3 y0 y3
      cases ec : completed k (bnds ps rest) rest (firstOf ps rest) (mostOf ps) (ofL (spL way xx yy)) (ofL (gpL way xx yy)) with
      | none =>
        intro H8 s8
        have fit8 := fit7.to s8
        exists ("wq", ())
        refine lc_or hC ⟨x, ps, bnds ps rest, k, rest, way, xx, yy, rfl, ⟨dx, tp, lb, fit8⟩, hk, hk9, by rw [bl]; exact pl.len, hw13, ⟨x0, x3, y0, y3⟩, gd, fun v H9 s9 an => ?_⟩
        rw [ec] at an
        obtain rfl : v = .non := an
        exists ("wq", ())
        have s79 : Same H7 H9 := s8.trans s9
        exact q H9 (n + 3) (Nat.le_refl _) (M7.to s79) (c07.trans (.of s79))
      | some r =>
        obtain ⟨lv, sp⟩ := r
        intro t8 a8 c8 H8 ht8 s8 h8 ha8 hc8
        have fit8 := fit7.to s8
        obtain ⟨gd1, gd2, gd3⟩ := gd way hw13 lv sp ec
        exists ("wq", ())
        refine lc_or hC ⟨x, ps, bnds ps rest, k, rest, way, xx, yy, rfl, ⟨dx, tp, lb, fit8⟩, hk, hk9, by rw [bl]; exact pl.len, hw13, ⟨x0, x3, y0, y3⟩, gd, fun v H9 s9 an => ?_⟩
        rw [ec] at an
        obtain ⟨y, rfl, sch⟩ := an
        exists ("wq", ())
        refine w_ixT (i := 1) (SqT.of (by exists ("hp", ()))) rfl ?_
        exists ("wq", ())
        refine w_tupL (xs := VI sp) (by exists ("hp", ())) fun p18 H18 hp18 s18 h18 => ?_
        exists ("wq", ())
        rename_i p19 H19 hp19 s19 h19 p20 H20 hp20 s20 h20
        refine w_ixT (i := 0) (SqT.of (by exists ("hp", ()))) rfl ?_
        exists ("wq", ())
        refine w_tupL (xs := VI lv) (by exists ("hp", ())) fun p21 H21 hp21 s21 h21 => ?_
        exists ("wq", ())
        rename_i p22 H22 hp22 s22 h22 p23 H23 hp23 s23 h23
        refine ⟨rfl, rfl, fun z dz hz hdz hne => ?_⟩
        have st1 : Str2 H23 p20 sp [0] := by
          have z1 : H23 p20 = some (.tup [.ref p18, .ref p19]) := (by exists ("hp", ()))
          have z2 : H23 p18 = some (.tup (VI sp)) := (by exists ("hp", ()))
          have z3 : H23 p19 = some (.tup [.int 0]) := (by exists ("hp", ()))
          exact ⟨p18, p19, z1, z2, z3⟩
        have st2 : Str2 H23 p23 lv [0] := by
          have z2 : H23 p21 = some (.tup (VI lv)) := (by exists ("hp", ()))
          have z3 : H23 p22 = some (.tup [.int 0]) := (by exists ("hp", ()))
          exact ⟨p21, p22, h23, z2, z3⟩
        have s923 : Same H9 H23 := (by exists ("sm", ()))
        have s823 : Same H7 H23 := (s8.trans s9).trans s923
        have kp := made_keep (C := He.ga K "Schedule") hz hdz
        refine ⟨z, p20, p23, dz, k, sp, lv, rfl, upd_same, hk, hk9, st1.to kp, st2.to kp, gd2, gd1, gd3, fun H24 b24 sch2 => ⟨rfl, ?_⟩⟩
        have sN : Same H23 H24 := made_same hz hdz b24
        have schA := (sch.to s923).to sN
        obtain ⟨dA, pA, lA, hA, nA, mA⟩ := id schA
        obtain ⟨dB, pB, lB, hB, nB, mB⟩ := id sch2
        refine ⟨⟨y, z, dA, dB, _, _, rfl, rfl, hA, hB, k, sp, lv, schA, sch2⟩, fun H25 ext => ?_⟩
        have sE : Same H24 H25 := fun a o h => ext a o h
        exact q _ (n + 3) (Nat.le_refl _) (((M7.to s823).to sN).to sE) (((c07.trans (.of s823)).trans (.of sN)).trans (.of sE))
    · have efst : rest = firstOf ps rest := (if_pos c).symm
      exists ("wq", ())
      refine ⟨p, ps, rest, rfl, (by exists ("hp", ())), by have := pl.len; omega, fun q6 H6 hq6 s6 h6 => ?_⟩
      exists ("wq", ())
      rename_i e7 H7 he7 s7 h7
      refine w_eqL0 (ns := ps) (by exists ("hp", ())) h7 ?_
      exists ("wq", ())
      have s47 : Same H4 H7 := (by exists ("sm", ()))
      have bl := bnds_len ps rest
      have d27 := s47 _ _ hd2
      have d17 := s47 _ _ hd1
      refine ⟨q6, d1, d2, bnds ps rest, k, firstOf ps rest, decide (ps = []), ofL (spL way xx yy), ofL (gpL way xx yy), by rw [← efst], s7 _ _ h6, (dgk_of d17 (sl_len hw13) (fun t ht => sl_ok hw13 ht)).1, dgk_of d27 (gl_len hw13) (fun t ht => gl_ok hw13 ht), hk, hk9, by rw [bl]; exact pl.len,
        fun z hz => by have := pl.b z hz; omega, pl_size pl hk, ?_⟩
      rw [pl_due pl hk hw13 x0 x3 y0 y3]
      have fit7 : FitAt K H7 C x dx tp lb ps k rest (bnds ps rest) := fit4.to s47
      have c07 : Chg m lf H H7 := c04.trans (.of s47)
      have M7 := M4.to s47
      have gd := fun way' (h : way' < 13) => pl_good (ps := ps) (rest := rest) (k := k) pl hk h x0 x3 y0 y3
      cases ec : completed k (bnds ps rest) rest (firstOf ps rest) (mostOf ps) (ofL (spL way xx yy)) (ofL (gpL way xx yy)) with
      | none =>
        intro H8 s8
        have fit8 := fit7.to s8
        exists ("wq", ())
        refine lc_or hC ⟨x, ps, bnds ps rest, k, rest, way, xx, yy, rfl, ⟨dx, tp, lb, fit8⟩, hk, hk9, by rw [bl]; exact pl.len, hw13, ⟨x0, x3, y0, y3⟩, gd, fun v H9 s9 an => ?_⟩
        rw [ec] at an
        obtain rfl : v = .non := an
        exists ("wq", ())
        have s79 : Same H7 H9 := s8.trans s9
        exact q H9 (n + 3) (Nat.le_refl _) (M7.to s79) (c07.trans (.of s79))
      | some r =>
        obtain ⟨lv, sp⟩ := r
        intro t8 a8 c8 H8 ht8 s8 h8 ha8 hc8
        have fit8 := fit7.to s8
        obtain ⟨gd1, gd2, gd3⟩ := gd way hw13 lv sp ec
        exists ("wq", ())
        refine lc_or hC ⟨x, ps, bnds ps rest, k, rest, way, xx, yy, rfl, ⟨dx, tp, lb, fit8⟩, hk, hk9, by rw [bl]; exact pl.len, hw13, ⟨x0, x3, y0, y3⟩, gd, fun v H9 s9 an => ?_⟩
        rw [ec] at an
        obtain ⟨y, rfl, sch⟩ := an
        exists ("wq", ())
        refine w_ixT (i := 1) (SqT.of (by exists ("hp", ()))) rfl ?_
        exists ("wq", ())
        refine w_tupL (xs := VI sp) (by exists ("hp", ())) fun p18 H18 hp18 s18 h18 => ?_
        exists ("wq", ())
        rename_i p19 H19 hp19 s19 h19 p20 H20 hp20 s20 h20
        refine w_ixT (i := 0) (SqT.of (by exists ("hp", ()))) rfl ?_
        exists ("wq", ())
        refine w_tupL (xs := VI lv) (by exists ("hp", ())) fun p21 H21 hp21 s21 h21 => ?_
        exists ("wq", ())
        rename_i p22 H22 hp22 s22 h22 p23 H23 hp23 s23 h23
        refine ⟨rfl, rfl, fun z dz hz hdz hne => ?_⟩
        have st1 : Str2 H23 p20 sp [0] := by
          have z1 : H23 p20 = some (.tup [.ref p18, .ref p19]) := (by exists ("hp", ()))
          have z2 : H23 p18 = some (.tup (VI sp)) := (by exists ("hp", ()))
          have z3 : H23 p19 = some (.tup [.int 0]) := (by exists ("hp", ()))
          exact ⟨p18, p19, z1, z2, z3⟩
        have st2 : Str2 H23 p23 lv [0] := by
          have z2 : H23 p21 = some (.tup (VI lv)) := (by exists ("hp", ()))
          have z3 : H23 p22 = some (.tup [.int 0]) := (by exists ("hp", ()))
          exact ⟨p21, p22, h23, z2, z3⟩
        have s923 : Same H9 H23 := (by exists ("sm", ()))
        have s823 : Same H7 H23 := (s8.trans s9).trans s923
        have kp := made_keep (C := He.ga K "Schedule") hz hdz
        refine ⟨z, p20, p23, dz, k, sp, lv, rfl, upd_same, hk, hk9, st1.to kp, st2.to kp, gd2, gd1, gd3, fun H24 b24 sch2 => ⟨rfl, ?_⟩⟩
        have sN : Same H23 H24 := made_same hz hdz b24
        have schA := (sch.to s923).to sN
        obtain ⟨dA, pA, lA, hA, nA, mA⟩ := id schA
        obtain ⟨dB, pB, lB, hB, nB, mB⟩ := id sch2
        refine ⟨⟨y, z, dA, dB, _, _, rfl, rfl, hA, hB, k, sp, lv, schA, sch2⟩, fun H25 ext => ?_⟩
        have sE : Same H24 H25 := fun a o h => ext a o h
        exact q _ (n + 3) (Nat.le_refl _) (((M7.to s823).to sN).to sE) (((c07.trans (.of s823)).trans (.of sN)).trans (.of sE))
end
end
/-! #### W27 -/
section
abbrev N_scLw : List Str := ["_law_script", "_law_m", "_law_turn", "_law_k", "_law_seen_here", "_law_known_here", "_law_fit", "_law_rest", "_law_firm"]
theorem scLw : FnScope N_scLw ["_law_script"] (defScope sLw) := ⟨rfl, rfl, rfl, by decide +kernel, rfl, by decide +kernel, by decide +kernel⟩
def spLaw (K : PySem.W.Frag) : Sp := fun vs H Q _ => ∃ (sc : Addr) (script : List Int), vs = [.ref sc] ∧ SqL K H sc (VI script) ∧ script.length ≤ 63 ∧ ∀ H', Q (.bl true) H'
theorem rest_at (ps : List Int) : (ps ++ [0]).getD (max (0 : Int) ((ps.length : Int) - 1)).toNat 0 = lastOf ps := by
  unfold lastOf
  by_cases c : ps = []
  · subst c; rfl
  · rw [if_neg c]
    have hp := List.length_pos_iff.mpr c
    rw [show (max (0 : Int) ((ps.length : Int) - 1)).toNat = ps.length - 1 by omega, List.getD_eq_getElem?_getD, List.getElem?_append_left (by omega), List.getD_eq_getElem?_getD]
section
variable {P : Program} {w : World} {K : PySem.W.Frag} {mg : Str → Option Value} {base : Heap} {f : Addr} {fd : FuncData} {C : Addr}
theorem ok_lw (F : FD K "law" "law" sLw f fd) (E : Glob K mg) (c__law_begun : Cal P w K mg base CX0 1 "_law_begun" ["_law_script"] (spBe K)) (c__law_draw : Cal P w K mg base CX0 1 "_law_draw" ["_law_m", "_law_top_here"] (spDr K))
    (c__law_random : Cal P w K mg base CX0 4 "_law_random" ["_law_m", "_law_k", "_law_most"] (spRa K)) (c__law_known : Cal P w K mg base CX0 1 "_law_known" ["_law_seen_here"] spKn)
    (c__law_made : Cal P w K mg base CX0 8 "_law_made" ["_law_values_here", "_law_k", "_law_is_exact"] (spMa K)) (c__law_right : Cal P w K mg base CX0 8 "_law_right" ["_law_m", "_law_fit", "_law_known_here", "_law_rest", "_law_k"] (spRt K)) :
    FnOk P w K mg base CX0 9 f fd ["_law_script"] (spLaw K) := by
  refine F.ok scLw (fun vs H Q E h => ?_) (fun cdv A outer s H vs Q _ hr h => ?_)
  · obtain ⟨sc, script, rfl, _⟩ := h
    rfl
  · obtain ⟨sc, script, rfl, hs, hn, q⟩ := h
    refine ⟨_, PSs.nox (pss_cons (ps_set (i := 1) scLw.nd rfl (.inl rfl) (pe_cal c__law_begun (hr.mono (by decide)) (pa_cons (pv 0) pa_nil)))
      (pss_cons (ps_for PassesOwn.never rfl (pi_range1 (by rfl) E.n_range (pa_cons (pe_op op_add pe_int (pe_callB (call_mn2 rfl) (by rfl) E.n_min PyProof.Rows.Boot.«min» (pa_cons pe_int (pa_cons (pe_callB (call_lenK (K := K) rfl) (by rfl) E.n_len PySem.boot_len (pa_cons (pv 0) pa_nil)) pa_nil)))) pa_nil)) (pg_name (i := 2) scLw.nd rfl (.inl rfl))
        (pss_cons (ps_set (i := 3) scLw.nd rfl (.inl rfl) (pe_op op_add pe_int (pe_cal c__law_draw (hr.mono (by decide)) (pa_cons (pv 1) (pa_cons pe_int pa_nil)))))
        (pss_cons (ps_set (i := 4) scLw.nd rfl (.inl rfl) (pe_cal c__law_random (hr.mono (by decide)) (pa_cons (pv 1) (pa_cons (pv 3) (pa_cons pe_int pa_nil)))))
        (pss_cons (ps_set (i := 5) scLw.nd rfl (.inl rfl) (pe_cal c__law_known (hr.mono (by decide)) (pa_cons (pv 4) pa_nil)))
        (pss_cons (ps_set (i := 6) scLw.nd rfl (.inl rfl) (pe_cal c__law_made (hr.mono (by decide)) (pa_cons (pv 4) (pa_cons (pv 3) (pa_cons pe_bl pa_nil)))))
        (pss_one (ps_if (pt_cmpR op_notN' (pv 6) pe_non (nomark _))
          (pss_cons (ps_set (i := 7) scLw.nd rfl (.inl rfl) (pe_op op_sub (pe_callB (call_lenK (K := K) rfl) (by rfl) E.n_len PySem.boot_len (pa_cons (pv 4) pa_nil)) (pe_ix (ix_listK (K := K) rfl) (pe_op op_cat (pv 5) (pe_lst (pa_cons pe_int pa_nil))) (pe_callB (call_mx2 rfl) (by rfl) E.n_max PyProof.Rows.Boot.«max» (pa_cons pe_int (pa_cons (pe_op op_sub (pe_callB (call_lenK (K := K) rfl) (by rfl) E.n_len PySem.boot_len (pa_cons (pv 5) pa_nil)) pe_int) pa_nil))) (fun _ _ => rfl))))
          (pss_cons (ps_if (pt_not (pt_val (pe_cal c__law_right (hr.mono (by decide)) (pa_cons (pv 1) (pa_cons (pv 6) (pa_cons (pv 5) (pa_cons (pv 7) (pa_cons (pv 3) pa_nil))))))))
            (pss_one (ps_ret pe_bl))
            pss_nil)
          (pss_cons (ps_set (i := 8) scLw.nd rfl (.inl rfl) (pe_cal c__law_made (hr.mono (by decide)) (pa_cons (pv 5) (pa_cons (pv 3) (pa_cons pe_bl pa_nil)))))
          (pss_one (ps_if (pt_not (pt_val (pe_cal c__law_right (hr.mono (by decide)) (pa_cons (pv 1) (pa_cons (pv 8) (pa_cons (pv 5) (pa_cons (pe_callTy call_intK (by rfl) E.n_int PyProof.Rows.Boot.«int» (pa_cons (pe_cmpR (op_neDK (K := K) rfl hr.units) (pv 5) (pe_lst pa_nil) (nomark _)) pa_nil)) (pa_cons (pv 3) pa_nil))))))))
            (pss_one (ps_ret pe_bl))
            pss_nil)))))
          pss_nil)))))))
      (pss_one (ps_ret pe_bl)))), ?_⟩
    refine w_start (σ' := [some (.ref sc), none, none, none, none, none, none, none, none]) rfl ?_
    exists ("wq", ())
    refine ⟨sc, script, rfl, hs, by omega, fun m lf H1 hm s1 M1 => ?_⟩
    exists ("wq", ())
    rw [List.length_map]
    refine ⟨3 + min 2 (script.length : Int), rfl, by omega, by omega, ?_⟩
    refine for_it (walk_range (lo := 0) (n := (3 + min 2 (script.length : Int)).toNat)) (fun i σ H' => ∃ t2 t3 t4 t5 t6 t7 t8 n, σ = [some (.ref sc), some (.ref m), t2, t3, t4, t5, t6, t7, t8] ∧ MOk K H' m sc lf script n ∧ n ≤ 200 * i) ⟨_, _, _, _, _, _, _, 0, rfl, M1, Nat.le_refl _⟩ (fun _ _ _ _ _ => trivial) ?_ ?_
    · rintro i x σ H2 H2' hi ⟨t2, t3, t4, t5, t6, t7, t8, n, rfl, M2, hn2⟩ ⟨rfl, rfl⟩
      have hn3 : n ≤ 1000 := by omega
      exists ("wq", ())
      refine ⟨m, sc, lf, script, n, 8, rfl, M2, by omega, by omega, by omega, fun kr H3 k0 k1 M3 c3 => ?_⟩
      exists ("wq", ())
      obtain ⟨k, ek, hk, hk9⟩ : ∃ k : Nat, 2 + kr = (k : Int) ∧ 2 ≤ k ∧ k ≤ 9 := ⟨(2 + kr).toNat, by omega, by omega, by omega⟩
      rw [ek]
      refine ⟨m, sc, lf, script, n + 1, k, rfl, M3, by omega, hk, hk9, fun r sn H4 n4 ln4 M4 c4 hr4 h4 up l1 l19 => ?_⟩
      exists ("wq", ())
      refine ⟨r, sn, rfl, h4, by omega, fun p H5 hp5 s5 h5 => ?_⟩
      have M5 := M4.to s5
      have npl := (M4.ne hp5).2
      have npm := (M4.ne hp5).1
      have kl := known_len sn
      exists ("wq", ())
      refine ⟨r, sn, k, false, rfl, s5 _ _ h4, l19, hk, hk9, ⟨up, l1⟩, fun nc x H6 hx6 s6 fitN => ?_, fun cf H6 s6 => ?_⟩
      · obtain ⟨dx, tp, lb, fit, hlb⟩ := fitN
        have M6 := M5.to s6
        have nlb := (M5.ne hlb).2
        have h6 := s6 _ _ h5
        have r6 := s6 _ _ (s5 _ _ h4)
        exists ("wq", ())
        rw [List.length_map]
        rename_i e7 H7 he7 s7 h7
        refine w_catL (xs := VI (known sn)) (by exists ("hp", ())) h7 (small_le (by simp; omega)) fun p8 H8 hp8 s8 h8 => ?_
        have h8 : H8 p8 = some (.lst (VI (known sn ++ [0]))) := by rw [h8, VI, VI, List.map_append] <;> rfl
        exists ("wq", ())
        rw [List.length_map]
        refine w_ixI (ns := known sn ++ [0]) (SqL.of h8) (by omega) (by simp; omega) ?_
        rw [rest_at]
        exists ("wq", ())
        have s68 : Same H6 H8 := s7.trans s8
        have fit8 := fit.to s68
        have h58 := s68 _ _ h6
        have M8 := M6.to s68
        refine ⟨m, sc, lf, x, p, dx, tp, lb, _, script, n4, k, known sn, restV sn, rfl, M8, by omega, fit8, nlb, h58, npl, .inr rfl, plainV l19, hk, hk9, fun H9 n9 ln9 M9 c9 => ?_⟩
        exists ("wq", ())
        have h9 := c9 _ _ h58 npm npl
        have kn := known_kn sn
        refine ⟨p, known sn, k, true, rfl, h9, by omega, hk, hk9, kn.inc l19, fun nc2 x2 H10 hx10 s10 fitN2 => ?_, fun cf2 => absurd (conf_firm kn l19 cf2) nc⟩
        obtain ⟨dx2, tp2, lb2, fit2, hlb2⟩ := fitN2
        have nlb2 := (M9.ne hlb2).2
        exists ("wq", ())
        rename_i e11 H11 he11 s11 h11
        refine w_intB ?_
        exists ("wq", ())
        have s911 : Same H9 H11 := s10.trans s11
        refine ⟨m, sc, lf, x2, p, dx2, tp2, lb2, _, script, n9, k, known sn, restP (known sn), ?_, M9.to s911, by omega, fit2.to s11, nlb2, s911 _ _ h9, npl, .inl rfl, plainP kn l19, hk, hk9, fun H12 n12 ln12 M12 c12 => ?_⟩
        · have e : (if (!decide (known sn = [])) = true then (1 : Int) else 0) = restP (known sn) := by
            unfold restP
            by_cases c : known sn = []
            · rw [if_pos c, decide_eq_true c] <;> rfl
            · rw [if_neg c, decide_eq_false c] <;> rfl
          rw [e]
        · exists ("wq", ())
          exact ⟨_, _, _, _, _, _, _, n12, rfl, M12, by omega⟩
      · exists ("wq", ())
        exact ⟨_, _, _, _, _, _, _, n4, rfl, M5.to s6, by omega⟩
    · rintro σ H2 ⟨t2, t3, t4, t5, t6, t7, t8, n, rfl, M2, hn2⟩
      exists ("wq", ())
      exact q _
end
end
/-! #### K45Asm -/
section
/-! ### the parts, by names -/
section
variable {P : Program} {w : World} {K : PySem.W.Frag} {h base : Heap} {mg : Str → Option Value}
theorem kb_all {x qual : Str} {params : Arguments} {body : List Stmt} {scope : Scope} {kws : List (Str × V)} {f : Addr} {fd : FuncData} {ps ks : List Str} {n : Nat} (F : FunD K x qual params body scope [] kws f fd)
    (h : ∀ (kV doc pm : Value) (an : Option Addr) (cdv ct : Value) (us ws : List Value), us.length = n → ws.length = ks.length → bindArgs (PySem.W.fnOf x qual params body scope .none kV doc pm an cdv ct) ⟨us, ks.zip ws⟩ = pure (ps.zip (us ++ ws))) :
    KBn K fd ps n ks (fun us ws => us ++ ws) (fun vs zs => vs ++ zs) := by
  obtain ⟨oc, od, dV, kV, doc, pm, an, cdv, ct, osl, rfl, lk, hcd, hD, hK⟩ := F.ex
  rcases hD with ⟨_, rfl⟩ | ⟨e, _⟩
  · exact ⟨fun s us ws X l1 l2 => .of_eq (h kV doc pm an cdv ct us ws l1 l2), fun r1 r2 => r1.append r2⟩
  · exact absurd rfl e
theorem fc_ok {C : Str} (c1 : (He.Fa.cls C).ok K = true) (h1 : (He.Fa.noat C "own_places").ok K = true) (h2 : (He.Fa.noat C "own_arity").ok K = true) (h3 : (He.Fa.noat C "own_rest").ok K = true) (h4 : (He.Fa.noat C "own_bounds").ok K = true) : FitC K (He.ga K C) := by
  refine ⟨He.cls_ok c1, fun f hf => ?_⟩
  simp only [List.mem_cons, List.not_mem_nil, or_false] at hf
  rcases hf with rfl | rfl | rfl | rfl
  · exact He.noat_ok h1
  · exact He.noat_ok h2
  · exact He.noat_ok h3
  · exact He.noat_ok h4
theorem fit_P (c : SaysX K) : FitC K (He.ga K "PlaceFit") := fc_ok (c.d.fact 68 rfl) (c.d.fact 75 rfl) (c.d.fact 76 rfl) (c.d.fact 77 rfl) (c.d.fact 78 rfl)
theorem fit_V (c : SaysX K) : FitC K (He.ga K "ValueFit") := fc_ok (c.d.fact 70 rfl) (c.d.fact 79 rfl) (c.d.fact 80 rfl) (c.d.fact 81 rfl) (c.d.fact 82 rfl)
theorem glob_ok (X : K.In h) (G : h.Ns mainGlobals mg) (c : SaysX K) : Glob K mg where
  n_len := He.free_ok X G (c.d.fact 0 rfl)
  n_max := He.free_ok X G (c.d.fact 1 rfl)
  n_min := He.free_ok X G (c.d.fact 2 rfl)
  n_isinstance := He.free_ok X G (c.d.fact 3 rfl)
  n_all := He.free_ok X G (c.d.fact 4 rfl)
  n_int := He.free_ok X G (c.d.fact 5 rfl)
  n_bool := He.free_ok X G (c.d.fact 6 rfl)
  n_tuple := He.free_ok X G (c.d.fact 7 rfl)
  n_list := He.free_ok X G (c.d.fact 8 rfl)
  n_str := He.free_ok X G (c.d.fact 9 rfl)
  n_range := He.free_ok X G (c.d.fact 10 rfl)
  n_enumerate := He.free_ok X G (c.d.fact 11 rfl)
  n_zip := He.free_ok X G (c.d.fact 12 rfl)
  kFRONT_LIMIT := He.int_ok X G (c.d.fact 13 rfl)
  kLOOP_LIMIT := He.int_ok X G (c.d.fact 14 rfl)
  kLABEL_LIMIT := He.int_ok X G (c.d.fact 15 rfl)
  kARITY_LIMIT := He.int_ok X G (c.d.fact 16 rfl)
  kMOST_LABELS := He.int_ok X G (c.d.fact 17 rfl)
  kITEM_COUNT := He.int_ok X G (c.d.fact 18 rfl)
  kUNLIMITED := He.int_ok X G (c.d.fact 19 rfl)
  g_Schedule := (He.glo_ok X G (c.d.fact 60 rfl))
  g_PlaceFit := (He.glo_ok X G (c.d.fact 61 rfl))
  g_ValueFit := (He.glo_ok X G (c.d.fact 62 rfl))
  g_Conflict := (He.glo_ok X G (c.d.fact 63 rfl))
  cSchedule := He.cls_ok (c.d.fact 66 rfl)
  cPlaceFit := (fit_P c).cls
  cValueFit := (fit_V c).cls
  aSchedule := fun f hf => by
    simp only [List.mem_cons, List.not_mem_nil, or_false] at hf
    rcases hf with rfl | rfl | rfl
    · exact He.noat_ok (c.d.fact 72 rfl)
    · exact He.noat_ok (c.d.fact 73 rfl)
    · exact He.noat_ok (c.d.fact 74 rfl)
  aPlaceFit := (fit_P c).no
  aValueFit := (fit_V c).no
  tSchedule := fun H a dx fs e => TyOf.ins e (He.cls_ok (c.d.fact 66 rfl)) (He.eqO_ok (more_at c.m 2 rfl)) (He.eqO_ok (more_at c.m 3 rfl)) (of_decide_eq_true (more_at c.m 4 rfl)) (of_decide_eq_true (more_at c.m 5 rfl))
  y_INDEXES := fun H => .inr (.inl ⟨rfl, plainTup_ok (more_at c.m 1 rfl)⟩)
  g_INDEXES := (He.glo_ok X G (c.d.fact 65 rfl))
  t_INDEXES := fun H => He.tupB_ok (more_at c.m 0 rfl) H
theorem conf_ok (X : K.In h) (G : h.Ns mainGlobals mg) (c : SaysX K) : ConfC K mg where
  g_StateError := (He.glo_ok X G (c.d.fact 64 rfl))
  se := ⟨.type "type", ⟨(more_at c.m 8 rfl), He.eqO_ok (more_at c.m 9 rfl)⟩, foundV_ok (more_at c.m 14 rfl)⟩
  rt := {
    made := (more_at c.m 15 rfl)
    over := (more_at c.m 16 rfl)
    dct := (more_at c.m 17 rfl)
    sa := He.eqO_ok (more_at c.m 18 rfl)
    tk := fun f hf => by
      simp only [List.mem_cons, List.not_mem_nil, or_false] at hf
      rcases hf with rfl | rfl
      · exact He.eqO_ok (more_at c.m 19 rfl)
      · exact He.eqO_ok (more_at c.m 20 rfl)
    exC := of_decide_eq_true (more_at c.m 21 rfl)
    tyC := of_decide_eq_true (more_at c.m 22 rfl)
    kC := (more_at c.m 23 rfl) }
  ex := of_decide_eq_true (c.d.fact 100 rfl)
theorem kss_nodup : ∀ ks ∈ KSS, ks.Nodup := by decide
theorem kss_len : ∀ ks ∈ KSS, ks.length ≤ 30 := by decide
theorem parts (P : Program) (w : World) (X : K.In h) (G : h.Ns mainGlobals mg) (c : SaysX K) :
    ∃ fd : FuncData, (∀ (s : Shared) (us : List Value), us.length = 1 → BindsTo s fd ⟨us, []⟩ ((["_law_script"] : List Str).zip us)) ∧ ∀ base : Heap, FnOk P w K mg base CX0 9 (He.ga K "law") fd ["_law_script"] (spLaw K) := by
  obtain ⟨fd, F⟩ := c.d.def_ 39 rfl
  refine ⟨fd, fun s us hl => FunD.bindsA (ps := ["_law_script"]) F (fun _ _ _ _ _ _ us hl => match us, hl with | [_], _ => rfl) s us hl, fun base => ?_⟩
  have E : Glob K mg := glob_ok X G c
  have CC : ConfC K mg := conf_ok X G c
  have FP := fit_P c
  have FV := fit_V c
  have c_is_integer : CalK P w K mg base CX0 1 "is_integer" ["value", "low", "high"] 1 ["low", "high"] spInt := by
    obtain ⟨fd, F⟩ := c.d.def_ 0 rfl
    exact ⟨⟨fd, ok_int F E, kb_all F fun _ _ _ _ _ _ us ws hl hw => match us, ws, hl, hw with | [_], [_, _], _, _ => rfl⟩, (He.glo_ok X G (c.d.fact 20 rfl)), F.kp⟩
  have c_check_integer : Cal P w K mg base CX0 2 "check_integer" ["value", "low", "high"] spChk := by
    obtain ⟨fd, F⟩ := c.d.def_ 1 rfl
    obtain ⟨ds, vd, hb⟩ := FunD.binds1 (ps := ["value", "low", "high"]) F 3 1 (List.cons_ne_nil _ _) rfl (fun T kV doc pm an cdv ct us its hl h2 => match us, its, hl, h2 with | [_, _, _], [_], _, _ => ⟨_, rfl, rfl⟩)
    cases vd
    exact ⟨⟨fd, ok_chk F c_is_integer, hb⟩, (He.glo_ok X G (c.d.fact 21 rfl)), F.kp⟩
  have c_check_arity : Cal P w K mg base CX0 3 "check_arity" ["arity"] spAr := cal_of (st := sAr) ⟨c.d.def_ 2 rfl, (He.glo_ok X G (c.d.fact 22 rfl))⟩ (fun fd F => ok_ar F c_check_integer) (fun _ _ _ _ _ _ us hl => match us, hl with | [_], _ => rfl)
  have c_split_number : Cal P w K mg base CX0 1 "split_number" ["number", "arity"] spSpl := cal_of (st := sSpl) ⟨c.d.def_ 3 rfl, (He.glo_ok X G (c.d.fact 23 rfl))⟩ (fun fd F => ok_spl F ) (fun _ _ _ _ _ _ us hl => match us, hl with | [_, _], _ => rfl)
  have c__law_split : Cal P w K mg base CX0 1 "_law_split" ["_law_number", "_law_k"] spSpl := cal_of (st := sLSp) ⟨c.d.def_ 4 rfl, (He.glo_ok X G (c.d.fact 24 rfl))⟩ (fun fd F => ok_lsp F ) (fun _ _ _ _ _ _ us hl => match us, hl with | [_, _], _ => rfl)
  have c_power_of : Cal P w K mg base CX0 1 "power_of" ["arity", "exponent"] spPow := cal_of (st := sPow) ⟨c.d.def_ 5 rfl, (He.glo_ok X G (c.d.fact 25 rfl))⟩ (fun fd F => ok_pow F E) (fun _ _ _ _ _ _ us hl => match us, hl with | [_, _], _ => rfl)
  have c__law_power : Cal P w K mg base CX0 1 "_law_power" ["_law_k", "_law_height"] spPow := cal_of (st := sLPw) ⟨c.d.def_ 6 rfl, (He.glo_ok X G (c.d.fact 26 rfl))⟩ (fun fd F => ok_lpw F E) (fun _ _ _ _ _ _ us hl => match us, hl with | [_, _], _ => rfl)
  have c_places_in : Cal P w K mg base CX0 1 "places_in" ["values"] spPl := cal_of (st := sPl) ⟨c.d.def_ 7 rfl, (He.glo_ok X G (c.d.fact 27 rfl))⟩ (fun fd F => ok_pl F E) (fun _ _ _ _ _ _ us hl => match us, hl with | [_], _ => rfl)
  have c_rest_of : Cal P w K mg base CX0 1 "rest_of" ["values", "places"] (spRe K) := cal_of (st := sRe) ⟨c.d.def_ 8 rfl, (He.glo_ok X G (c.d.fact 28 rfl))⟩ (fun fd F => ok_re F E) (fun _ _ _ _ _ _ us hl => match us, hl with | [_, _], _ => rfl)
  have c_bounds_of : Cal P w K mg base CX0 1 "bounds_of" ["places", "rest"] (spBo K) := cal_of (st := sBo) ⟨c.d.def_ 9 rfl, (He.glo_ok X G (c.d.fact 29 rfl))⟩ (fun fd F => ok_bo F E) (fun _ _ _ _ _ _ us hl => match us, hl with | [_, _], _ => rfl)
  have c__law_item : Cal P w K mg base CX0 1 "_law_item" ["_law_row", "_law_index"] (spIt K) := cal_of (st := sIt) ⟨c.d.def_ 10 rfl, (He.glo_ok X G (c.d.fact 30 rfl))⟩ (fun fd F => ok_it F E) (fun _ _ _ _ _ _ us hl => match us, hl with | [_, _], _ => rfl)
  have c__law_place : Cal P w K mg base CX0 2 "_law_place" ["_law_k", "_law_a", "_law_b", "_law_number"] (spPc K) := cal_of (st := sPc) ⟨c.d.def_ 11 rfl, (He.glo_ok X G (c.d.fact 31 rfl))⟩ (fun fd F => ok_pc F c__law_item) (fun _ _ _ _ _ _ us hl => match us, hl with | [_, _, _, _], _ => rfl)
  have c__law_seen : Cal P w K mg base CX0 3 "_law_seen" ["_law_k", "_law_a", "_law_b", "_law_count"] (spSe K) := cal_of (st := sSe) ⟨c.d.def_ 12 rfl, (He.glo_ok X G (c.d.fact 32 rfl))⟩ (fun fd F => ok_se F E c__law_place) (fun _ _ _ _ _ _ us hl => match us, hl with | [_, _, _, _], _ => rfl)
  have c__law_known : Cal P w K mg base CX0 1 "_law_known" ["_law_seen_here"] spKn := cal_of (st := sKn) ⟨c.d.def_ 13 rfl, (He.glo_ok X G (c.d.fact 33 rfl))⟩ (fun fd F => ok_kn F E) (fun _ _ _ _ _ _ us hl => match us, hl with | [_], _ => rfl)
  have c__law_bounds : Cal P w K mg base CX0 1 "_law_bounds" ["_law_known_here", "_law_rest"] spLB := cal_of (st := sLB) ⟨c.d.def_ 14 rfl, (He.glo_ok X G (c.d.fact 34 rfl))⟩ (fun fd F => ok_lb F E) (fun _ _ _ _ _ _ us hl => match us, hl with | [_, _], _ => rfl)
  have c_plain_numbers : Cal P w K mg base CX0 2 "plain_numbers" ["bounds", "arity"] spPn := cal_of (st := sPn) ⟨c.d.def_ 15 rfl, (He.glo_ok X G (c.d.fact 35 rfl))⟩ (fun fd F => ok_pn F E c_split_number) (fun _ _ _ _ _ _ us hl => match us, hl with | [_, _], _ => rfl)
  have c__law_window : Cal P w K mg base CX0 2 "_law_window" ["_law_bounds_here", "_law_k", "_law_height", "_law_cap"] spWi := cal_of (st := sWi) ⟨c.d.def_ 16 rfl, (He.glo_ok X G (c.d.fact 36 rfl))⟩ (fun fd F => ok_wi F E c__law_split) (fun _ _ _ _ _ _ us hl => match us, hl with | [_, _, _, _], _ => rfl)
  have c__law_top : Cal P w K mg base CX0 2 "_law_top" ["_law_bounds_here", "_law_k"] spTo := cal_of (st := sTo) ⟨c.d.def_ 17 rfl, (He.glo_ok X G (c.d.fact 37 rfl))⟩ (fun fd F => ok_to F E c__law_split) (fun _ _ _ _ _ _ us hl => match us, hl with | [_, _], _ => rfl)
  have c__law_sums : Cal P w K mg base CX0 3 "_law_sums" ["_law_bounds_here", "_law_k", "_law_cap"] spSu := cal_of (st := sSu) ⟨c.d.def_ 18 rfl, (He.glo_ok X G (c.d.fact 38 rfl))⟩ (fun fd F => ok_su F E c__law_top c__law_window) (fun _ _ _ _ _ _ us hl => match us, hl with | [_, _, _], _ => rfl)
  have c_relaxed : Cal P w K mg base CX0 1 "relaxed" ["lows", "highs", "gaps"] spRx := cal_of (st := sRx) ⟨c.d.def_ 19 rfl, (He.glo_ok X G (c.d.fact 39 rfl))⟩ (fun fd F => ok_rx F E) (fun _ _ _ _ _ _ us hl => match us, hl with | [_, _, _], _ => rfl)
  have c_is_item_name : Cal P w K mg base CX0 1 "is_item_name" ["name"] spNa := cal_of (st := sNa) ⟨c.d.def_ 20 rfl, (He.glo_ok X G (c.d.fact 40 rfl))⟩ (fun fd F => ok_na F E) (fun _ _ _ _ _ _ us hl => match us, hl with | [_], _ => rfl)
  have c_are_items : Cal P w K mg base CX0 2 "are_items" ["value", "least_size", "most_size"] spAI := cal_of (st := sAI) ⟨c.d.def_ 21 rfl, (He.glo_ok X G (c.d.fact 41 rfl))⟩ (fun fd F => ok_ai (c := "x") F E c_is_integer) (fun _ _ _ _ _ _ us hl => match us, hl with | [_, _, _], _ => rfl)
  have c_shortest_loop : Cal P w K mg base CX0 1 "shortest_loop" ["loop"] (spSL K) := cal_of (st := sSL) ⟨c.d.def_ 22 rfl, (He.glo_ok X G (c.d.fact 42 rfl))⟩ (fun fd F => ok_sl F E) (fun _ _ _ _ _ _ us hl => match us, hl with | [_], _ => rfl)
  have c_normal_form : Cal P w K mg base CX0 2 "normal_form" ["front", "loop"] (spNF K) := cal_of (st := sNF) ⟨c.d.def_ 23 rfl, (He.glo_ok X G (c.d.fact 43 rfl))⟩ (fun fd F => ok_nf F E c_shortest_loop) (fun _ _ _ _ _ _ us hl => match us, hl with | [_, _], _ => rfl)
  have c_stream_item : Cal P w K mg base CX0 1 "stream_item" ["stream", "index"] (spSI K) := cal_of (st := sSI) ⟨c.d.def_ 24 rfl, (He.glo_ok X G (c.d.fact 44 rfl))⟩ (fun fd F => ok_si F E) (fun _ _ _ _ _ _ us hl => match us, hl with | [_, _], _ => rfl)
  have c_is_stream : CalS P w K mg base 3 (He.ga K "Schedule") "is_stream" ["value"] spIs := by
    obtain ⟨fd, F⟩ := fnA_ok (more_at c.m 12 rfl) c.e (more_at c.m 13 rfl)
    exact ⟨.type "type", smA K, gIs K, fd, ⟨(more_at c.m 6 rfl), He.eqO_ok (more_at c.m 7 rfl)⟩, ⟨foundG_ok (more_at c.m 10 rfl), isRec_ok (more_at c.m 11 rfl), (more_at c.m 12 rfl)⟩, ok_is F E c_are_items, F.bindsN (fun _ _ _ _ _ _ us hl => match us, hl with | [_], _ => rfl)⟩
  have c_Schedule : CalMk P w K mg base 4 "Schedule" (He.ga K "Schedule") 1 ["spine", "levels"] ["self", "arity", "spine", "levels"] (spSc K) := by
    obtain ⟨fd, F⟩ := c.d.def_ 40 rfl
    exact ⟨⟨_, fd, He.mkr_ok (c.d.fact 67 rfl), ok_sc F E c_is_integer c_is_stream c_stream_item c_normal_form, kb_all F fun _ _ _ _ _ _ us ws hl hw => match us, ws, hl, hw with | [_, _], [_, _], _, _ => rfl⟩, E.g_Schedule⟩
  have c_eq : CalEq P w K mg base := by
    obtain ⟨fd, F⟩ := c.d.def_ 41 rfl
    have M := He.meth_ok (c.d.fact 84 rfl)
    exact ⟨_, fd, M.at_, M.fn, ok_eq F E, F.bindsN (fun _ _ _ _ _ _ us hl => match us, hl with | [_, _], _ => rfl)⟩
  have c_Conflict : CalC P w K mg base 1 ["self", "first", "second"] (spCI K) := by
    obtain ⟨fd, F⟩ := c.d.def_ 42 rfl
    have M := He.meth_ok (c.d.fact 85 rfl)
    exact ⟨_, fd, M.at_, of_decide_eq_true (more_at c.m 24 rfl), ok_ci F CC, F.bindsN (fun _ _ _ _ _ _ us hl => match us, hl with | [_, _, _], _ => rfl)⟩
  have c_each_conflict : CalY P w K mg base 3 "each_conflict" ["bounds", "arity"] spEC := by
    obtain ⟨fd, F⟩ := c.d.def_ 25 rfl
    exact ⟨⟨fd, ok_ec F E c_split_number c_plain_numbers, F.bindsN (fun _ _ _ _ _ _ us hl => match us, hl with | [_, _], _ => rfl)⟩, (He.glo_ok X G (c.d.fact 45 rfl)), F.kp⟩
  have c_check_values : Cal P w K mg base CX0 2 "check_values" ["values"] spCV := cal_of (st := sCV) ⟨c.d.def_ 33 rfl, (He.glo_ok X G (c.d.fact 53 rfl))⟩ (fun fd F => ok_cv F E c_is_integer) (fun _ _ _ _ _ _ us hl => match us, hl with | [_], _ => rfl)
  have c_check_places : Cal P w K mg base CX0 2 "check_places" ["places"] spCP := cal_of (st := sCP) ⟨c.d.def_ 34 rfl, (He.glo_ok X G (c.d.fact 54 rfl))⟩ (fun fd F => ok_cp F E c_is_integer) (fun _ _ _ _ _ _ us hl => match us, hl with | [_], _ => rfl)
  have cP_limits : CalM P w K mg base 2 (He.ga K "PlaceFit") "limits" ["self", "spine"] (spLi K (He.ga K "PlaceFit")) := by
    obtain ⟨fd, F⟩ := c.d.def_ 45 rfl
    exact ⟨_, fd, He.meth_ok (c.d.fact 88 rfl), ok_li F E FP c_split_number, F.bindsN (fun _ _ _ _ _ _ us hl => match us, hl with | [_, _], _ => rfl)⟩
  have cP_known_frequency : CalM P w K mg base 2 (He.ga K "PlaceFit") "known_frequency" ["self", "exponent"] (spKF K (He.ga K "PlaceFit")) := by
    obtain ⟨fd, F⟩ := c.d.def_ 46 rfl
    exact ⟨_, fd, He.meth_ok (c.d.fact 89 rfl), ok_kf F E FP c_power_of, F.bindsN (fun _ _ _ _ _ _ us hl => match us, hl with | [_, _], _ => rfl)⟩
  have cP_spine_item : CalM P w K mg base 3 (He.ga K "PlaceFit") "spine_item" ["self", "sums", "exponent"] (spPI K (He.ga K "PlaceFit")) := by
    obtain ⟨fd, F⟩ := c.d.def_ 47 rfl
    exact ⟨_, fd, He.meth_ok (c.d.fact 90 rfl), ok_pi F E FP c_power_of cP_known_frequency, F.bindsN (fun _ _ _ _ _ _ us hl => match us, hl with | [_, _, _], _ => rfl)⟩
  have cP_range_of : CalM P w K mg base 3 (He.ga K "PlaceFit") "range_of" ["self", "name"] (spRg K (He.ga K "PlaceFit")) := by
    obtain ⟨fd, F⟩ := c.d.def_ 48 rfl
    exact ⟨_, fd, He.meth_ok (c.d.fact 91 rfl), ok_rg F E FP c_is_item_name cP_limits c_relaxed, F.bindsN (fun _ _ _ _ _ _ us hl => match us, hl with | [_, _], _ => rfl)⟩
  have cP_prepare : CalMX P w K mg base 5 (He.ga K "PlaceFit") "prepare" ["self", "places", "arity", "rest"] (spPr K (He.ga K "PlaceFit")) := by
    obtain ⟨fd, F⟩ := c.d.def_ 50 rfl
    exact ⟨_, fd, He.meth_ok (c.d.fact 93 rfl), ok_pr F E FP CC c_bounds_of c_each_conflict c_Conflict, F.bindsN (fun _ _ _ _ _ _ us hl => match us, hl with | [_, _, _, _], _ => rfl)⟩
  have cP_completed : ∃ g, Meth K (He.ga K "PlaceFit") "completed" g ∧ ∀ ks ∈ KSS, FnKw P w K mg base 6 g ks (spCo K (He.ga K "PlaceFit")) := by
    obtain ⟨fd, F⟩ := c.d.def_ 49 rfl
    refine ⟨_, He.meth_ok (c.d.fact 92 rfl), fun ks hks => fn_kw F scCo (kss_nodup ks hks) (kss_len ks hks) (bind_co ks hks) fun cdv A outer s H vs Q E' hr hsp => body_co E FP c_is_item_name c_check_integer cP_range_of cP_limits c_relaxed cP_spine_item c_Schedule cdv A outer s H vs Q E' hr hsp⟩
  have cV_limits : CalM P w K mg base 2 (He.ga K "ValueFit") "limits" ["self", "spine"] (spLi K (He.ga K "ValueFit")) := by
    obtain ⟨fd, F⟩ := c.d.def_ 51 rfl
    exact ⟨_, fd, He.meth_ok (c.d.fact 94 rfl), ok_li F E FV c_split_number, F.bindsN (fun _ _ _ _ _ _ us hl => match us, hl with | [_, _], _ => rfl)⟩
  have cV_known_frequency : CalM P w K mg base 2 (He.ga K "ValueFit") "known_frequency" ["self", "exponent"] (spKF K (He.ga K "ValueFit")) := by
    obtain ⟨fd, F⟩ := c.d.def_ 52 rfl
    exact ⟨_, fd, He.meth_ok (c.d.fact 95 rfl), ok_kf F E FV c_power_of, F.bindsN (fun _ _ _ _ _ _ us hl => match us, hl with | [_, _], _ => rfl)⟩
  have cV_spine_item : CalM P w K mg base 3 (He.ga K "ValueFit") "spine_item" ["self", "sums", "exponent"] (spPI K (He.ga K "ValueFit")) := by
    obtain ⟨fd, F⟩ := c.d.def_ 53 rfl
    exact ⟨_, fd, He.meth_ok (c.d.fact 96 rfl), ok_pi F E FV c_power_of cV_known_frequency, F.bindsN (fun _ _ _ _ _ _ us hl => match us, hl with | [_, _, _], _ => rfl)⟩
  have cV_range_of : CalM P w K mg base 3 (He.ga K "ValueFit") "range_of" ["self", "name"] (spRg K (He.ga K "ValueFit")) := by
    obtain ⟨fd, F⟩ := c.d.def_ 54 rfl
    exact ⟨_, fd, He.meth_ok (c.d.fact 97 rfl), ok_rg F E FV c_is_item_name cV_limits c_relaxed, F.bindsN (fun _ _ _ _ _ _ us hl => match us, hl with | [_, _], _ => rfl)⟩
  have cV_prepare : CalMX P w K mg base 5 (He.ga K "ValueFit") "prepare" ["self", "places", "arity", "rest"] (spPr K (He.ga K "ValueFit")) := by
    obtain ⟨fd, F⟩ := c.d.def_ 56 rfl
    exact ⟨_, fd, He.meth_ok (c.d.fact 99 rfl), ok_pr F E FV CC c_bounds_of c_each_conflict c_Conflict, F.bindsN (fun _ _ _ _ _ _ us hl => match us, hl with | [_, _, _, _], _ => rfl)⟩
  have cV_completed : ∃ g, Meth K (He.ga K "ValueFit") "completed" g ∧ ∀ ks ∈ KSS, FnKw P w K mg base 6 g ks (spCo K (He.ga K "ValueFit")) := by
    obtain ⟨fd, F⟩ := c.d.def_ 55 rfl
    refine ⟨_, He.meth_ok (c.d.fact 98 rfl), fun ks hks => fn_kw F scCo (kss_nodup ks hks) (kss_len ks hks) (bind_co ks hks) fun cdv A outer s H vs Q E' hr hsp => body_co E FV c_is_item_name c_check_integer cV_range_of cV_limits c_relaxed cV_spine_item c_Schedule cdv A outer s H vs Q E' hr hsp⟩
  have c_PlaceFit : CalMkX P w K mg base 6 "PlaceFit" (He.ga K "PlaceFit") ["self", "places", "arity"] (spPIn K (He.ga K "PlaceFit")) := by
    obtain ⟨fd, F⟩ := c.d.def_ 43 rfl
    exact ⟨⟨_, fd, He.mkr_ok (c.d.fact 69 rfl), ok_pIn F E FP c_check_places c_check_arity cP_prepare, F.bindsN (fun _ _ _ _ _ _ us hl => match us, hl with | [_, _, _], _ => rfl)⟩, E.g_PlaceFit⟩
  have c_ValueFit : CalMkX P w K mg base 6 "ValueFit" (He.ga K "ValueFit") ["self", "values", "arity"] (spVIn K (He.ga K "ValueFit")) := by
    obtain ⟨fd, F⟩ := c.d.def_ 44 rfl
    exact ⟨⟨_, fd, He.mkr_ok (c.d.fact 71 rfl), ok_vIn F E FV c_check_values c_check_arity c_places_in c_rest_of cV_prepare, F.bindsN (fun _ _ _ _ _ _ us hl => match us, hl with | [_, _, _], _ => rfl)⟩, E.g_ValueFit⟩
  have c__law_draw : Cal P w K mg base CX0 1 "_law_draw" ["_law_m", "_law_top_here"] (spDr K) := cal_of (st := sDr) ⟨c.d.def_ 26 rfl, (He.glo_ok X G (c.d.fact 46 rfl))⟩ (fun fd F => ok_dr F E) (fun _ _ _ _ _ _ us hl => match us, hl with | [_, _], _ => rfl)
  have c__law_begun : Cal P w K mg base CX0 1 "_law_begun" ["_law_script"] (spBe K) := cal_of (st := sBe) ⟨c.d.def_ 27 rfl, (He.glo_ok X G (c.d.fact 47 rfl))⟩ (fun fd F => ok_be F E) (fun _ _ _ _ _ _ us hl => match us, hl with | [_], _ => rfl)
  have c__law_of : Cal P w K mg base CX0 2 "_law_of" ["_law_m", "_law_some"] (spOf K) := cal_of (st := sOf) ⟨c.d.def_ 28 rfl, (He.glo_ok X G (c.d.fact 48 rfl))⟩ (fun fd F => ok_of F E c__law_draw) (fun _ _ _ _ _ _ us hl => match us, hl with | [_, _], _ => rfl)
  have c__law_stream : Cal P w K mg base CX0 3 "_law_stream" ["_law_m", "_law_bottom"] (spSt K) := cal_of (st := sSt) ⟨c.d.def_ 29 rfl, (He.glo_ok X G (c.d.fact 49 rfl))⟩ (fun fd F => ok_st F E c__law_draw c__law_of) (fun _ _ _ _ _ _ us hl => match us, hl with | [_, _], _ => rfl)
  have c__law_random : Cal P w K mg base CX0 4 "_law_random" ["_law_m", "_law_k", "_law_most"] (spRa K) := cal_of (st := sRa) ⟨c.d.def_ 30 rfl, (He.glo_ok X G (c.d.fact 50 rfl))⟩ (fun fd F => ok_ra F E c__law_draw c__law_stream c__law_seen) (fun _ _ _ _ _ _ us hl => match us, hl with | [_, _, _], _ => rfl)
  have c__law_spine_row : Cal P w K mg base CX0 2 "_law_spine_row" ["_law_bounds_here", "_law_k", "_law_sums_here", "_law_first", "_law_given_here"] spSR := cal_of (st := sSR) ⟨c.d.def_ 31 rfl, (He.glo_ok X G (c.d.fact 51 rfl))⟩ (fun fd F => ok_sr F E c__law_power) (fun _ _ _ _ _ _ us hl => match us, hl with | [_, _, _, _, _], _ => rfl)
  have c__law_due : Cal P w K mg base CX0 4 "_law_due" ["_law_bounds_here", "_law_k", "_law_first", "_law_is_open", "_law_given_here", "_law_rows"] spDu := cal_of (st := sDu) ⟨c.d.def_ 32 rfl, (He.glo_ok X G (c.d.fact 52 rfl))⟩ (fun fd F => ok_du F E c__law_sums c__law_spine_row) (fun _ _ _ _ _ _ us hl => match us, hl with | [_, _, _, _, _, _], _ => rfl)
  have c__law_given : Cal P w K mg base CX0 1 "_law_given" ["_law_way", "_law_x", "_law_y"] spGi := cal_of (st := sGi) ⟨c.d.def_ 35 rfl, (He.glo_ok X G (c.d.fact 55 rfl))⟩ (fun fd F => ok_gi F E) (fun _ _ _ _ _ _ us hl => match us, hl with | [_, _, _], _ => rfl)
  have c__law_made : Cal P w K mg base CX0 8 "_law_made" ["_law_values_here", "_law_k", "_law_is_exact"] (spMa K) := cal_of (st := sMa) ⟨c.d.def_ 37 rfl, (He.glo_ok X G (c.d.fact 57 rfl))⟩ (fun fd F => ok_ma F E CC c_PlaceFit c_ValueFit) (fun _ _ _ _ _ _ us hl => match us, hl with | [_, _, _], _ => rfl)
  have c__law_completed : Cal P w K mg base CX0 7 "_law_completed" ["_law_fit", "_law_way", "_law_x", "_law_y"] (spLCo K) := cal_of (st := sLC) ⟨c.d.def_ 36 rfl, (He.glo_ok X G (c.d.fact 56 rfl))⟩ (fun fd F => fn_or (ok_lc F E FP cP_completed) (ok_lc F E FV cV_completed)) (fun _ _ _ _ _ _ us hl => match us, hl with | [_, _, _, _], _ => rfl)
  have c__law_right : Cal P w K mg base CX0 8 "_law_right" ["_law_m", "_law_fit", "_law_known_here", "_law_rest", "_law_k"] (spRt K) := cal_of (st := sRt) ⟨c.d.def_ 38 rfl, (He.glo_ok X G (c.d.fact 58 rfl))⟩ (fun fd F => ok_rt F E c__law_draw c__law_given c__law_bounds c__law_due c__law_completed c_Schedule c_eq) (fun _ _ _ _ _ _ us hl => match us, hl with | [_, _, _, _, _], _ => rfl)
  exact ok_lw F E c__law_begun c__law_draw c__law_random c__law_known c__law_made c__law_right
end
end
end K45
theorem PySem.Challenge.cw_nestcount_k45_whole_completed_holds : PySem.Challenge.rw_nestcount_k45_whole_completed.Holds := by
  exact K45.whole fun P w K h mg X G c => K45.parts P w X G c
