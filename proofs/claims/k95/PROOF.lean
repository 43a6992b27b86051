import PyProof.Rows.All
import Wide.All
import OpenK.AllK
import Wide.FinOn
import KE.KStateDown
import KE.KExcSuper
import HandS.ForMost
import HandS.More
import HandS.Exc
import HandS.Defaults
import HandS.Lambda
import HandS.EndTab
import HandS.HeadWalk
import HandS.Head0
import HandS.Head1
import HandS.Head2
import HandS.HeadHook1
import HandS.HeadHook2
import HandS.HeadHook3
import HandS.HeadHook4
import PySem.Challenge.RW_booklimits_k95_whole_texts_of_rules
import HandS.ExcInit
import HandS.TryOnly
import HandS.WordsExc
import HandS.ExcField
import HandS.TryMany
import HandS.RaiseMore
import PyProof.ReprRoads
import HandS.IsInst
import HandS.Zip
import HandS.Walk
import HandS.Star
import HandS.Style
import HandS.TupAny
import HandS.Flow
import HandS.CallSlots
import HandS.Evl
import HandS.SortInts
import HandS.Dict
import PyProof.TupleOfSeq
set_option Elab.async false
set_option linter.all false
set_option maxRecDepth 100000
set_option maxHeartbeats 4000000
namespace K95
open PySem PySem.Spec PyProof.Rows L2
def top (i : Nat) : Stmt := PySem.Challenge.pw_booklimits_k95_whole_texts_of_rules.main.body.getD i (.Pass ⟨0, 0, 0, 0⟩)
end K95

set_option Elab.async false
set_option linter.all false
set_option maxRecDepth 100000
set_option maxHeartbeats 4000000
namespace K95
open PySem PySem.Spec PyProof.Rows L2
def dd (i : Nat) (x : Str) : He.DefD := ⟨(x, none), x, x, defArgs (top i), defBody (top i), defScope (top i), [], []⟩
def fn : List He.DefD := [dd 25 "is_whole", dd 26 "need_hall", dd 27 "are_limits", dd 28 "is_plain", dd 29 "is_word", dd 30 "parts_of", dd 31 "need_rule", dd 36 "joined", dd 37 "words_of", dd 38 "rule_text", dd 39 "is_number", dd 40 "lines_of", dd 41 "needed_end", dd 42 "rule_at", dd 43 "read_rule", dd 45 "_law_mixed", dd 46 "_law_folded", dd 47 "_law_draw", dd 48 "_law_begun", dd 49 "_law_like", dd 50 "_law_of", dd 51 "_law_fares", dd 52 "_law_hall", dd 53 "_law_plain", dd 54 "_law_rule", dd 55 "_law_said", dd 56 "_law_bent", dd 57 "_law_is_number", dd 58 "_law_rule_text", dd 59 "_law_rule_wrong", dd 60 "_law_rule_at", dd 61 "_law_rule_due", dd 62 "_law_word_bent", dd 63 "_law_hand_right", dd 64 "law"]
def faG : List He.Fa := [.glo "is_whole", .glo "need_hall", .glo "are_limits", .glo "is_plain", .glo "is_word", .glo "parts_of", .glo "need_rule", .glo "joined", .glo "words_of", .glo "rule_text", .glo "is_number", .glo "lines_of", .glo "needed_end", .glo "rule_at", .glo "read_rule", .glo "_law_mixed", .glo "_law_folded", .glo "_law_draw", .glo "_law_begun", .glo "_law_like", .glo "_law_of", .glo "_law_fares", .glo "_law_hall", .glo "_law_plain", .glo "_law_rule", .glo "_law_said", .glo "_law_bent", .glo "_law_is_number", .glo "_law_rule_text", .glo "_law_rule_wrong", .glo "_law_rule_at", .glo "_law_rule_due", .glo "_law_word_bent", .glo "_law_hand_right", .glo "law", .glo "CallError", .glo "BadHall", .glo "BadRule", .glo "BadCall", .glo "BadPaper", .glo "BadNumber", .glo "BadPlan", .glo "BadShare", .glo "BadLog", .glo "BadText", .glo "TooGreat"]
def faI : List He.Fa := [.int "MOST_SEATS" 6, .int "MOST_FARES" 4, .int "MOST_FARE" 99, .int "MOST_FEE" 99, .int "MOST_WORDS" 7, .int "MOST_DEEP" 3, .int "MOST_FIGURES" 7]
def faS : List He.Fa := [.str "APART" "apart", .str "NESTED" "nested", .str "KEPT" "kept", .str "ALL" "all", .str "ANY" "any", .str "OUST" "oust", .str "FIGURES" "0123456789"]
def faF : List He.Fa := [.free "len", .free "isinstance", .free "int", .free "bool", .free "str", .free "tuple", .free "list", .free "all", .free "zip", .free "range", .free "min", .free "sorted", .free "repr", .free "enumerate", .free "super"]
def names0 : List PySem.Str := ["CallError", "BadHall", "BadRule", "BadCall", "BadPaper", "BadNumber", "BadPlan", "BadShare", "BadLog", "BadText", "TooGreat", "is_whole", "need_hall", "are_limits", "is_plain", "is_word", "parts_of", "need_rule", "joined", "words_of", "rule_text", "is_number", "lines_of", "needed_end", "rule_at", "read_rule", "_law_mixed", "_law_folded", "_law_draw", "_law_begun"]
def names1 : List PySem.Str := ["_law_like", "_law_of", "_law_fares", "_law_hall", "_law_plain", "_law_rule", "_law_said", "_law_bent", "_law_is_number", "_law_rule_text", "_law_rule_wrong", "_law_rule_at", "_law_rule_due", "_law_word_bent", "_law_hand_right", "MOST_SEATS", "MOST_FARES", "MOST_FARE", "MOST_FEE", "MOST_WORDS", "MOST_DEEP", "MOST_FIGURES", "APART", "NESTED", "KEPT", "ALL", "ANY", "OUST", "FIGURES", "WORDS"]
def names2 : List PySem.Str := []
def fa : List He.Fa := faG ++ (faI ++ (faS ++ faF))
abbrev R : PySem.W.OpenRow := PySem.W.OpenLaw.row PySem.Challenge.rw_booklimits_k95_whole_texts_of_rules
def tf : List He.Defn := [("law", none), ("_law_hand_right", none)]
def wordsD : List He.Dv := [.str "all", .str "any", .str "apart", .str "kept", .str "nested", .str "oust"]
/-- the module's name x is a class over ValueError's own kin whose instances are made by an __init__ of its own -/
def xcB (K : PySem.W.Frag) (C : Addr) : Bool := match K.lookup C with
  | some ⟨.type t, _, .cls cd, sl⟩ => t == "type" && (match cd.mro, sl.toList with
    | .ref C' :: bm, [_, _, _, _, some (.builtin n), _] => C' == C && (n == "ValueError.__new__" && (!cd.hasDel && (cd.hasDict && PySem.HandSPX.refsVE bm)))
    | _, _ => false)
  | _ => false
/-- .. and the looks that its life asks, for the fields fs -/
def xlB (K : PySem.W.Frag) (C : Addr) (fs : List Str) : Bool :=
  He.eqO (PySem.W.findIn K (.ref C) "__setattr__") (some (some (.builtin "object.__setattr__"))) &&
  (He.eqO (PySem.W.findIn K (.ref C) "__getattribute__") (some (some (.builtin "BaseException.__getattribute__"))) &&
  (He.eqO (PySem.W.findIn K (.ref C) "__getattr__") (some none) &&
  (He.eqO (PySem.W.findIn K (.ref C) "__init__") (some (some (.ref (He.ma K C "__init__")))) &&
  (decide (PySem.W.typeIn K (.ref (He.ma K C "__init__")) = some (.type "function")) &&
  (PySem.W.keepIn K (.ref C) && (decide (PySem.W.subIn K (.ref C) (.type "BaseException") = some true) &&
  (decide (PySem.W.subIn K (.ref C) (.type "ValueError") = some true) &&
  (decide (PySem.W.typeIn K (.ref C) = some (.type "type")) && (PySem.W.hasDictIn K C && (decide (PySem.W.mroIn K C (.ref C) = some true) &&
  (decide (PySem.W.ks_superIn K C C "__init__" = some (some (.builtin "ValueError.__init__"))) &&
  fs.all fun f => He.eqO (PySem.W.findIn K (.ref C) f) (some none))))))))))))
/-- what is seen of an __init__ -/
abbrev FnI : Type := Option (Str × Str × Arguments × FuncBody × Scope × Addr × List Str × Value × Addr)
def inI (K : PySem.W.Frag) (x : Str) : Addr := He.ma K (He.ga K x) "__init__"
def fnI (K : PySem.W.Frag) (x : Str) : FnI := match K.lookup (inI K x) with
  | some ⟨_, _, .func fd, _⟩ => some (fd.name, fd.qualname, fd.params, fd.body, fd.scope, fd.globals, fd.closure.map (·.1), fd.defaults, fd.builtins)
  | _ => none
/-- its closure's cell holds the class, its code object bears the name and the file -/
def clB (K : PySem.W.Frag) (x q : Str) (fl : Str) : Bool := match K.lookup (inI K x) with
  | some ⟨_, _, .func fd, _⟩ => PySem.W.codeIn K fd.code q && ((match fd.closure with
      | [(_, cc)] => (match K.lookup cc with
        | some ⟨_, _, .cell (some (.ref D)), _⟩ => D == He.ga K x
        | _ => false)
      | _ => false) && (match fd.code with
      | .ref c => (match K.lookup c with
        | some ⟨_, _, .fields vs, _⟩ => (match vs[2]? with
          | some (Value.str f _) => decide (f = fl)
          | _ => false)
        | _ => false)
      | _ => false))
  | _ => false
def xNames : List (Str × Str × List Str) := [("BadHall", "BadHall.__init__", ["part"]), ("BadRule", "BadRule.__init__", ["path"]), ("BadText", "BadText.__init__", ["line", "word"])]
def xClauses : List Str := ["BadHall", "BadRule", "BadCall", "BadNumber", "BadPlan", "BadShare", "BadLog", "BadPaper", "BadText"]
def theFile : Str := "/claim/cut.py"
def ex (K : PySem.W.Frag) : Bool :=
  (decide (PySem.W.nsIn K mainGlobals "WORDS" = some (some (.ref (He.ga K "WORDS")))) && He.tupB K "WORDS" wordsD) &&
  ((xNames.all fun p => xcB K (He.ga K p.1) && (xlB K (He.ga K p.1) p.2.2 && clB K p.1 p.2.1 theFile)) &&
  ((decide (PySem.W.nsIn K PySem.cStatics "thirdparty.any" = some none)) &&
  (decide ((He.cT K ("law", none)).2 ≠ (He.cT K ("_law_hand_right", none)).2) &&
  ([("BadHall", 1), ("BadRule", 2), ("BadText", 9)] : List (Str × Nat)).all fun p => (xClauses.take p.2).all fun y => decide (PySem.W.exmOne K (.ref (He.ga K p.1)) (.ref (He.ga K y)) = some (p.1 == y)))))
def dI (i : Nat) (q : Str) : FnI := some ("__init__", q, defArgs (inClass (top i) 0), .stmts (defBody (inClass (top i) 0)), defScope (inClass (top i) 0), mainGlobals, ["__class__"], .none, builtinsNs)
def initV : List FnI := [dI 2 "BadHall.__init__", dI 3 "BadRule.__init__", dI 10 "BadText.__init__"]
def initO (K : PySem.W.Frag) : List FnI := [fnI K "BadHall", fnI K "BadRule", fnI K "BadText"]
abbrev depthN : Nat := 6
def fragZ (g : Addr → Option Obj) : PySem.W.Frag := He.frT g (PySem.cStatics :: He.asD g depthN)
abbrev AlZ : Type := (He.AlT × Bool) × List FnI
def obsZ (g : Addr → Option Obj) : AlZ := ((He.obsT fa fn [] (fragZ g), ex (fragZ g) && He.tabsB g tf (fragZ g)), initO (fragZ g))
theorem saysZ_of {w : World} {h : Heap} (e : obsZ h.get? = ((He.valT fn [] w, true), initV)) : He.SaysX fa fn [] tf ex w h (fragZ h.get?) ∧ initO (fragZ h.get?) = initV := by
  have e1 : He.obsT fa fn [] (fragZ h.get?) = He.valT fn [] w := congrArg (fun z : AlZ => z.1.1) e
  have e2 : (ex (fragZ h.get?) && He.tabsB h.get? tf (fragZ h.get?)) = true := congrArg (fun z : AlZ => z.1.2) e
  obtain ⟨h1, h2⟩ := He.ba e2
  have key : ∀ p ∈ tf, PySem.W.codeHdIn (fragZ h.get?) (He.cT (fragZ h.get?) p).1 (He.cT (fragZ h.get?) p).2 = true ∧ ∃ o, h.get? (He.cT (fragZ h.get?) p).2 = some o ∧ He.emptyTab o = true := fun p hp => by
    obtain ⟨h3, h4⟩ := He.ba (List.all_eq_true.mp h2 p hp)
    refine ⟨h3, ?_⟩
    cases q : h.get? (He.cT (fragZ h.get?) p).2 with
    | none =>
      rw [q] at h4
      cases h4
    | some o =>
      rw [q] at h4
      exact ⟨o, rfl, h4⟩
  refine ⟨⟨e1, h1, fun p hp => (key p hp).1, fun p hp => ?_, fun p hp => ?_⟩, congrArg (fun z : AlZ => z.2) e⟩
  · obtain ⟨_, o, q, z⟩ := key p hp
    exact He.frT_none q z
  · obtain ⟨_, o, q, z⟩ := key p hp
    rw [q, He.emptyTab_eq z]
def hkZ : PySem.W.Hook where
  α := AlZ
  obs := fun s => obsZ s.heap.get?
  val := fun w => ((He.valT fn [] w, true), initV)
  says := fun w h => ∃ K : PySem.W.Frag, K.In h ∧ He.SaysX fa fn [] tf ex w h K ∧ initO K = initV
  of := fun _ _ e => ⟨_, He.frT_in, saysZ_of e⟩
  keeps := fun _ _ _ ⟨K, hK, c, i⟩ k => ⟨K, PySem.W.Frag.In.keeps hK k, ⟨c.t, c.more, c.hd, c.out, fun p hp => k _ _ (c.empty p hp)⟩, i⟩
def ob (s : PySem.W.SharedT) : AlZ := obsZ (HandSHeadRun.getT s)
theorem ob_eq (s : PySem.W.SharedT) : ob s = hkZ.obs s.abs := by
  have e : HandSHeadRun.getT s = s.abs.heap.get? := funext (HandSHeadRun.getT_eq s)
  show obsZ (HandSHeadRun.getT s) = obsZ s.abs.heap.get?
  rw [e]
abbrev qv : Program := PySem.W.view R.prog [64]
def names : List PySem.Str := names0 ++ (names1 ++ names2)
theorem run (w : World) : HandSHeadRun.RunEq R qv hkZ ob 6000 names w := by
  intro os
  kernel_rfl
end K95

set_option Elab.async false
set_option linter.all false
set_option maxRecDepth 100000
set_option maxHeartbeats 4000000
/-! An own error over ValueError's kin whose __init__ calls super().__init__(a text) and stores one field or two. -/
namespace PySem
namespace SupX
open PySem.W PySem.Calls PyProof.Rows PySem.HandSPX
section
variable {prog : Program} {w : World} {A : Around} {E : Value → Shared → Prop} {s : Shared} {K : Frag} {mg mb : Str → Option Value} {C fI cc cda : Addr}
/-- what is written of the class at C and of its __init__ at fI (its closure's cell at cc, its code object at cda) -/
structure SupC (prog : Program) (K : Frag) (C fI : Addr) : Prop where
  cls : ∃ nm q N bs bm sn sub ab col dd k0 k1 k2 k3 k5, K.lookup C = some (excClassObj nm q C N bs bm true sn sub ab col dd k0 k1 k2 k3 k5 "ValueError.__new__") ∧ refsVE bm = true
  sa : findIn K (.ref C) "__setattr__" = some (some (.builtin "object.__setattr__"))
  ga : findIn K (.ref C) "__getattribute__" = some (some (.builtin "BaseException.__getattribute__"))
  gg : findIn K (.ref C) "__getattr__" = some none
  iC : findIn K (.ref C) "__init__" = some (some (.ref fI))
  tC : typeIn K (.ref fI) = some (.type "function")
  kC : keepIn K (.ref C) = true
  exC : subIn K (.ref C) (.type "BaseException") = some true
  veC : subIn K (.ref C) (.type "ValueError") = some true
  tyC : typeIn K (.ref C) = some (.type "type")
  hdC : hasDictIn K C = true
  mro : mroIn K C (.ref C) = some true
  sup : ks_superIn K C C "__init__" = some (some (.builtin "ValueError.__init__"))
  opq : nsIn K cStatics "thirdparty.any" = some none
/-- its __init__ as it stands -/
structure SupF (prog : Program) (K : Frag) (C fI : Addr) (qual : Str) (params : Arguments) (body : List Stmt) (scope : Scope) : Prop where
  fn : ∃ (oc : Value) (od : Option Addr) (doc pm kV : Value) (an : Option Addr) (cda cc : Addr) (ct : Value) (osl : Array (Option Value)),
    K.lookup fI = some ⟨oc, od, .func (fnX "__init__" qual params body scope [("__class__", cc)] .none kV doc pm an (.ref cda) ct), osl⟩ ∧ codeIn K (.ref cda) qual = true ∧
    (∃ ol dl sl, K.lookup cc = some ⟨ol, dl, .cell (some (.ref C)), sl⟩) ∧
    (∃ ol dl vs sl file tf, K.lookup cda = some ⟨ol, dl, .fields vs, sl⟩ ∧ vs[2]? = some (.str file tf) ∧ ((prog.main.file : Str) == file) = true)
/-- super().__init__(text) in an __init__ that runs -/
theorem sup_stmt {body bodyF : List Stmt} {qual q2 : Str} {params : Arguments} {scope : Scope} {L x t0 : Addr} {m : Str → Option Value} {z : Str} {n0 : Nat} {p0 p1 p2 p3 p4 p5 : Pos} {Q : Flow → Shared → Prop} {oc : Value} {od : Option Addr} {dV kV doc pm ct : Value} {an : Option Addr} {osl : Array (Option Value)}
    {ol : Value} {dl : Option Addr} {sl : Array (Option Value)} {ol2 : Value} {dl2 : Option Addr} {sl2 : Array (Option Value)} {vs : Array Value} {file : Str} {tf : Tok} {ar : Arg} (T : SupC prog K C fI) (X : K.In s.heap)
    (hf : K.lookup fI = some ⟨oc, od, .func (fnX "__init__" q2 params bodyF scope [("__class__", cc)] dV kV doc pm an (.ref cda) ct), osl⟩)
    (hcc : K.lookup cc = some ⟨ol, dl, .cell (some (.ref C)), sl⟩) (hcd : K.lookup cda = some ⟨ol2, dl2, .fields vs, sl2⟩) (hvs : vs[2]? = some (.str file tf)) (hfile : ((prog.main.file : Str) == file) = true)
    (hp : (params.posonlyargs ++ params.args).head? = some ar) (hG : s.heap.Ns mainGlobals mg) (hgs : mg "super" = none) (hB : s.heap.Ns builtinsNs mb) (hbs : mb "super" = some (.type "super"))
    (hn : s.heap.Ns L m) (hself : m ar.arg = some (.ref x)) (hx : s.heap.get? x = some (excO C t0))
    (hks : scope.names.lookup ("super" : Str) = some .globalImplicit) (hkc : scope.names.lookup ("__class__" : Str) = some .free) (hka : scope.names.lookup ar.arg = some .local) (hk : scope.kind = .function)
    (htop : (prog.main.scope.names.lookup ("super" : Str)).isSome = false)
    {pl : Sem Bool}
    (hev : eval (.Call (.Attribute (.Call (.Name "super" p0) [] [] p1) "__init__" p2) [.Constant (.str z) n0 p3] [] p4) (ksEnv qual scope L fI (.ref cda) cc) = (do
      let ov ← attributeBase (.Call (.Name "super" p0) [] [] p1) "__init__" (ksEnv qual scope L fI (.ref cda) cc) (eval (.Call (.Name "super" p0) [] [] p1) (ksEnv qual scope L fI (.ref cda) cc))
      standAt p2.atName
      let (f, first) ← holding [ov] (getMethod ov "__init__" pl)
      callWith p4 f first (backTo p4 (starEach [.Constant (.str z) n0 p3] (ksEnv qual scope L fI (.ref cda) cc))) []))
    (hsw : swapsWith (.Call (.Attribute (.Call (.Name "super" p0) [] [] p1) "__init__" p2) [.Constant (.str z) n0 p3] [] p4) none p5.line (ksEnv qual scope L fI (.ref cda) cc) = pure false)
    (hq : ∀ h' tk t1, (∀ b o, b ≠ x → s.heap.get? b = some o → h'.get? b = some o) → h'.get? x = some (excO C t1) → Q .next { s with heap := h', toks := tk }) :
    _root_.PySem.wpAt (model prog w) A (.func body (ksEnv qual scope L fI (.ref cda) cc)) (exec (.Expr (.Call (.Attribute (.Call (.Name "super" p0) [] [] p1) "__init__" p2) [.Constant (.str z) n0 p3] [] p4) p5) (ksEnv qual scope L fI (.ref cda) cc)) Q E s := by
  obtain ⟨nm, q, N, bs, bm, sn, sub, ab, col, dd, k0, k1, k2, k3, k5, hC, hbm⟩ := T.cls
  have hcl : clsIn K C = some { name := nm, bases := bs, mro := .ref C :: bm, ns := N, qualname := q, hasDict := true, slotNames := sn, subclasses := sub, abstract := ab, collection := col, hasDel := false } := by unfold clsIn; rw [hC] <;> rfl
  obtain ⟨hp0, g, d, tk, os⟩ := s
  have hint : interactive (ksEnv qual scope L fI (.ref cda) cc) = false := by simp [interactive, hk]
  obtain ⟨oC, hC1, hC2⟩ : ∃ oC, hp0.get? C = some oC ∧ oC.data = .cls { name := nm, bases := bs, mro := .ref C :: bm, ns := N, qualname := q, hasDict := true, slotNames := sn, subclasses := sub, abstract := ab, collection := col, hasDel := false } := ⟨_, X _ _ hC, rfl⟩
  refine ks_wpAt_Expr_any (ks_wpAt_MethodCall (pl := pl) (ks_wpAt_super_base (env := ksEnv qual scope L fI (.ref cda) cc) hks hkc (by decide) rfl (X _ _ hf) rfl hp rfl (X _ _ hcd) rfl hvs hfile htop ?_) hev) hint hsw
  refine ks_loadName_global hk hks (loadGlobal_builtin (env := ksEnv qual scope L fI (.ref cda) cc) hG hgs hB hbs ⟨rfl, ?_⟩)
  refine wpAny_loadName_free hk hkc rfl ⟨_, X _ _ hcc, rfl⟩ ?_
  refine wpAny_loadName_local hk hka hn hself ?_
  refine ks_wpAny_isType_cls hC1 hC2 ⟨rfl, ?_⟩
  have I0 : InstAt hp0 x (excO C t0) C none := ⟨hx, rfl, rfl, trivial⟩
  refine ks_wpAny_call_super hC1 hC2 hx rfl (fun c e => by cases e) (looks_mroIn X T.mro) (fun h1 e1 k1 => ?_)
  have X1 : K.In h1 := X.keeps k1
  have hx1 := k1 _ _ hx
  have I1 : InstAt h1 x (excO C t0) C none := ⟨hx1, rfl, rfl, trivial⟩
  have hxC : x ≠ C := fun z => by
    rw [z] at hx
    have e2 := hC1
    rw [hx] at e2
    cases e2
    cases hC2
  have hsup : alongIn K "__init__" (((Value.ref C :: bm).dropWhile (· != .ref C)).drop 1) = some (some (.builtin "ValueError.__init__")) := by
    have h2 := T.sup
    unfold ks_superIn at h2
    rw [hcl] at h2
    exact h2
  refine kxs_getMethod kxs_ValueError e1 (looks_opaque X1 T.opq) (l₀ := .ref C :: bm) (fun A Q E s k q => wpAny_bind ((looks_clsIn X1 hcl) A _ E s k (wpAny_pure q))) rfl X1 hsup (I1.type.andThen (looks_subIn X1 T.veC)) hxC (by decide) ?_
  show wpAny _ _ (callWith p4 (.ref h1.objs.size) [] (backTo p4 (starEach [.Constant (.str z) n0 p3] (ksEnv qual scope L fI (.ref cda) cc))) []) _ _ _
  have eu : (h1.push (kxs_mw "ValueError.__init__" x)).get? h1.objs.size = some (kxs_mw "ValueError.__init__" x) := Heap.get?_push_size _ rfl
  have est : starEach [.Constant (.str z) n0 p3] (ksEnv qual scope L fI (.ref cda) cc) = (false, eval (.Constant (.str z) n0 p3) (ksEnv qual scope L fI (.ref cda) cc)) :: starEach [] (ksEnv qual scope L fI (.ref cda) cc) := by rfl
  rw [est]
  refine kxs_callWith (i := "ValueError.__init__") (x := x) rfl (evalArgs_plain ?_)
  show wpAny _ _ (spliced ((false, eval (.Constant (.str z) n0 p3) (ksEnv qual scope L fI (.ref cda) cc)) :: backTo p4 (starEach [] (ksEnv qual scope L fI (.ref cda) cc)))) _ _ _
  refine spliced_cons (Constant_str ?_)
  refine spliced_nil ⟨eu, ?_⟩
  have k2 : ∀ b o, hp0.get? b = some o → (h1.push (kxs_mw "ValueError.__init__" x)).get? b = some o := fun b o e => Heap.get?_push_of_some _ (k1 b o e)
  refine wpAny_call (codeAny_of_tree ?_)
  show wpAny _ A.in1 (callAny (.ref h1.objs.size) ⟨_, []⟩) _ _ _
  simp only [callAny]
  refine wpAny_bind (wpAny_load eu ?_)
  simp only [kxs_mw, show (Value.type "method-wrapper" == Value.type "method" || Value.type "method-wrapper" == Value.type "builtin_function_or_method" || Value.type "method-wrapper" == Value.type "method-wrapper") = true by decide, if_true]
  refine KFB.if_so (by decide) ?_
  refine wpAny_bind (check_bound_init F.excBase_ValueError.toExcCallFacts (k2 _ _ (X _ _ hC)) (k2 _ _ hx) rfl ?_)
  refine wpAny_bind (wpAny_pure (wpAny_pure ?_))
  refine ⟨plainId_quiet F.excBase_ValueError.init.plain _, codeAny_builtin F.excBase_ValueError.initEntry ?_⟩
  refine exc_init_tree (cls := .ref C) (t0 := t0) (dv := none) (c2 := .none) (c3 := .none) (b4 := .bool false) (k2 _ _ hx) (by rw [sizeLine_eq]; exact (by decide : 1 ≤ 16777216)) fun h2 k3 e3 _ => ?_
  exact hq h2 _ _ (fun b o hb e => k3 b o hb (k2 b o e)) e3
/-- self.f = f, the first one: a new dict at dx holds it -/
theorem st_first {env : Env} {L x t0 : Addr} {m : Str → Option Value} {f : Str} {v : Value} {q1 q2 q3 q4 : Pos} {Q : Flow → Shared → Prop} (T : SupC prog K C fI) (X : K.In s.heap) (hno : findIn K (.ref C) f = some none)
    (hn : s.heap.Ns L m) (hself : m "self" = some (.ref x)) (hfv : m f = some v) (hx : s.heap.get? x = some (excO C t0)) (eL : env.locals = L) (hk : env.scope.kind = .function) (hks : env.kindOf "self" = some .local) (hkf : env.kindOf f = some .local)
    (hdf : (f == ("__debug__" : Str)) = false) (hsw : swapsWith (.Name f q3) (some (.Attribute (.Name "self" q1) f q2)) q4.line env = pure false)
    (hq : ∀ h' tk dx, (∀ b o, b ≠ x → s.heap.get? b = some o → h'.get? b = some o) → s.heap.objs.size ≤ dx → dx ≠ x → h'.get? x = some { cls := .ref C, dict := some dx, data := .fields #[.ref t0, .none, .none, .none, .bool false, .none] } →
      h'.Ns1 dx (fun y => if y = f then some v else none) → Q .next { s with heap := h', toks := tk }) :
    wpAny (model prog w) A (exec (.Assign [.Attribute (.Name "self" q1) f q2] (.Name f q3) q4) env) Q E s := by
  obtain ⟨nm, q, N, bs, bm, sn, sub, ab, col, dd, k0, k1, k2, k3, k5, hC, hbm⟩ := T.cls
  have hcl : clsIn K C = some { name := nm, bases := bs, mro := .ref C :: bm, ns := N, qualname := q, hasDict := true, slotNames := sn, subclasses := sub, abstract := ab, collection := col, hasDel := false } := by unfold clsIn; rw [hC] <;> rfl
  obtain ⟨hp, g, d, tk, os⟩ := s
  subst eL
  refine plainObj_wpAny_Assign_Attribute ?_ hsw
  refine wpAny_Name (wpAny_loadName_local hk hkf hn hfv ?_) hdf
  refine wpAny_Name (wpAny_loadName_local hk hks hn hself ?_) (by decide)
  refine set_plain X (ox := excO C t0) (od := none) ⟨hx, rfl, rfl, trivial⟩ T.sa ?_
  exact exc_osa X hx hcl (show refsVE (.ref C :: bm) = true from hbm) rfl hno fun h3 tk3 dx k3 dn dne hx3 hn3 => hq h3 tk3 dx k3 dn dne hx3 hn3
/-- .. a further one -/
theorem st_more {env : Env} {L x t0 dx : Addr} {m m0 : Str → Option Value} {f f0 : Str} {v : Value} {q1 q2 q3 q4 : Pos} {Q : Flow → Shared → Prop} (T : SupC prog K C fI) (X : K.In s.heap) (hno : findIn K (.ref C) f = some none)
    (hn : s.heap.Ns L m) (hself : m "self" = some (.ref x)) (hfv : m f = some v) (hx : s.heap.get? x = some { cls := .ref C, dict := some dx, data := .fields #[.ref t0, .none, .none, .none, .bool false, .none] }) (hd : s.heap.Ns1 dx m0) (hw : Within m0 [f0])
    (eL : env.locals = L) (hk : env.scope.kind = .function) (hks : env.kindOf "self" = some .local) (hkf : env.kindOf f = some .local)
    (hdf : (f == ("__debug__" : Str)) = false) (hsw : swapsWith (.Name f q3) (some (.Attribute (.Name "self" q1) f q2)) q4.line env = pure false)
    (hq : ∀ h' tk, (∀ b o, b ≠ dx → s.heap.get? b = some o → h'.get? b = some o) → h'.Ns1 dx (fun y => if y = f then some v else m0 y) → Q .next { s with heap := h', toks := tk }) :
    wpAny (model prog w) A (exec (.Assign [.Attribute (.Name "self" q1) f q2] (.Name f q3) q4) env) Q E s := by
  obtain ⟨nm, q, N, bs, bm, sn, sub, ab, col, dd, k0, k1, k2, k3, k5, hC, hbm⟩ := T.cls
  have hcl : clsIn K C = some { name := nm, bases := bs, mro := .ref C :: bm, ns := N, qualname := q, hasDict := true, slotNames := sn, subclasses := sub, abstract := ab, collection := col, hasDel := false } := by unfold clsIn; rw [hC] <;> rfl
  obtain ⟨oD, _, _, hoD, _, _⟩ := hd.count hw
  obtain ⟨hp, g, d, tk, os⟩ := s
  subst eL
  refine plainObj_wpAny_Assign_Attribute ?_ hsw
  refine wpAny_Name (wpAny_loadName_local hk hkf hn hfv ?_) hdf
  refine wpAny_Name (wpAny_loadName_local hk hks hn hself ?_) (by decide)
  refine set_plain X (ox := { cls := .ref C, dict := some dx, data := .fields #[.ref t0, .none, .none, .none, .bool false, .none] }) (od := some oD) ⟨hx, rfl, rfl, hoD⟩ T.sa ?_
  exact PySem.OEX.osa_old X hx hd hw (show (1 : Nat) ≤ 1000 by decide) hcl (show refsVE (.ref C :: bm) = true from hbm) rfl hno fun h3 tk3 k3 hn3 => hq h3 tk3 k3 hn3
/-- what an __init__ of this kind leaves of a fresh error at x: its dict at dx, new, holds the fields -/
structure InitEnd (h h' : Heap) (x C dx t1 : Addr) (mA : Str → Option Value) : Prop where
  keep : ∀ b o, b ≠ x → h.get? b = some o → h'.get? b = some o
  obj : h'.get? x = some { cls := .ref C, dict := some dx, data := .fields #[.ref t1, .none, .none, .none, .bool false, .none] }
  dbig : h.objs.size ≤ dx
  dne : dx ≠ x
  ns : h'.Ns1 dx mA
/-- a made error of this kind -/
structure Made (h h' : Heap) (e C d : Addr) (mA : Str → Option Value) : Prop where
  keep : ∀ b o, h.get? b = some o → h'.get? b = some o
  new : h.objs.size ≤ e
  obj : ∃ oe vs, h'.get? e = some oe ∧ oe.cls = .ref C ∧ oe.dict = some d ∧ oe.data = .fields vs ∧ vs[1]? = some .none
  dbig : h.objs.size ≤ d
  dne : d ≠ e
  ns : h'.Ns1 d mA
/-- from the __init__ to the call of the class -/
theorem made_of {us : List Value} {mA : Str → Option Value} {R : Result → Shared → Prop} (T : SupC prog K C fI) (X : K.In s.heap) (hl : us.length ≤ sizeLine) (hroom : A.depth + 1 < recursionLimit)
    (init : ∀ (A' : Around) (s' : Shared) (x t0 : Addr) (R' : Result → Shared → Prop), (∀ b o, s.heap.get? b = some o → s'.heap.get? b = some o) → s'.heap.get? x = some (excO C t0) → s.heap.get? x = none → A'.depth < recursionLimit →
      (∀ h' tk dx t1, InitEnd s'.heap h' x C dx t1 mA → R' (.ok (.ret .none)) { s' with heap := h', toks := tk }) → codeAny (model prog w) A' (.call (.ref fI) ⟨.ref x :: us, []⟩) R' s')
    (hq : ∀ h' tk e d, Made s.heap h' e C d mA → R (.ok (.ret (.ref e))) { s with heap := h', toks := tk }) : codeAny (model prog w) A (.call (.ref C) ⟨us, []⟩) R s := by
  obtain ⟨nm, q, N, bs, bm, sn, sub, ab, col, dd, k0, k1, k2, k3, k5, hC, hbm⟩ := T.cls
  obtain ⟨hp, g, dr, tk, os⟩ := s
  have k : ∀ b o, hp.get? b = some o → ((hp.push (kdv_tup us)).push (excO C hp.objs.size)).get? b = some o := fun b o e => Heap.get?_push_of_some _ (Heap.get?_push_of_some _ e)
  have hget : ((hp.push (kdv_tup us)).push (excO C hp.objs.size)).get? (hp.objs.size + 1) = some (excO C hp.objs.size) := by heap_get
  refine call_own F.excBase_ValueError (fun X => refsVE_contains X bm hbm) (X _ _ hC) (looks_findIn X T.iC) (fun self => bind_fn X self T.tC) hl ?_
  refine init _ ⟨(hp.push (kdv_tup us)).push (excO C hp.objs.size), g, dr, tk, os⟩ _ hp.objs.size _ k hget (Heap.get?_none_of_le (Nat.le_succ _)) ?_ fun h' tk' dx t1 ⟨k', hx, dn, dne, hns⟩ => ?_
  · show A.depth + 1 < recursionLimit
    exact hroom
  · have old : ∀ b o, hp.get? b = some o → h'.get? b = some o := fun b o e => k' b o (Nat.ne_of_lt (Nat.lt_succ_of_lt (Heap.lt_size e))) (k b o e)
    have z : hp.objs.size + 1 + 1 ≤ dx := by
      first
        | (simpa only [Heap.size_push] using dn)
        | exact dn
        | (have q := dn; rw [Heap.size_push, Heap.size_push] at q; exact q)
    exact ⟨rfl, hq h' tk' (hp.objs.size + 1) dx ⟨old, Nat.le_succ _, ⟨_, _, hx, rfl, rfl, rfl, rfl⟩, Nat.le_trans (Nat.le_trans (Nat.le_succ _) (Nat.le_succ _)) z, dne, hns⟩⟩
end
open L2

section
variable {w : World} {A : Around} {s : Shared} {K : Frag} {mg mb : Str → Option Value} {C fI : Addr} {R : Result → Shared → Prop}
/-- BadHall's __init__ -/
theorem init_BadHall {v : Value} {x t0 : Addr} (T : SupC PySem.Challenge.pw_booklimits_k95_whole_texts_of_rules K C fI) (S : SupF PySem.Challenge.pw_booklimits_k95_whole_texts_of_rules K C fI (PySem.Str.ofString "BadHall.__init__") (defArgs (inClass (K95.top 2) 0)) (defBody (inClass (K95.top 2) 0)) (defScope (inClass (K95.top 2) 0))) (no1 : findIn K (.ref C) "part" = some none)
    (X : K.In s.heap) (hlim : s.heap.NoLimit) (hG : s.heap.Ns mainGlobals mg) (hgs : mg "super" = none) (hB : s.heap.Ns builtinsNs mb) (hbs : mb "super" = some (.type "super"))
    (hx : s.heap.get? x = some (excO C t0)) (hnx : K.lookup x = none) (hroom : A.depth < recursionLimit)
    (hq : ∀ h' tk dx t1, InitEnd s.heap h' x C dx t1 (fun y => if y = "part" then some v else none) → R (.ok (.ret .none)) { s with heap := h', toks := tk }) :
    codeAny (model PySem.Challenge.pw_booklimits_k95_whole_texts_of_rules w) A (.call (.ref fI) ⟨[.ref x, v], []⟩) R s := by
  obtain ⟨oc, od, doc, pm, kV, an, cda, cc, ct, osl, hf, hcode, ⟨ol, dl, sl, hcc⟩, ⟨ol2, dl2, vs, sl2, file, tf, hcd, hvs, hfile⟩⟩ := S.fn
  refine ks_codeAny_call_defAt (binds := [("self", .ref x), ("part", v)]) hroom (X _ _ hf) rfl hlim (codeRec_of X hcode) rfl (BindsTo.of_eq (by first | rfl | with_unfolding_all rfl)) (show ∀ x ∈ (defScope (inClass (K95.top 2) 0)).names, x.2 ≠ .cell by decide +kernel) (fun b hb => ?_) (fun h1 hns k1 => ?_)
  · have key : ∀ n ∈ (["self", "part"] : List Str), (defScope (inClass (K95.top 2) 0)).names.lookup n = some .local := by decide +kernel
    exact key _ (List.mem_map_of_mem (f := Prod.fst) hb)
  obtain ⟨hp, g, d, tk, os⟩ := s
  have X1 : K.In h1 := X.keeps k1
  have hx1 := k1 _ _ hx
  refine ks_wpAt_execs_cons ?_
  refine sup_stmt (ar := ⟨"self", none, _⟩) T X1 hf hcc hcd hvs hfile rfl (hG.keeps k1) hgs (hB.keeps k1) hbs hns rfl hx1 rfl rfl rfl rfl (by kernel_rfl) rfl rfl (fun h2 tk2 t2 k2 hx2 => ?_)
  have k12 : ∀ b o, b ≠ x → hp.get? b = some o → h2.get? b = some o := fun b o hb e => k2 b o hb (k1 b o e)
  have X2 : K.In h2 := fun a o e => k12 a o (fun z => by rw [z, hnx] at e; cases e) (X a o e)
  have hxL : hp.objs.size ≠ x := Nat.ne_of_gt (Heap.lt_size hx)
  have hns2 : h2.Ns hp.objs.size _ := hns.at fun o e => k2 _ o hxL e
  have z1 : hp.objs.size < h2.objs.size := hns2.lt
  refine wpAt_of_wpAny ?_
  refine wpAny_execs_cons (st_first T X2 no1 hns2 rfl rfl hx2 rfl rfl rfl rfl (by decide) rfl (fun h3 tk3 dx k3 dn dne hx3 hn3 => ?_))
  refine wpAny_execs_nil (hq h3 tk3 dx t2 ⟨fun b o hb e => k3 b o hb (k12 b o hb e), hx3, Nat.le_of_lt (Nat.lt_of_lt_of_le z1 dn), dne, hn3⟩)

end

section
variable {w : World} {A : Around} {s : Shared} {K : Frag} {mg mb : Str → Option Value} {C fI : Addr} {R : Result → Shared → Prop}
/-- BadRule's __init__ -/
theorem init_BadRule {v : Value} {x t0 : Addr} (T : SupC PySem.Challenge.pw_booklimits_k95_whole_texts_of_rules K C fI) (S : SupF PySem.Challenge.pw_booklimits_k95_whole_texts_of_rules K C fI (PySem.Str.ofString "BadRule.__init__") (defArgs (inClass (K95.top 3) 0)) (defBody (inClass (K95.top 3) 0)) (defScope (inClass (K95.top 3) 0))) (no1 : findIn K (.ref C) "path" = some none)
    (X : K.In s.heap) (hlim : s.heap.NoLimit) (hG : s.heap.Ns mainGlobals mg) (hgs : mg "super" = none) (hB : s.heap.Ns builtinsNs mb) (hbs : mb "super" = some (.type "super"))
    (hx : s.heap.get? x = some (excO C t0)) (hnx : K.lookup x = none) (hroom : A.depth < recursionLimit)
    (hq : ∀ h' tk dx t1, InitEnd s.heap h' x C dx t1 (fun y => if y = "path" then some v else none) → R (.ok (.ret .none)) { s with heap := h', toks := tk }) :
    codeAny (model PySem.Challenge.pw_booklimits_k95_whole_texts_of_rules w) A (.call (.ref fI) ⟨[.ref x, v], []⟩) R s := by
  obtain ⟨oc, od, doc, pm, kV, an, cda, cc, ct, osl, hf, hcode, ⟨ol, dl, sl, hcc⟩, ⟨ol2, dl2, vs, sl2, file, tf, hcd, hvs, hfile⟩⟩ := S.fn
  refine ks_codeAny_call_defAt (binds := [("self", .ref x), ("path", v)]) hroom (X _ _ hf) rfl hlim (codeRec_of X hcode) rfl (BindsTo.of_eq (by first | rfl | with_unfolding_all rfl)) (show ∀ x ∈ (defScope (inClass (K95.top 3) 0)).names, x.2 ≠ .cell by decide +kernel) (fun b hb => ?_) (fun h1 hns k1 => ?_)
  · have key : ∀ n ∈ (["self", "path"] : List Str), (defScope (inClass (K95.top 3) 0)).names.lookup n = some .local := by decide +kernel
    exact key _ (List.mem_map_of_mem (f := Prod.fst) hb)
  obtain ⟨hp, g, d, tk, os⟩ := s
  have X1 : K.In h1 := X.keeps k1
  have hx1 := k1 _ _ hx
  refine ks_wpAt_execs_cons ?_
  refine sup_stmt (ar := ⟨"self", none, _⟩) T X1 hf hcc hcd hvs hfile rfl (hG.keeps k1) hgs (hB.keeps k1) hbs hns rfl hx1 rfl rfl rfl rfl (by kernel_rfl) rfl rfl (fun h2 tk2 t2 k2 hx2 => ?_)
  have k12 : ∀ b o, b ≠ x → hp.get? b = some o → h2.get? b = some o := fun b o hb e => k2 b o hb (k1 b o e)
  have X2 : K.In h2 := fun a o e => k12 a o (fun z => by rw [z, hnx] at e; cases e) (X a o e)
  have hxL : hp.objs.size ≠ x := Nat.ne_of_gt (Heap.lt_size hx)
  have hns2 : h2.Ns hp.objs.size _ := hns.at fun o e => k2 _ o hxL e
  have z1 : hp.objs.size < h2.objs.size := hns2.lt
  refine wpAt_of_wpAny ?_
  refine wpAny_execs_cons (st_first T X2 no1 hns2 rfl rfl hx2 rfl rfl rfl rfl (by decide) rfl (fun h3 tk3 dx k3 dn dne hx3 hn3 => ?_))
  refine wpAny_execs_nil (hq h3 tk3 dx t2 ⟨fun b o hb e => k3 b o hb (k12 b o hb e), hx3, Nat.le_of_lt (Nat.lt_of_lt_of_le z1 dn), dne, hn3⟩)

end

section
variable {w : World} {A : Around} {s : Shared} {K : Frag} {mg mb : Str → Option Value} {C fI : Addr} {R : Result → Shared → Prop}
/-- BadText's __init__ -/
theorem init_BadText {u v : Value} {x t0 : Addr} (T : SupC PySem.Challenge.pw_booklimits_k95_whole_texts_of_rules K C fI) (S : SupF PySem.Challenge.pw_booklimits_k95_whole_texts_of_rules K C fI (PySem.Str.ofString "BadText.__init__") (defArgs (inClass (K95.top 10) 0)) (defBody (inClass (K95.top 10) 0)) (defScope (inClass (K95.top 10) 0))) (no1 : findIn K (.ref C) "line" = some none) (no2 : findIn K (.ref C) "word" = some none)
    (X : K.In s.heap) (hlim : s.heap.NoLimit) (hG : s.heap.Ns mainGlobals mg) (hgs : mg "super" = none) (hB : s.heap.Ns builtinsNs mb) (hbs : mb "super" = some (.type "super"))
    (hx : s.heap.get? x = some (excO C t0)) (hnx : K.lookup x = none) (hroom : A.depth < recursionLimit)
    (hq : ∀ h' tk dx t1, InitEnd s.heap h' x C dx t1 (fun y => if y = "word" then some v else if y = "line" then some u else none) → R (.ok (.ret .none)) { s with heap := h', toks := tk }) :
    codeAny (model PySem.Challenge.pw_booklimits_k95_whole_texts_of_rules w) A (.call (.ref fI) ⟨[.ref x, u, v], []⟩) R s := by
  obtain ⟨oc, od, doc, pm, kV, an, cda, cc, ct, osl, hf, hcode, ⟨ol, dl, sl, hcc⟩, ⟨ol2, dl2, vs, sl2, file, tf, hcd, hvs, hfile⟩⟩ := S.fn
  refine ks_codeAny_call_defAt (binds := [("self", .ref x), ("line", u), ("word", v)]) hroom (X _ _ hf) rfl hlim (codeRec_of X hcode) rfl (BindsTo.of_eq (by first | rfl | with_unfolding_all rfl)) (show ∀ x ∈ (defScope (inClass (K95.top 10) 0)).names, x.2 ≠ .cell by decide +kernel) (fun b hb => ?_) (fun h1 hns k1 => ?_)
  · have key : ∀ n ∈ (["self", "line", "word"] : List Str), (defScope (inClass (K95.top 10) 0)).names.lookup n = some .local := by decide +kernel
    exact key _ (List.mem_map_of_mem (f := Prod.fst) hb)
  obtain ⟨hp, g, d, tk, os⟩ := s
  have X1 : K.In h1 := X.keeps k1
  have hx1 := k1 _ _ hx
  refine ks_wpAt_execs_cons ?_
  refine sup_stmt (ar := ⟨"self", none, _⟩) T X1 hf hcc hcd hvs hfile rfl (hG.keeps k1) hgs (hB.keeps k1) hbs hns rfl hx1 rfl rfl rfl rfl (by kernel_rfl) rfl rfl (fun h2 tk2 t2 k2 hx2 => ?_)
  have k12 : ∀ b o, b ≠ x → hp.get? b = some o → h2.get? b = some o := fun b o hb e => k2 b o hb (k1 b o e)
  have X2 : K.In h2 := fun a o e => k12 a o (fun z => by rw [z, hnx] at e; cases e) (X a o e)
  have hxL : hp.objs.size ≠ x := Nat.ne_of_gt (Heap.lt_size hx)
  have hns2 : h2.Ns hp.objs.size _ := hns.at fun o e => k2 _ o hxL e
  have z1 : hp.objs.size < h2.objs.size := hns2.lt
  refine wpAt_of_wpAny ?_
  refine wpAny_execs_cons (st_first T X2 no1 hns2 rfl rfl hx2 rfl rfl rfl rfl (by decide) rfl (fun h3 tk3 dx k3 dn dne hx3 hn3 => ?_))
  have X3 : K.In h3 := fun a o e => k3 a o (fun z => by rw [z, hnx] at e; cases e) (X2 a o e)
  have hns3 : h3.Ns hp.objs.size _ := hns2.at fun o e => k3 _ o hxL e
  refine wpAny_execs_cons (st_more T X3 no2 hns3 rfl rfl hx3 hn3 (Within.cons "line" u Within.nil) rfl rfl rfl rfl (by decide) rfl (fun h4 tk4 k4 hn4 => ?_))
  have hxd : h4.get? x = some _ := k4 _ _ (Ne.symm dne) hx3
  refine wpAny_execs_nil (hq h4 tk4 dx t2 ⟨fun b o hb e => ?_, hxd, Nat.le_of_lt (Nat.lt_of_lt_of_le z1 dn), dne, hn4⟩)
  have e2 := k12 b o hb e
  exact k4 b o (Nat.ne_of_lt (Nat.lt_of_lt_of_le (Heap.lt_size e2) dn)) (k3 b o hb e2)

end
end SupX
end PySem

set_option Elab.async false
set_option linter.all false
set_option maxRecDepth 100000
set_option maxHeartbeats 4000000
namespace K95
open PySem PySem.Spec PyProof.Rows L2
abbrev PR : Program := PySem.Challenge.pw_booklimits_k95_whole_texts_of_rules
/-- what the written part K, under the module's names mg, tells of an own error class x (the i-th row of the top), of its __init__, of the fields fs -/
structure SupT (K : PySem.W.Frag) (mg : Str → Option Value) (x q : Str) (i : Nat) (fs : List Str) : Prop where
  g : mg x = some (.ref (He.ga K x))
  c : SupX.SupC PR K (He.ga K x) (He.ma K (He.ga K x) "__init__")
  f : SupX.SupF PR K (He.ga K x) (He.ma K (He.ga K x) "__init__") q (defArgs (inClass (top i) 0)) (defBody (inClass (top i) 0)) (defScope (inClass (top i) 0))
  no : ∀ f ∈ fs, PySem.W.findIn K (.ref (He.ga K x)) f = some none
  su : mg "super" = none
/-- the error's own dict: the later field first -/
def xdOf (fs : List Str) (vs : List V) : HO := .xd (fs.zip vs).reverse
/-- x(e, ..): the class at C made with the fields fs -/
def tMkS (C : Addr) (fs : List Str) (ta : TA) : L2.St → Hp → XK → Prop := fun σ H Q => ta σ H fun vs H1 => vs.length = fs.length ∧ ∀ d, H1 d = none → Q (.ref C) (some d) (upd H1 d (xdOf fs vs))
section
variable {X : Cx}
theorem pmk_made {x : Str} {C : Addr} {e : Expr} {es : List Expr} {ta : TA} {fs : List Str} {p pos : Pos} {k : Nat} (mO : List Value → Str → Option Value) (gC : X.mg x = some (.ref C)) (kC : PySem.W.keepIn X.K (.ref C) = true) (hr : Room k X.A)
    (exC : PySem.W.subIn X.K (.ref C) (.type "BaseException") = some true) (tyC : PySem.W.typeIn X.K (.ref C) = some (.type "type"))
    (made : ∀ (A : Around) (s : Shared) (us : List Value) (R : Result → Shared → Prop) (mb : Str → Option Value), us.length = fs.length → X.K.In s.heap → s.heap.NoLimit → s.heap.Ns mainGlobals X.mg → s.heap.Ns builtinsNs mb → mb "super" = some (.type "super") → A.depth + 1 < recursionLimit →
      (∀ h' tk e d, SupX.Made s.heap h' e C d (mO us) → R (.ok (.ret (.ref e))) { s with heap := h', toks := tk }) → codeAny (model X.prog X.w) A (.call (.ref C) ⟨us, []⟩) R s)
    (hmO : ∀ vs us, Vals vs us → vs.length = fs.length → ∀ f, RelO (((fs.zip vs).reverse).lookup f) (mO us f)) (ha : PA X (e :: es) ta) (hg : Gl X x := by rfl) (hdb : (x == ("__debug__" : Str)) = false := by decide)
    (he : starEach (e :: es) X.env = (false, eval e X.env) :: starEach es X.env := by rfl) (hpl : (backTo pos (starEach es X.env)).any (·.1) = false := by rfl) :
    PMk X (.Call (.Name x p) (e :: es) [] pos) (tMkS C fs ta) := by
  intro pins s σ H Q I h
  refine wpAny_Call_Name_kw (ld_glob I hg gC ?_ hdb)
  refine PySem.W.callWith_K (h₀ := X.base) I.ok.mod.kin kC (thn (ha.run pos pins s σ H _ I h) fun us s1 hh => ?_) he hpl
  obtain ⟨vs, H1, I1, r1, hl, q1⟩ := hh
  refine ⟨I1.kIn, ?_⟩
  have hlim := I1.nolimit
  obtain ⟨mb, hb1, hb2⟩ := I1.ok.mod.blt
  have hB := hb1.keeps I1.bk
  have hG := I1.ok.mod.glob.keeps I1.bk
  have hbs : mb "super" = some (.type "super") := (hb2 _ (by decide)).trans (by decide +kernel)
  obtain ⟨hp, g, dr, tk, os⟩ := s1
  refine wpAny_call (made _ _ us _ mb (by rw [← r1.length]; exact hl) I1.kIn hlim hG hB hbs (by have := hr.dp; omega) fun h' tk' e d M => ?_)
  show MkP X pins σ Q (.ref e) ⟨h', g, dr, tk', os⟩
  obtain ⟨oe, fv, hoe, hc, hd, hdat, h1⟩ := M.obj
  have hns := M.ns
  obtain ⟨G', g1, g2⟩ := restrict h' fun b => decide (b ≠ e)
  have gk : ∀ b, b ≠ e → G'.get? b = h'.get? b := fun b hb => g1 b (decide_eq_true hb)
  have ge : G'.get? e = none := g2 e (by simp)
  have old : ∀ b o, hp.get? b = some o → G'.get? b = some o := fun b o q => (gk b (Nat.ne_of_lt (Nat.lt_of_lt_of_le (Heap.lt_size q) M.new))).trans (M.keep b o q)
  have ob : ObjOk X.prog X.w (upd H1 d (xdOf fs vs)) G' d (xdOf fs vs) :=
    ⟨_, hns.at (fun o q => (gk d M.dne).trans q), fun f => hmO vs us r1 hl f⟩
  have J : Inv X pins σ (upd H1 d (xdOf fs vs)) ⟨G', g, dr, tk', os⟩ := I1.laid (t' := tk') old M.dbig ob
  refine ⟨e, oe, fv, ⟨G', g, dr, tk', os⟩, _, .ref C, some d, rfl, J, fun b o q => ?_, ge, hoe, ⟨hc, hd⟩, hdat, h1, ?_, rfl, I1.bare, raises_own exC tyC, q1 d (I1.hok.fresh M.dbig)⟩
  · by_cases hb : b = e
    · have q' : G'.get? b = some o := q
      rw [hb, ge] at q'; cases q'
    · exact (gk b hb).symm.trans q
  · rw [upd_ne (Ne.symm M.dne)]
    exact I1.hok.fresh M.new
end
theorem relO_one {f : Str} {vs : List V} {us : List Value} (r : Vals vs us) (hl : vs.length = [f].length) (y : Str) : RelO (((([f] : List Str).zip vs).reverse).lookup y) (if y = f then us.head? else none) := by
  cases r with
  | nil => cases hl
  | cons r1 r2 =>
    cases r2 with
    | cons _ _ => cases hl
    | nil =>
      show RelO (List.lookup y [(f, _)]) _
      rw [L2.lookup_put]
      by_cases h : y = f
      · rw [if_pos h, if_pos h]
        exact r1
      · rw [if_neg h, if_neg h]
        exact True.intro
theorem relO_two {f g : Str} {vs : List V} {us : List Value} (r : Vals vs us) (hl : vs.length = [f, g].length) (y : Str) : RelO (((([f, g] : List Str).zip vs).reverse).lookup y) (if y = g then us[1]? else if y = f then us.head? else none) := by
  cases r with
  | nil => cases hl
  | cons r1 r2 =>
    cases r2 with
    | nil => cases hl
    | cons q1 q2 =>
      cases q2 with
      | cons _ _ => cases hl
      | nil =>
        show RelO (List.lookup y [(g, _), (f, _)]) _
        rw [L2.lookup_put, L2.lookup_put]
        by_cases h : y = g
        · rw [if_pos h, if_pos h]
          exact q1
        · rw [if_neg h, if_neg h]
          by_cases h2 : y = f
          · rw [if_pos h2, if_pos h2]
            exact r1
          · rw [if_neg h2, if_neg h2]
            exact True.intro
section
variable {X : Cx} {e e2 : Expr} {ta : TA} {p pos : Pos} {k : Nat}
theorem ne_main {K : PySem.W.Frag} {s : Shared} {x : Addr} (X : K.In s.heap) (h : s.heap.get? x = none) : K.lookup x = none := by
  cases e : K.lookup x with
  | none => rfl
  | some o => rw [X x o e] at h; cases h
theorem pmk_BadHall (T : SupT X.K X.mg "BadHall" "BadHall.__init__" 2 ["part"]) (hr : Room k X.A) (ha : PA X [e] ta) (hP : X.prog = PR := by rfl) (hg : Gl X "BadHall" := by rfl)
    (he : starEach (e :: []) X.env = (false, eval e X.env) :: starEach [] X.env := by rfl) (hpl : (backTo pos (starEach [] X.env)).any (·.1) = false := by rfl) :
    PMk X (.Call (.Name "BadHall" p) [e] [] pos) (tMkS (He.ga X.K "BadHall") ["part"] ta) := by
  refine pmk_made (fun us y => if y = "part" then us.head? else none) T.g T.c.kC hr T.c.exC T.c.tyC (fun A s us R mb hu X1 hlim hG hB hbs hd hq => ?_) (fun vs us r hl f => relO_one r hl f) ha hg (by decide) he hpl
  match us, hu with
  | [v], _ =>
    rw [hP]
    exact SupX.made_of T.c X1 (show (1 : Nat) ≤ sizeLine by decide) hd (fun A' s' x t0 R' k1 hx hn hd' q => SupX.init_BadHall T.c T.f (T.no _ (by simp)) (X1.keeps k1) (hlim.keeps k1) (hG.keeps k1) T.su (hB.keeps k1) hbs hx (ne_main X1 hn) hd' q) hq
theorem pmk_BadRule (T : SupT X.K X.mg "BadRule" "BadRule.__init__" 3 ["path"]) (hr : Room k X.A) (ha : PA X [e] ta) (hP : X.prog = PR := by rfl) (hg : Gl X "BadRule" := by rfl)
    (he : starEach (e :: []) X.env = (false, eval e X.env) :: starEach [] X.env := by rfl) (hpl : (backTo pos (starEach [] X.env)).any (·.1) = false := by rfl) :
    PMk X (.Call (.Name "BadRule" p) [e] [] pos) (tMkS (He.ga X.K "BadRule") ["path"] ta) := by
  refine pmk_made (fun us y => if y = "path" then us.head? else none) T.g T.c.kC hr T.c.exC T.c.tyC (fun A s us R mb hu X1 hlim hG hB hbs hd hq => ?_) (fun vs us r hl f => relO_one r hl f) ha hg (by decide) he hpl
  match us, hu with
  | [v], _ =>
    rw [hP]
    exact SupX.made_of T.c X1 (show (1 : Nat) ≤ sizeLine by decide) hd (fun A' s' x t0 R' k1 hx hn hd' q => SupX.init_BadRule T.c T.f (T.no _ (by simp)) (X1.keeps k1) (hlim.keeps k1) (hG.keeps k1) T.su (hB.keeps k1) hbs hx (ne_main X1 hn) hd' q) hq
theorem pmk_BadText (T : SupT X.K X.mg "BadText" "BadText.__init__" 10 ["line", "word"]) (hr : Room k X.A) (ha : PA X [e, e2] ta) (hP : X.prog = PR := by rfl) (hg : Gl X "BadText" := by rfl)
    (he : starEach (e :: [e2]) X.env = (false, eval e X.env) :: starEach [e2] X.env := by rfl) (hpl : (backTo pos (starEach [e2] X.env)).any (·.1) = false := by rfl) :
    PMk X (.Call (.Name "BadText" p) [e, e2] [] pos) (tMkS (He.ga X.K "BadText") ["line", "word"] ta) := by
  refine pmk_made (fun us y => if y = "word" then us[1]? else if y = "line" then us.head? else none) T.g T.c.kC hr T.c.exC T.c.tyC (fun A s us R mb hu X1 hlim hG hB hbs hd hq => ?_) (fun vs us r hl f => relO_two r hl f) ha hg (by decide) he hpl
  match us, hu with
  | [u, v], _ =>
    rw [hP]
    exact SupX.made_of T.c X1 (show (2 : Nat) ≤ sizeLine by decide) hd (fun A' s' x t0 R' k1 hx hn hd' q => SupX.init_BadText T.c T.f (T.no _ (by simp)) (T.no _ (by simp)) (X1.keeps k1) (hlim.keeps k1) (hG.keeps k1) T.su (hB.keeps k1) hbs hx (ne_main X1 hn) hd' q) hq
end
end K95

set_option Elab.async false
set_option linter.all false
set_option maxRecDepth 100000
set_option maxHeartbeats 4000000
/-! try: .. with several clauses «except X as n», all of one name n (slot i). -/
namespace K95
open PySem PySem.Spec PyProof.Rows L2
/-- behind the suite the clause's name is gone -/
def goneE (i : Nat) (D : Ends) : Ends := { nx := fun σ H => D.nx (σ.set i none) H, rt := D.rt, bk := fun σ H => D.bk (σ.set i none) H, ct := fun σ H => D.ct (σ.set i none) H }
/-- what is wished of an error of the body: the first clause whose class takes it runs its suite -/
def wAsM (K : PySem.W.Frag) (i : Nat) (D : Ends) : List (Value × (Addr → Value → Option Addr → TS)) → WX
  | [] => fun _ _ _ _ => False
  | (c, ts) :: r => fun cls d σ H => ∃ b, PySem.W.exmOne K cls c = some b ∧ (b = true → ∀ a, H a = none → ts a cls d (goneE i D) (σ.set i (some (.ref a))) H) ∧ (b = false → wAsM K i D r cls d σ H)
/-- the clauses are of that form -/
inductive Clauses (X : Cx) (n : Str) : List ExceptHandler → List (Value × (Addr → Value → Option Addr → TS)) → Prop
  | nil : Clauses X n [] []
  | cons {x : Str} {c : Value} {ts : Addr → Value → Option Addr → TS} {b₀ : Stmt} {suite : List Stmt} {np pos' : Pos} {hds : List ExceptHandler} {l : List (Value × (Addr → Value → Option Addr → TS))} (hc : Names X x c)
      (hsu : ∀ (a : Addr) (oe : Obj) (cls : Value) (d : Option Addr) (pn : List (Addr × Obj)), Zc cls d oe → (∃ vs, oe.data = .fields vs) → PSs (X.suite a ((a, oe) :: pn)) (b₀ :: suite) (ts a cls d)) (r : Clauses X n hds l) :
      Clauses X n (.ExceptHandler (some (.Name x np)) (some n) (b₀ :: suite) pos' :: hds) ((c, ts) :: l)
section
variable {X : Cx} {n : Str} {i : Nat} {body : List Stmt} {hd₀ : ExceptHandler} {hds : List ExceptHandler} {l : List (Value × (Addr → Value → Option Addr → TS))} {pos : Pos} {tb : WX → TS}
/-- an error that stands noted over the ground B, met by clauses of that form -/
theorem clauses_meet {pins : List (Addr × Obj)} {σ : L2.St} {H : Hp} {sI s₀ : Shared} {D : Ends} {a : Addr} {B h3 : Heap} {cls : Value} {d : Option Addr} (ok : X.Ok) (hf : X.env.frame = some X.env.locals) (hN : X.N.Nodup) (hi : X.N[i]? = some n) (hln : X.env.kindOf n = some .local)
    (J : Inv X pins σ H sI) (nb : ∀ b o, sI.heap.get? b = some o → b ∉ frs X.stack → B.get? b = some o) (fl : HandSPX.FlyingZ B (X.env :: X.outer) a (Zc cls d) h3) (up : sI.heap.UpToSlots h3) (na : H a = none) (os : s₀.os = sI.os) (ag : AllBare s₀.gens) :
    ∀ {hds : List ExceptHandler} {l : List (Value × (Addr → Value → Option Addr → TS))}, Clauses X n hds l → wAsM X.K i D l cls d σ H →
      wpAny (model X.prog X.w) X.A (handleBy (.ref a) X.env hds) (SP X pins D) X.xe { s₀ with heap := h3 } := by
  have away : ∀ {h : Heap}, HandSPX.FlyingZ B (X.env :: X.outer) a (Zc cls d) h → a ∉ frs (X.env :: X.outer) := fun {h} q hm => by
    obtain ⟨oe, vs, e, _, dd⟩ := q.there
    obtain ⟨_, o', e', hnf⟩ := q.2.2.1.mem hm
    rw [e] at e'
    cases e'
    exact hnf _ dd
  have nfr := away fl
  have nL : a ≠ X.env.locals := fun z => nfr (List.mem_filterMap.mpr ⟨X.env, List.mem_cons_self, by rw [hf, z]⟩)
  have nF : a ∉ X.fs := fun hm => by
    obtain ⟨e, he, q⟩ := List.mem_filterMap.mp hm
    exact nfr (List.mem_filterMap.mpr ⟨e, List.mem_cons_of_mem _ he, q⟩)
  have J3 : Inv X pins σ H { s₀ with heap := h3 } := J.landed nb fl.1 up os ag
  obtain ⟨oe3, vs3, he3, hz3, hd3⟩ := fl.there
  have S3 := J3.suite he3 hd3 na nL nF
  intro hds l hk
  induction hk with
  | nil => intro w; exact False.elim w
  | @cons x c ts b₀ suite np pos' hds2 l2 hc hsu r ih =>
    intro w
    obtain ⟨b, hb1, hyes, hno⟩ := w
    refine wpAny_handleBy_cons (codeAny_handlers_test ?_) (by intro q; cases q)
    have LT : PySem.W.Looks (model X.prog X.w) h3 (typeOf (.ref a)) cls := fun A Q E s k q => wpAny_typeOf_ref (k _ _ he3) (by rw [hz3.1]; exact q)
    have named : ∀ {Q : Value → Shared → Prop} {E : Value → Shared → Prop}, Q c { s₀ with heap := h3 } → wpAny (model X.prog X.w) (X.A.mark (some (.ref a))) (eval (.Name x np) X.env) Q E { s₀ with heap := h3 } := fun {Q E} q => by
      obtain ⟨hg, hdbg, hm | ⟨hm, hv, hnn⟩⟩ := hc
      · exact ld_glob (X := X.suite a ((a, oe3) :: (X.pn ++ pins))) S3 hg hm q hdbg
      · exact ld_blt (X := X.suite a ((a, oe3) :: (X.pn ++ pins))) S3 hg hm hv q hnn hdbg
    refine named ((PySem.W.exm_one (M := model X.prog X.w) J3.kIn LT hb1).here ?_)
    cases b with
    | false => exact ih (hno rfl)
    | true =>
      refine codeAny_handlers_suite_as (HandSPX.lands_againZ fl fun h4 fl4 up4 => ?_)
      obtain ⟨oe4, vs4, he4, hz4, hd4⟩ := fl4.there
      have J4 : Inv X pins σ H { s₀ with heap := h4 } := J.landed nb fl4.1 (up.trans up4) os ag
      have S4 := J4.suite he4 hd4 na nL nF
      refine store_ok (X := X.suite a ((a, oe4) :: (X.pn ++ pins))) (v := .ref a) S4 hN hi (.inl hln) rfl (fun s5 S5 => ?_) (.inr hln)
      have gone : ∀ {σ6 : L2.St} {H6 : Hp} {s6 : Shared} {Q : Shared → Prop}, Inv (X.suite a ((a, oe4) :: (X.pn ++ pins))) [] σ6 H6 s6 → (∀ s7, Inv X pins (σ6.set i none) H6 s7 → Q s7) →
          wpAny (model X.prog X.w) X.A (do bindName X.env n .none; unbindBehindTheSuite X.env n pos') (fun _ s7 => Q s7) X.xe s6 := fun S6 hq => gone_ok (S6.unsuite ok) hN hi hln hq
      refine wpAny_mono ((hsu a oe4 cls d (X.pn ++ pins) hz4 ⟨_, hd4⟩).run [] s5 _ H _ S5 (hyes rfl a na)) (fun f s6 hsp => ?_) (fun _ _ z => False.elim z)
      match f, hsp with
      | .next, ⟨σ6, H6, S6, q6⟩ => exact gone S6 fun s7 J7 => ⟨_, _, J7, q6⟩
      | .brk, ⟨σ6, H6, S6, q6⟩ => exact gone S6 fun s7 J7 => ⟨_, _, J7, q6⟩
      | .cont, ⟨σ6, H6, S6, q6⟩ => exact gone S6 fun s7 J7 => ⟨_, _, J7, q6⟩
      | .ret u, ⟨v6, σ6, H6, S6, r6, q6⟩ => exact gone S6 fun s7 J7 => ⟨_, _, _, J7, r6, q6⟩
/-- try: body / except X1 as n: .. / except X2 as n: .. / .. -/
theorem ps_try_manyAs (hs : X.stack = X.env :: X.outer) (hf : X.env.frame = some X.env.locals) (hN : X.N.Nodup) (hi : X.N[i]? = some n) (hln : X.env.kindOf n = some .local)
    (hb : ∀ (W : WX) (pn : List (Addr × Obj)) (xe : Value → Shared → Prop), Takes (X.tr pn xe) W → PassesOwn (model X.prog X.w) X.A X.env xe → PSs (X.tr pn xe) body (tb W))
    (hh : Clauses X n (hd₀ :: hds) l) : PS X (.Try body (hd₀ :: hds) [] [] pos) (fun D σ H => tb (wAsM X.K i D l) D σ H) := by
  refine ⟨fun pins s σ H D I h => ?_⟩
  have ok := I.ok
  refine wpAny_Try_except ?_
  refine wpAny_mono ((hb (wAsM X.K i D l) (X.pn ++ pins) (fun e s₁ => wpAny (model X.prog X.w) X.A (noteFrame e X.env) (fun _ s₂ => wpAny (model X.prog X.w) X.A (setFlight e none) (fun _ s₃ =>
    wpAny (model X.prog X.w) X.A (handleBy e X.env (hd₀ :: hds)) (SP X pins D) X.xe s₃) X.xe s₂) X.xe s₁) (fun u s' xx => ?_) PassesOwn.looking).run [] s σ H D (I.toTry _) h) (fun f s1 hsp => ?_) (fun e s1 he => he)
  · obtain ⟨a, B, sI, pins', σ', H', cls, d, rfl, J', nb, up, sky, na, os, ag, w⟩ := xx
    rw [show (X.tr (X.pn ++ pins) _).stack = X.env :: X.outer from hs] at sky
    refine Sky.land Zc.steady (show X.A.frames = some (X.env :: X.outer) by rw [ok.frames, hs]) hf sky fun h3 fl3 up3 => ?_
    exact clauses_meet ok hf hN hi hln (J'.ofTry ok) nb fl3 (up.trans up3) na os ag hh w
  · match f, hsp with
    | .next, ⟨σ', H', J', q⟩ => exact wpAny_execs_nil ⟨σ', H', J'.ofTry ok, q⟩
    | .brk, ⟨σ', H', J', q⟩ => exact ⟨σ', H', J'.ofTry ok, q⟩
    | .cont, ⟨σ', H', J', q⟩ => exact ⟨σ', H', J'.ofTry ok, q⟩
    | .ret u, ⟨v, σ', H', J', r, q⟩ => exact ⟨v, σ', H', J'.ofTry ok, r, q⟩
end
end K95

set_option Elab.async false
set_option linter.all false
set_option maxRecDepth 100000
set_option maxHeartbeats 4000000
/-! repr of data, where no repr runs around; the promises of defs that lean on that; the law's end. -/
namespace K95
open PySem PySem.Spec PyProof.Rows L2
section
variable {X : Cx}
/-- repr(data), a list or a tuple, where no repr runs around -/
def rRepr (K : PySem.W.Frag) : List V → Hp → VK → Prop := fun xs H Q => ∃ (p : Addr) (d : PyData), xs = [.ref p] ∧ Dp K H (.ref p) d ∧ d.showable = true ∧ d.hasDict = false ∧ d.depth ≤ 50 ∧ d.shown.length ≤ sizeLine ∧ Q (.str d.shown) H
theorem call_repr (hg : X.A.guards = some []) (hu : X.A.units + 64 < cLine) : CallR X (.builtin "repr") (rRepr X.K) := by
  intro pins s σ H xs us Q I r h
  obtain ⟨p, d, rfl, dp, hs, hd, hz, hl, q⟩ := h
  match us, r with
  | [u], .cons r1 .nil =>
    obtain ⟨as, rd⟩ := Dp.reads I d _ u dp r1
    obtain rfl : u = Value.ref p := r1
    exact repr_of_reads' rd hs (PyData.noDict_hsm hd) hg (by omega) (fun _ _ e => e) (fun h' u tk k => ⟨.str d.shown, H, I.kept k, ⟨_, rfl⟩, q⟩) hl
end
/-- as FnOk, where no repr runs around -/
structure FnOkG (P : Program) (w : World) (K : PySem.W.Frag) (mg : Str → Option Value) (base : Heap) (CX : CXT) (k : Nat) (f : Addr) (fd : FuncData) (ps : List Str) (sp : Sp) : Prop where
  len : ∀ vs H Q E, sp vs H Q E → vs.length = ps.length
  run : ∀ (A : Around) (outer : List Env) (s : Shared) (H : Hp) (args : Args) (us : List Value) (vs : List V) (Q : VK) (E : XK), A.guards = some [] → Room k A → Env0 P w K mg base A outer s H → BindsTo s fd args (ps.zip us) → Vals vs us → sp vs H Q E →
    codeAny (model P w) A (.call (.ref f) args) (CR CX outer P w H s Q E) s
section
variable {P : Program} {w : World} {K : PySem.W.Frag} {mg : Str → Option Value} {base : Heap}
theorem FunD.okG {CX : CXT} {x qual : Str} {params : Arguments} {body : List Stmt} {scope : Scope} {dvs : List V} {kws : List (Str × V)} {f : Addr} {fd : FuncData} {N ps : List Str} {k : Nat} {sp : Sp} (F : FunD K x qual params body scope dvs kws f fd) (S : FnScope N ps scope) (len : ∀ vs H Q E, sp vs H Q E → vs.length = ps.length)
    (hbody : ∀ (cdv : Value) (A : Around) (outer : List Env) (s : Shared) (H : Hp) (vs : List V) (Q : VK) (E : XK), fd.code = cdv → (A.deeper (envOfC qual scope s.heap.objs.size f cdv)).guards = some [] → Room k (A.deeper (envOfC qual scope s.heap.objs.size f cdv)) → sp vs H Q E →
      ∃ t, PSs (cxOf CX P w K mg base N qual scope f cdv A outer s H E) body t ∧ t { nx := fun _ H' => Q .non H', rt := Q } (L2.start N vs) H) : FnOkG P w K mg base CX (k + 1) f fd ps sp := by
  obtain ⟨oc, od, dV, kV, doc, pm, an, cdv, ct, osl, rfl, lk, hcd, _, _⟩ := F.ex
  exact ⟨len, fun A outer s H args us vs Q E hg hr e0 hb r hsp => LamX.run_ofS lk hcd S hr e0 hb r (len _ _ _ _ hsp) fun hr' => hbody cdv A outer s H vs Q E rfl hg hr' hsp⟩
/-- .. and a plain def, with its code object told -/
theorem FunD.okC {CX : CXT} {x qual : Str} {params : Arguments} {body : List Stmt} {scope : Scope} {dvs : List V} {kws : List (Str × V)} {f : Addr} {fd : FuncData} {N ps : List Str} {k : Nat} {sp : Sp} (F : FunD K x qual params body scope dvs kws f fd) (S : FnScope N ps scope) (len : ∀ vs H Q E, sp vs H Q E → vs.length = ps.length)
    (hbody : ∀ (cdv : Value) (A : Around) (outer : List Env) (s : Shared) (H : Hp) (vs : List V) (Q : VK) (E : XK), Room k (A.deeper (envOfC qual scope s.heap.objs.size f cdv)) → sp vs H Q E →
      ∃ t, PSs (cxOf CX P w K mg base N qual scope f cdv A outer s H E) body t ∧ t { nx := fun _ H' => Q .non H', rt := Q } (L2.start N vs) H) : FnOk P w K mg base CX (k + 1) f fd ps sp :=
  F.ok S len hbody
end
section
variable {X : Cx} {CX : CXT} {k : Nat} {f : Addr} {fd : FuncData} {ps : List Str} {sp : Sp} {x : Str} {e : Expr} {es : List Expr} {t : TA} {E : XK} {p pos : Pos}
/-- f(e, ..), f's promise leaning on that no repr runs around -/
theorem pe_callG (F : FnOkG X.prog X.w X.K X.mg X.base CX k f fd ps sp) (hG : X.A.guards = some []) (hr : Room k X.A) (hg : Gl X x) (hm : X.mg x = some (.ref f)) (hk : PySem.W.keepIn X.K (.ref f) = true) (hb : Binds X.K fd ps []) (hx : Passes CX X E)
    (ha : PA X (e :: es) t) (hdb : (x == ("__debug__" : Str)) = false := by decide) (he : starEach (e :: es) X.env = (false, eval e X.env) :: starEach es X.env := by rfl) (hpl : (backTo pos (starEach es X.env)).any (·.1) = false := by rfl) :
    PE X (.Call (.Name x p) (e :: es) [] pos) (tCall sp [] E t) := by
  refine ⟨fun pins s σ H Q I h => wpAny_Call_Name_kw (ld_glob I hg hm (PySem.W.callWith_K (h₀ := X.base) I.ok.mod.kin hk (thn (ha.run pos pins s σ H _ I h) fun us s1 ⟨vs, H1, I1, r, q⟩ => ⟨I1.kIn, ?_⟩) he hpl) hdb)⟩
  have q2 : sp (vs ++ []) H1 Q E := q
  have q' : sp vs H1 Q E := by rw [List.append_nil] at q2; exact q2
  have hl : (us ++ []).length = ps.length := by rw [List.append_nil, ← r.length]; exact F.len _ _ _ _ q'
  have hb' := hb s1 us I1.kIn hl
  rw [List.append_nil] at hb'
  refine wpAny_call (codeAny_mono (F.run X.A X.stack s1 H1 ⟨us, []⟩ us vs Q E hG hr I1.env0 hb' r q') fun r s' hq => ?_)
  match r, hq with
  | .error e, hq => exact hx pins σ H1 s1 e s' I1 hq
  | .ok (.ret u), hq => exact I1.after hq
  | .ok .next, hq => exact False.elim hq
  | .ok .brk, hq => exact False.elim hq
  | .ok .cont, hq => exact False.elim hq
end
/-! ### the law's end -/
/-- the heap at the law's call, as it is told: the script (where the written part does not hold it) and the empty tables -/
def hpL (K : PySem.W.Frag) (a : Addr) (o : Obj) (ts : List Addr) (xs : List V) : Hp := fun b => if b ∈ ts then some (.tbl #[]) else if b = a ∧ K.lookup a = none then some (.frz o (.lst xs)) else none
theorem law_callG {P : Program} {w : World} {K : PySem.W.Frag} {mg mb : Str → Option Value} {CX : CXT} {k : Nat} {fa a : Addr} {cs : List (Addr × Addr)} {fd : FuncData} {x : Str} {sp : Sp} {s₁ : Shared} {vs : List Value} {ns : List Int}
    (KX : K.In s₁.heap) (hns : s₁.heap.Ns mainGlobals mg) (hb : s₁.heap.Ns builtinsNs mb) (hbb : ∀ x : Str, x ≠ "__name__" → mb x = bootBuiltins x) (hlim : s₁.heap.NoLimit) (hgn : s₁.gens = #[])
    (hT : ∀ p ∈ cs, s₁.heap.get? p.2 = some { cls := .none, data := .fields #[] }) (nT : ∀ p ∈ cs, K.lookup p.2 = none) (C : ∀ p ∈ cs, PySem.W.CodeHd s₁.heap p.1 p.2)
    (hbm : ∃ (bm : Addr) (ob : Obj), mg "__builtins__" = some (.ref bm) ∧ bm ≠ builtinsNs ∧ s₁.heap.get? bm = some ob ∧ ob.cls = .type "module" ∧ ob.dict = some builtinsNs ∧ ob.data = .plain)
    (ha : s₁.heap.get? a = some { cls := .type "list", data := .seq vs.toArray }) (hi : IntsAre vs ns) (hl : ns.length ≤ sizeLine) (hr : Room k callerA)
    (F : ∀ base : Heap, K.In base → base.Ns mainGlobals mg → (∀ p ∈ cs, LamX.TabB base mg p.1 p.2) → FnOkG P w K mg base CX k fa fd [x] sp) (hbind : ∀ (s : Shared) (u : Value), BindsTo s fd ⟨[u], []⟩ [(x, u)])
    (hsp : ∀ H : Hp, (∀ p ∈ cs, H p.2 = some (.tbl #[])) → SqL K H a (ns.map V.int) → sp [.ref a] H (fun v _ => v = .bl true) fun _ _ _ => False)
    (hCX : ∀ H e s', CX [] H s₁ (fun _ _ _ => False) e s' → False) :
    codeAny (model P w) callerA (.call (.ref fa) ⟨[.ref a], []⟩) (fun r s' => r = .ok (.ret (.bool true)) ∧ OldK s₁.heap s'.heap ∧ s'.os = s₁.os ∧ AllBare s'.gens) s₁ := by
  have rv := vals_ints hi
  have lenV := hi.length
  let oA : Obj := { cls := .type "list", data := .seq vs.toArray }
  let ts : List Addr := cs.map (·.2)
  let H : Hp := hpL K a oA ts (ns.map V.int)
  have isT : ∀ {b : Addr}, b ∈ ts → s₁.heap.get? b = some { cls := .none, data := .fields #[] } := fun {b} hb => by
    obtain ⟨p, hp, e⟩ := List.mem_map.mp hb
    rw [← e]
    exact hT p hp
  have memT : ∀ p ∈ cs, p.2 ∈ ts := fun p hp => List.mem_map.mpr ⟨p, hp, rfl⟩
  have aT : a ∉ ts := fun z => by
    have q := isT z
    rw [ha] at q
    cases q
  have hTab : ∀ {b : Addr}, b ∈ ts → H b = some (.tbl #[]) := fun hb => if_pos hb
  have hOth : ∀ {b : Addr} {u : HO}, H b = some u → (b ∈ ts ∧ u = .tbl #[]) ∨ (b ∉ ts ∧ b = a ∧ K.lookup a = none ∧ u = .frz oA (.lst (ns.map V.int))) := fun {b u} e => by
    by_cases hb : b ∈ ts
    · rw [hTab hb] at e
      exact .inl ⟨hb, (Option.some.inj e).symm⟩
    · have e2 : (if b = a ∧ K.lookup a = none then some (HO.frz oA (.lst (ns.map V.int))) else none) = some u := (if_neg hb).symm.trans e
      by_cases hc : b = a ∧ K.lookup a = none
      · rw [if_pos hc] at e2
        exact .inr ⟨hb, hc.1, hc.2, (Option.some.inj e2).symm⟩
      · rw [if_neg hc] at e2
        cases e2
  have free : ∀ {b : Addr} {o : Obj}, s₁.heap.get? b = some o → (∀ l n, o.data ≠ .seq l n) → o.data ≠ .fields #[] → H b = none := fun {b o} e h1 h2 => by
    cases q : H b with
    | none => rfl
    | some u =>
      rcases hOth q with ⟨hb, _⟩ | ⟨_, hb, _⟩
      · rw [isT hb] at e
        cases e
        exact (h2 rfl).elim
      · rw [hb, ha] at e
        cases e
        exact (h1 _ _ rfl).elim
  have base_of : ∀ {b : Addr} {o : Obj}, s₁.heap.get? b = some o → H b = none → (hidT s₁.heap H).get? b = some o := fun e n => hidT_get e n
  have nsK : ∀ {b : Addr} {m : Str → Option Value}, s₁.heap.Ns b m → (hidT s₁.heap H).Ns b m := fun {b m} ⟨o, es, ep, e, d, r⟩ =>
    ⟨o, es, ep, base_of e (free e (fun l n z => by rw [d] at z; cases z) fun z => by rw [d] at z; cases z), d, r⟩
  have hKb : K.In (hidT s₁.heap H) := fun b o e => base_of (KX b o e) (by
    cases q : H b with
    | none => rfl
    | some u =>
      rcases hOth q with ⟨hb, _⟩ | ⟨_, hb, hn, _⟩
      · obtain ⟨p, hp, ep⟩ := List.mem_map.mp hb
        rw [← ep, nT p hp] at e
        cases e
      · rw [hb, hn] at e
        cases e)
  have hM : L2.Mod K mg (hidT s₁.heap H) := ⟨hKb, nsK hns, ⟨mb, nsK hb, hbb⟩, let ⟨mc, h1, h2⟩ := hlim; ⟨mc, nsK h1, h2⟩⟩
  have notNs : ∀ {b : Addr} {m : Str → Option Value} {o : Obj}, s₁.heap.Ns b m → s₁.heap.get? b = some o → ∃ es ep, o.data = .dict es ep := fun {b m o} ⟨o', es, ep, e, d, _⟩ e' => by
    rw [e] at e'
    cases e'
    exact ⟨es, ep, d⟩
  have TB : ∀ p ∈ cs, LamX.TabB (hidT s₁.heap H) mg p.1 p.2 := fun p hp => by
    have hTp := hT p hp
    refine ⟨?_, ?_, fun z => ?_⟩
    · obtain ⟨o, us, file, tf, flags, tg, inF, text, tt, e1, r1, r2, r3, r4⟩ := C p hp
      refine ⟨o, us, file, tf, flags, tg, inF, text, tt, base_of e1 (free e1 (fun l n z => by rw [r2] at z; cases z) fun z => ?_), r1, r2, r3, r4⟩
      rw [r2] at z
      cases z
      simp at r3
    · obtain ⟨bm, ob, b1, b2, b3, b4, b5, b6⟩ := hbm
      refine ⟨bm, ob, b1, b2, fun q => ?_, fun q => ?_, base_of b3 (free b3 (fun l n z => by rw [b6] at z; cases z) fun z => by rw [b6] at z; cases z), b4, b5, b6⟩
      · rw [q] at b3
        obtain ⟨es, ep, d⟩ := notNs hns b3
        rw [b6] at d
        cases d
      · rw [q, hTp] at b3
        cases b3
        cases b6
    · have e := hTp
      rw [← z] at e
      obtain ⟨es, ep, d⟩ := notNs hns e
      cases d
  have hok : HOk P w H s₁.heap := fun b u e => by
    rcases hOth e with ⟨hb, rfl⟩ | ⟨_, rfl, _, rfl⟩
    · exact isT hb
    · exact ⟨ha, by rw [List.length_map]; exact hl, vs, _, rv, ha⟩
  have hS : SqL K H a (ns.map V.int) := by
    cases hk : K.lookup a with
    | none => exact .inl (.inr ⟨oA, (if_neg aT).trans (if_pos ⟨rfl, hk⟩)⟩)
    | some o =>
      have e := KX a o hk
      rw [ha] at e
      cases e
      exact .inr ⟨_, vs.toArray, _, hk, rfl, rfl, rfl, by rw [List.size_toArray, lenV]; exact hl, by simpa using rv⟩
  have e0 : Env0 P w K mg (hidT s₁.heap H) callerA [] s₁ H := ⟨rfl, hM, fun b o e => of_hidT e, Nat.le_of_eq (hidT_size _ _), trivial, fun b hb => absurd (show b ∈ ([] : List Addr) from hb) (by simp), hok, .of_eq hgn⟩
  refine codeAny_mono ((F _ hKb (nsK hns) TB).run callerA [] s₁ H ⟨[.ref a], []⟩ [.ref a] [.ref a] _ _ rfl hr e0 (hbind s₁ (.ref a)) (.cons rfl .nil) (hsp H (fun p hp => hTab (memT p hp)) hS)) fun r s' h => ?_
  match r, h with
  | .error e, h => exact (hCX H e s' h).elim
  | .ok .next, h => exact False.elim h
  | .ok .brk, h => exact False.elim h
  | .ok .cont, h => exact False.elim h
  | .ok (.ret u), h =>
    obtain ⟨v, H', os, bare, un, hok', r', q⟩ := h
    obtain rfl : v = V.bl true := q
    obtain rfl : u = Value.bool true := r'
    have kept : ∀ b o, b ∉ ts → s₁.heap.get? b = some o → s'.heap.get? b = some o := fun b o nb e => by
      cases q : H b with
      | none => exact un.keep b o e q (fun z => absurd (show b ∈ ([] : List Addr) from z) (by simp)) (by simp)
      | some u =>
        rcases hOth q with ⟨hb, _⟩ | ⟨_, rfl, _, rfl⟩
        · exact absurd hb nb
        · obtain ⟨e2, _⟩ := hok' _ _ (un.frzs _ _ _ q)
          rw [ha] at e
          cases e
          exact e2
    have grown : ∀ {b : Addr}, b ∈ ts → ∃ more : Array Value, s'.heap.get? b = some { cls := .none, data := .fields more } := fun {b} hb => by
      obtain ⟨more, z⟩ := un.tbls b #[] (hTab hb)
      exact ⟨_, hok' b _ z⟩
    refine ⟨rfl, ⟨fun b o e => ?_, fun b o e => ?_⟩, os, bare⟩
    · by_cases hb : b ∈ ts
      · obtain ⟨more, hm⟩ := grown hb
        obtain ⟨p, hp, ep⟩ := List.mem_map.mp hb
        rw [isT hb] at e
        cases e
        refine .inr (.inl ⟨?_, rfl, #[], more, rfl, by rw [Array.empty_append]; exact hm⟩)
        rw [← ep]
        exact ((C p hp).tab (hT p hp)).isCodeTable
      · exact .inl (kept b o hb e)
    · by_cases hb : b ∈ ts
      · obtain ⟨more, hm⟩ := grown hb
        exact ⟨_, hm⟩
      · exact ⟨o, kept b o hb e⟩
end K95

set_option Elab.async false
set_option linter.all false
set_option maxRecDepth 100000
set_option maxHeartbeats 4000000
/-! What the top leaves, in one structure: where each def stands, the module's constants, the free names, the error classes, the tables of code objects. -/
namespace K95
open PySem PySem.Spec PyProof.Rows L2
/-- the function object that the module's name x holds -/
def fdOf (K : PySem.W.Frag) (x : Str) : FuncData := match K.lookup (He.ga K x) with
  | some ⟨_, _, .func fd, _⟩ => fd
  | _ => default
/-- the i-th row of the top is the def x -/
structure DF (K : PySem.W.Frag) (mg : Str → Option Value) (x : Str) (i : Nat) : Prop where
  F : FunD K x x (defArgs (top i)) (defBody (top i)) (defScope (top i)) [] [] (He.ga K x) (fdOf K x)
  g : mg x = some (.ref (He.ga K x))
theorem DF.kp {K : PySem.W.Frag} {mg : Str → Option Value} {x : Str} {i : Nat} (d : DF K mg x i) : PySem.W.keepIn K (.ref (He.ga K x)) = true := d.F.kp
theorem df_of {K : PySem.W.Frag} {mg : Str → Option Value} {x : Str} {i : Nat} (g : mg x = some (.ref (He.ga K x))) (h : ∃ fd, FunD K x x (defArgs (top i)) (defBody (top i)) (defScope (top i)) [] [] (He.ga K x) fd) : DF K mg x i := by
  obtain ⟨fd, F⟩ := h
  have e : fdOf K x = fd := by
    obtain ⟨oc, od, dV, kV, doc, pm, an, cdv, ct, osl, e1, lk, _⟩ := F.ex
    unfold fdOf
    rw [lk]
  exact ⟨by rw [e]; exact F, g⟩
/-- what is told of the tables: the code objects of law and of _law_hand_right, their tables -/
abbrev cL (K : PySem.W.Frag) : Addr × Addr := He.cT K ("law", none)
abbrev cR (K : PySem.W.Frag) : Addr × Addr := He.cT K ("_law_hand_right", none)

structure Txt (K : PySem.W.Frag) (mg : Str → Option Value) : Prop where
  dis_whole : DF K mg "is_whole" 25
  dneed_hall : DF K mg "need_hall" 26
  dare_limits : DF K mg "are_limits" 27
  dis_plain : DF K mg "is_plain" 28
  dis_word : DF K mg "is_word" 29
  dparts_of : DF K mg "parts_of" 30
  dneed_rule : DF K mg "need_rule" 31
  djoined : DF K mg "joined" 36
  dwords_of : DF K mg "words_of" 37
  drule_text : DF K mg "rule_text" 38
  dis_number : DF K mg "is_number" 39
  dlines_of : DF K mg "lines_of" 40
  dneeded_end : DF K mg "needed_end" 41
  drule_at : DF K mg "rule_at" 42
  dread_rule : DF K mg "read_rule" 43
  d_law_mixed : DF K mg "_law_mixed" 45
  d_law_folded : DF K mg "_law_folded" 46
  d_law_draw : DF K mg "_law_draw" 47
  d_law_begun : DF K mg "_law_begun" 48
  d_law_like : DF K mg "_law_like" 49
  d_law_of : DF K mg "_law_of" 50
  d_law_fares : DF K mg "_law_fares" 51
  d_law_hall : DF K mg "_law_hall" 52
  d_law_plain : DF K mg "_law_plain" 53
  d_law_rule : DF K mg "_law_rule" 54
  d_law_said : DF K mg "_law_said" 55
  d_law_bent : DF K mg "_law_bent" 56
  d_law_is_number : DF K mg "_law_is_number" 57
  d_law_rule_text : DF K mg "_law_rule_text" 58
  d_law_rule_wrong : DF K mg "_law_rule_wrong" 59
  d_law_rule_at : DF K mg "_law_rule_at" 60
  d_law_rule_due : DF K mg "_law_rule_due" 61
  d_law_word_bent : DF K mg "_law_word_bent" 62
  d_law_hand_right : DF K mg "_law_hand_right" 63
  dlaw : DF K mg "law" 64
  MOST_SEATS : ∃ t, mg "MOST_SEATS" = some (.int 6 t)
  MOST_FARES : ∃ t, mg "MOST_FARES" = some (.int 4 t)
  MOST_FARE : ∃ t, mg "MOST_FARE" = some (.int 99 t)
  MOST_FEE : ∃ t, mg "MOST_FEE" = some (.int 99 t)
  MOST_WORDS : ∃ t, mg "MOST_WORDS" = some (.int 7 t)
  MOST_DEEP : ∃ t, mg "MOST_DEEP" = some (.int 3 t)
  MOST_FIGURES : ∃ t, mg "MOST_FIGURES" = some (.int 7 t)
  APART : ∃ t, mg "APART" = some (.str "apart" t)
  NESTED : ∃ t, mg "NESTED" = some (.str "nested" t)
  KEPT : ∃ t, mg "KEPT" = some (.str "kept" t)
  ALL : ∃ t, mg "ALL" = some (.str "all" t)
  ANY : ∃ t, mg "ANY" = some (.str "any" t)
  OUST : ∃ t, mg "OUST" = some (.str "oust" t)
  FIGURES : ∃ t, mg "FIGURES" = some (.str "0123456789" t)
  f_len : mg "len" = none
  f_isinstance : mg "isinstance" = none
  f_int : mg "int" = none
  f_bool : mg "bool" = none
  f_str : mg "str" = none
  f_tuple : mg "tuple" = none
  f_list : mg "list" = none
  f_all : mg "all" = none
  f_zip : mg "zip" = none
  f_range : mg "range" = none
  f_min : mg "min" = none
  f_sorted : mg "sorted" = none
  f_repr : mg "repr" = none
  f_enumerate : mg "enumerate" = none
  f_super : mg "super" = none
  gWORDS : mg "WORDS" = some (.ref (He.ga K "WORDS"))
  tWORDS : ∀ H : Hp, SqT K H (He.ga K "WORDS") [.str "all", .str "any", .str "apart", .str "kept", .str "nested", .str "oust"]
  xHall : SupT K mg "BadHall" "BadHall.__init__" 2 ["part"]
  xRule : SupT K mg "BadRule" "BadRule.__init__" 3 ["path"]
  xText : SupT K mg "BadText" "BadText.__init__" 10 ["line", "word"]
  gBadCall : mg "BadCall" = some (.ref (He.ga K "BadCall"))
  gBadNumber : mg "BadNumber" = some (.ref (He.ga K "BadNumber"))
  gBadPlan : mg "BadPlan" = some (.ref (He.ga K "BadPlan"))
  gBadShare : mg "BadShare" = some (.ref (He.ga K "BadShare"))
  gBadLog : mg "BadLog" = some (.ref (He.ga K "BadLog"))
  gBadPaper : mg "BadPaper" = some (.ref (He.ga K "BadPaper"))
  gTooGreat : mg "TooGreat" = some (.ref (He.ga K "TooGreat"))
  exm : ∀ p ∈ ([("BadHall", 1), ("BadRule", 2), ("BadText", 9)] : List (Str × Nat)), ∀ y ∈ xClauses.take p.2, PySem.W.exmOne K (.ref (He.ga K p.1)) (.ref (He.ga K y)) = some (p.1 == y)
  tne : (cL K).2 ≠ (cR K).2
/-- from the checks of one error class -/
theorem sup_of {K : PySem.W.Frag} {mg : Str → Option Value} {x q : Str} {i : Nat} {fs : List Str} (g : mg x = some (.ref (He.ga K x))) (su : mg "super" = none) (opq : PySem.W.nsIn K cStatics "thirdparty.any" = some none)
    (h1 : xcB K (He.ga K x) = true) (h2 : xlB K (He.ga K x) fs = true) (h3 : clB K x q theFile = true)
    (h4 : fnI K x = dI i q) : SupT K mg x q i fs := by
  have hcls : ∃ nm qn N bs bm sn sub ab col dd k0 k1 k2 k3 k5, K.lookup (He.ga K x) = some (excClassObj nm qn (He.ga K x) N bs bm true sn sub ab col dd k0 k1 k2 k3 k5 "ValueError.__new__") ∧ PySem.HandSPX.refsVE bm = true := by
    unfold xcB at h1
    split at h1
    · rename_i t dd cd sl ho
      obtain ⟨ht, h1⟩ := He.ba h1
      have ht : t = "type" := beq_iff_eq.mp ht
      split at h1
      · rename_i C' bm k0 k1 k2 k3 n k5 hm hs
        obtain ⟨e1, h1⟩ := He.ba h1
        obtain ⟨e2, h1⟩ := He.ba h1
        obtain ⟨e3, h1⟩ := He.ba h1
        obtain ⟨e4, e5⟩ := He.ba h1
        obtain ⟨nm, bs, mro, ns, qn, hd, sn, sub, ab, col, del⟩ := cd
        have e1 : C' = He.ga K x := beq_iff_eq.mp e1
        have e2 : n = "ValueError.__new__" := beq_iff_eq.mp e2
        have e3 : del = false := by cases del with
          | false => rfl
          | true => cases e3
        have e4 : hd = true := e4
        have hm : mro = .ref C' :: bm := hm
        have hsl : sl = #[k0, k1, k2, k3, some (.builtin n), k5] := by
          obtain ⟨l⟩ := sl
          have hs : l = _ := hs
          rw [hs]
        subst ht e2 e3 e4 hm hsl e1
        exact ⟨nm, qn, ns, bs, bm, sn, sub, ab, col, dd, k0, k1, k2, k3, k5, ho, e5⟩
      · cases h1
    · cases h1
  obtain ⟨a1, h2⟩ := He.ba h2
  obtain ⟨a2, h2⟩ := He.ba h2
  obtain ⟨a3, h2⟩ := He.ba h2
  obtain ⟨a4, h2⟩ := He.ba h2
  obtain ⟨a5, h2⟩ := He.ba h2
  obtain ⟨a6, h2⟩ := He.ba h2
  obtain ⟨a7, h2⟩ := He.ba h2
  obtain ⟨a8, h2⟩ := He.ba h2
  obtain ⟨a9, h2⟩ := He.ba h2
  obtain ⟨a10, h2⟩ := He.ba h2
  obtain ⟨a11, h2⟩ := He.ba h2
  obtain ⟨a12, a13⟩ := He.ba h2
  refine ⟨g, ⟨hcls, He.eqO_ok a1, He.eqO_ok a2, He.eqO_ok a3, He.eqO_ok a4, of_decide_eq_true a5, a6, of_decide_eq_true a7, of_decide_eq_true a8, of_decide_eq_true a9, a10, of_decide_eq_true a11, of_decide_eq_true a12, opq⟩, ⟨?_⟩, fun f hf => He.eqO_ok (List.all_eq_true.mp a13 f hf), su⟩
  unfold fnI inI at h4
  unfold clB inI at h3
  cases q1 : K.lookup (He.ma K (He.ga K x) "__init__") with
  | none =>
    rw [q1] at h4
    cases h4
  | some o =>
    obtain ⟨oc, od, dt, osl⟩ := o
    rw [q1] at h3 h4
    cases dt with
    | func fd =>
      obtain ⟨n1, n2, n3, n4, n5, n6, n7, n8, n9, n10, n11, n12, n13, n14, n15⟩ := fd
      have e2 : (some (n1, n2, n3, n4, n5, n6, n7.map (·.1), n8, n15) : FnI) = some (("__init__" : Str), q, defArgs (inClass (top i) 0), FuncBody.stmts (defBody (inClass (top i) 0)), defScope (inClass (top i) 0), mainGlobals, (["__class__"] : List Str), Value.none, builtinsNs) := h4
      simp only [Option.some.injEq, Prod.mk.injEq] at e2
      obtain ⟨u1, u2, u3, u4, u5, u6, u7, u8, u9⟩ := e2
      subst u1 u2 u3 u4 u5 u6 u8 u9
      obtain ⟨c1, h3⟩ := He.ba h3
      obtain ⟨c2, c3⟩ := He.ba h3
      match n7, u7, c2 with
      | [(cn, cc)], u7, c2 =>
        have ecn : cn = ("__class__" : Str) := (List.cons.inj u7).1
        subst ecn
        have c2' : (match K.lookup cc with
          | some ⟨_, _, .cell (some (.ref D)), _⟩ => D == He.ga K x
          | _ => false) = true := c2
        split at c2'
        · rename_i ol dl D sl hcc
          have eD : D = He.ga K x := beq_iff_eq.mp c2'
          subst eD
          cases n13 with
          | ref cda =>
            have c3' : (match K.lookup cda with
              | some ⟨_, _, .fields vs, _⟩ => (match vs[2]? with
                | some (Value.str f _) => decide (f = theFile)
                | _ => false)
              | _ => false) = true := c3
            split at c3'
            · rename_i ol2 dl2 vs sl2 hcd
              split at c3'
              · rename_i f tf hv
                have ef : f = theFile := of_decide_eq_true c3'
                subst ef
                exact ⟨oc, od, n10, n11, n9, n12, cda, cc, n14, osl, rfl, c1, ⟨ol, dl, sl, hcc⟩, ⟨ol2, dl2, vs, sl2, theFile, tf, hcd, hv, by kernel_rfl⟩⟩
              · cases c3'
            · cases c3'
          | _ => cases c3
        · cases c2'
    | _ => cases h4

theorem txt_of {K : PySem.W.Frag} {mg : Str → Option Value} {w : World} {h : Heap} (X : K.In h) (G : h.Ns mainGlobals mg) (c : He.SaysX fa fn [] tf ex w h K) (ini : initO K = initV) : Txt K mg := by
  have cd := c.t.d
  have m := c.more
  obtain ⟨m1, m2⟩ := He.ba (show ((decide (PySem.W.nsIn K mainGlobals "WORDS" = some (some (.ref (He.ga K "WORDS")))) && He.tupB K "WORDS" wordsD) && _) = true from m)
  obtain ⟨w1, w2⟩ := He.ba m1
  obtain ⟨m3, m4⟩ := He.ba m2
  obtain ⟨m5, m7⟩ := He.ba m4
  obtain ⟨m8, m6⟩ := He.ba m7
  have opq := of_decide_eq_true m5
  have xs := List.all_eq_true.mp m3
  have su : mg "super" = none := He.free_ok X G (cd.fact 74 (f := .free "super") rfl)
  have i1 : fnI K "BadHall" = dI 2 "BadHall.__init__" := (List.cons.inj ini).1
  have i2 : fnI K "BadRule" = dI 3 "BadRule.__init__" := (List.cons.inj (List.cons.inj ini).2).1
  have i3 : fnI K "BadText" = dI 10 "BadText.__init__" := (List.cons.inj (List.cons.inj (List.cons.inj ini).2).2).1
  obtain ⟨p1, p1'⟩ := He.ba (xs ("BadHall", "BadHall.__init__", ["part"]) (by simp [xNames]))
  obtain ⟨p2, p2'⟩ := He.ba p1'
  obtain ⟨q1, q1'⟩ := He.ba (xs ("BadRule", "BadRule.__init__", ["path"]) (by simp [xNames]))
  obtain ⟨q2, q2'⟩ := He.ba q1'
  obtain ⟨r1, r1'⟩ := He.ba (xs ("BadText", "BadText.__init__", ["line", "word"]) (by simp [xNames]))
  obtain ⟨r2, r2'⟩ := He.ba r1'
  exact {
    dis_whole := df_of (He.glo_ok X G (cd.fact 0 (f := .glo "is_whole") rfl)) (cd.def_ 0 (d := dd 25 "is_whole") rfl)
    dneed_hall := df_of (He.glo_ok X G (cd.fact 1 (f := .glo "need_hall") rfl)) (cd.def_ 1 (d := dd 26 "need_hall") rfl)
    dare_limits := df_of (He.glo_ok X G (cd.fact 2 (f := .glo "are_limits") rfl)) (cd.def_ 2 (d := dd 27 "are_limits") rfl)
    dis_plain := df_of (He.glo_ok X G (cd.fact 3 (f := .glo "is_plain") rfl)) (cd.def_ 3 (d := dd 28 "is_plain") rfl)
    dis_word := df_of (He.glo_ok X G (cd.fact 4 (f := .glo "is_word") rfl)) (cd.def_ 4 (d := dd 29 "is_word") rfl)
    dparts_of := df_of (He.glo_ok X G (cd.fact 5 (f := .glo "parts_of") rfl)) (cd.def_ 5 (d := dd 30 "parts_of") rfl)
    dneed_rule := df_of (He.glo_ok X G (cd.fact 6 (f := .glo "need_rule") rfl)) (cd.def_ 6 (d := dd 31 "need_rule") rfl)
    djoined := df_of (He.glo_ok X G (cd.fact 7 (f := .glo "joined") rfl)) (cd.def_ 7 (d := dd 36 "joined") rfl)
    dwords_of := df_of (He.glo_ok X G (cd.fact 8 (f := .glo "words_of") rfl)) (cd.def_ 8 (d := dd 37 "words_of") rfl)
    drule_text := df_of (He.glo_ok X G (cd.fact 9 (f := .glo "rule_text") rfl)) (cd.def_ 9 (d := dd 38 "rule_text") rfl)
    dis_number := df_of (He.glo_ok X G (cd.fact 10 (f := .glo "is_number") rfl)) (cd.def_ 10 (d := dd 39 "is_number") rfl)
    dlines_of := df_of (He.glo_ok X G (cd.fact 11 (f := .glo "lines_of") rfl)) (cd.def_ 11 (d := dd 40 "lines_of") rfl)
    dneeded_end := df_of (He.glo_ok X G (cd.fact 12 (f := .glo "needed_end") rfl)) (cd.def_ 12 (d := dd 41 "needed_end") rfl)
    drule_at := df_of (He.glo_ok X G (cd.fact 13 (f := .glo "rule_at") rfl)) (cd.def_ 13 (d := dd 42 "rule_at") rfl)
    dread_rule := df_of (He.glo_ok X G (cd.fact 14 (f := .glo "read_rule") rfl)) (cd.def_ 14 (d := dd 43 "read_rule") rfl)
    d_law_mixed := df_of (He.glo_ok X G (cd.fact 15 (f := .glo "_law_mixed") rfl)) (cd.def_ 15 (d := dd 45 "_law_mixed") rfl)
    d_law_folded := df_of (He.glo_ok X G (cd.fact 16 (f := .glo "_law_folded") rfl)) (cd.def_ 16 (d := dd 46 "_law_folded") rfl)
    d_law_draw := df_of (He.glo_ok X G (cd.fact 17 (f := .glo "_law_draw") rfl)) (cd.def_ 17 (d := dd 47 "_law_draw") rfl)
    d_law_begun := df_of (He.glo_ok X G (cd.fact 18 (f := .glo "_law_begun") rfl)) (cd.def_ 18 (d := dd 48 "_law_begun") rfl)
    d_law_like := df_of (He.glo_ok X G (cd.fact 19 (f := .glo "_law_like") rfl)) (cd.def_ 19 (d := dd 49 "_law_like") rfl)
    d_law_of := df_of (He.glo_ok X G (cd.fact 20 (f := .glo "_law_of") rfl)) (cd.def_ 20 (d := dd 50 "_law_of") rfl)
    d_law_fares := df_of (He.glo_ok X G (cd.fact 21 (f := .glo "_law_fares") rfl)) (cd.def_ 21 (d := dd 51 "_law_fares") rfl)
    d_law_hall := df_of (He.glo_ok X G (cd.fact 22 (f := .glo "_law_hall") rfl)) (cd.def_ 22 (d := dd 52 "_law_hall") rfl)
    d_law_plain := df_of (He.glo_ok X G (cd.fact 23 (f := .glo "_law_plain") rfl)) (cd.def_ 23 (d := dd 53 "_law_plain") rfl)
    d_law_rule := df_of (He.glo_ok X G (cd.fact 24 (f := .glo "_law_rule") rfl)) (cd.def_ 24 (d := dd 54 "_law_rule") rfl)
    d_law_said := df_of (He.glo_ok X G (cd.fact 25 (f := .glo "_law_said") rfl)) (cd.def_ 25 (d := dd 55 "_law_said") rfl)
    d_law_bent := df_of (He.glo_ok X G (cd.fact 26 (f := .glo "_law_bent") rfl)) (cd.def_ 26 (d := dd 56 "_law_bent") rfl)
    d_law_is_number := df_of (He.glo_ok X G (cd.fact 27 (f := .glo "_law_is_number") rfl)) (cd.def_ 27 (d := dd 57 "_law_is_number") rfl)
    d_law_rule_text := df_of (He.glo_ok X G (cd.fact 28 (f := .glo "_law_rule_text") rfl)) (cd.def_ 28 (d := dd 58 "_law_rule_text") rfl)
    d_law_rule_wrong := df_of (He.glo_ok X G (cd.fact 29 (f := .glo "_law_rule_wrong") rfl)) (cd.def_ 29 (d := dd 59 "_law_rule_wrong") rfl)
    d_law_rule_at := df_of (He.glo_ok X G (cd.fact 30 (f := .glo "_law_rule_at") rfl)) (cd.def_ 30 (d := dd 60 "_law_rule_at") rfl)
    d_law_rule_due := df_of (He.glo_ok X G (cd.fact 31 (f := .glo "_law_rule_due") rfl)) (cd.def_ 31 (d := dd 61 "_law_rule_due") rfl)
    d_law_word_bent := df_of (He.glo_ok X G (cd.fact 32 (f := .glo "_law_word_bent") rfl)) (cd.def_ 32 (d := dd 62 "_law_word_bent") rfl)
    d_law_hand_right := df_of (He.glo_ok X G (cd.fact 33 (f := .glo "_law_hand_right") rfl)) (cd.def_ 33 (d := dd 63 "_law_hand_right") rfl)
    dlaw := df_of (He.glo_ok X G (cd.fact 34 (f := .glo "law") rfl)) (cd.def_ 34 (d := dd 64 "law") rfl)
    MOST_SEATS := He.int_ok X G (cd.fact 46 (f := .int "MOST_SEATS" 6) rfl)
    MOST_FARES := He.int_ok X G (cd.fact 47 (f := .int "MOST_FARES" 4) rfl)
    MOST_FARE := He.int_ok X G (cd.fact 48 (f := .int "MOST_FARE" 99) rfl)
    MOST_FEE := He.int_ok X G (cd.fact 49 (f := .int "MOST_FEE" 99) rfl)
    MOST_WORDS := He.int_ok X G (cd.fact 50 (f := .int "MOST_WORDS" 7) rfl)
    MOST_DEEP := He.int_ok X G (cd.fact 51 (f := .int "MOST_DEEP" 3) rfl)
    MOST_FIGURES := He.int_ok X G (cd.fact 52 (f := .int "MOST_FIGURES" 7) rfl)
    APART := He.str_ok X G (cd.fact 53 (f := .str "APART" "apart") rfl)
    NESTED := He.str_ok X G (cd.fact 54 (f := .str "NESTED" "nested") rfl)
    KEPT := He.str_ok X G (cd.fact 55 (f := .str "KEPT" "kept") rfl)
    ALL := He.str_ok X G (cd.fact 56 (f := .str "ALL" "all") rfl)
    ANY := He.str_ok X G (cd.fact 57 (f := .str "ANY" "any") rfl)
    OUST := He.str_ok X G (cd.fact 58 (f := .str "OUST" "oust") rfl)
    FIGURES := He.str_ok X G (cd.fact 59 (f := .str "FIGURES" "0123456789") rfl)
    f_len := He.free_ok X G (cd.fact 60 (f := .free "len") rfl)
    f_isinstance := He.free_ok X G (cd.fact 61 (f := .free "isinstance") rfl)
    f_int := He.free_ok X G (cd.fact 62 (f := .free "int") rfl)
    f_bool := He.free_ok X G (cd.fact 63 (f := .free "bool") rfl)
    f_str := He.free_ok X G (cd.fact 64 (f := .free "str") rfl)
    f_tuple := He.free_ok X G (cd.fact 65 (f := .free "tuple") rfl)
    f_list := He.free_ok X G (cd.fact 66 (f := .free "list") rfl)
    f_all := He.free_ok X G (cd.fact 67 (f := .free "all") rfl)
    f_zip := He.free_ok X G (cd.fact 68 (f := .free "zip") rfl)
    f_range := He.free_ok X G (cd.fact 69 (f := .free "range") rfl)
    f_min := He.free_ok X G (cd.fact 70 (f := .free "min") rfl)
    f_sorted := He.free_ok X G (cd.fact 71 (f := .free "sorted") rfl)
    f_repr := He.free_ok X G (cd.fact 72 (f := .free "repr") rfl)
    f_enumerate := He.free_ok X G (cd.fact 73 (f := .free "enumerate") rfl)
    f_super := He.free_ok X G (cd.fact 74 (f := .free "super") rfl)
    gWORDS := PySem.W.mg_of X G (of_decide_eq_true w1)
    tWORDS := fun H => He.tupB_ok w2 H
    xHall := sup_of (He.glo_ok X G (cd.fact 36 (f := .glo "BadHall") rfl)) su opq p1 p2 p2' i1
    xRule := sup_of (He.glo_ok X G (cd.fact 37 (f := .glo "BadRule") rfl)) su opq q1 q2 q2' i2
    xText := sup_of (He.glo_ok X G (cd.fact 44 (f := .glo "BadText") rfl)) su opq r1 r2 r2' i3
    gBadCall := (He.glo_ok X G (cd.fact 38 (f := .glo "BadCall") rfl))
    gBadNumber := (He.glo_ok X G (cd.fact 40 (f := .glo "BadNumber") rfl))
    gBadPlan := (He.glo_ok X G (cd.fact 41 (f := .glo "BadPlan") rfl))
    gBadShare := (He.glo_ok X G (cd.fact 42 (f := .glo "BadShare") rfl))
    gBadLog := (He.glo_ok X G (cd.fact 43 (f := .glo "BadLog") rfl))
    gBadPaper := (He.glo_ok X G (cd.fact 39 (f := .glo "BadPaper") rfl))
    gTooGreat := (He.glo_ok X G (cd.fact 45 (f := .glo "TooGreat") rfl))
    exm := fun p hp y hy => of_decide_eq_true (List.all_eq_true.mp (List.all_eq_true.mp m6 p hp) y hy)
    tne := of_decide_eq_true m8 }
theorem bdis_whole {K : PySem.W.Frag} {mg : Str → Option Value} (T : Txt K mg) : Binds K (fdOf K "is_whole") ["value", "least", "most"] [] := T.dis_whole.F.bindsN fun _ _ _ _ _ _ us hl => match us, hl with | [_, _, _], _ => rfl
theorem bdneed_hall {K : PySem.W.Frag} {mg : Str → Option Value} (T : Txt K mg) : Binds K (fdOf K "need_hall") ["hall"] [] := T.dneed_hall.F.bindsN fun _ _ _ _ _ _ us hl => match us, hl with | [_], _ => rfl
theorem bdare_limits {K : PySem.W.Frag} {mg : Str → Option Value} (T : Txt K mg) : Binds K (fdOf K "are_limits") ["hall", "value"] [] := T.dare_limits.F.bindsN fun _ _ _ _ _ _ us hl => match us, hl with | [_, _], _ => rfl
theorem bdis_plain {K : PySem.W.Frag} {mg : Str → Option Value} (T : Txt K mg) : Binds K (fdOf K "is_plain") ["hall", "value"] [] := T.dis_plain.F.bindsN fun _ _ _ _ _ _ us hl => match us, hl with | [_, _], _ => rfl
theorem bdis_word {K : PySem.W.Frag} {mg : Str → Option Value} (T : Txt K mg) : Binds K (fdOf K "is_word") ["hall", "value", "is_outside"] [] := T.dis_word.F.bindsN fun _ _ _ _ _ _ us hl => match us, hl with | [_, _, _], _ => rfl
theorem bdparts_of {K : PySem.W.Frag} {mg : Str → Option Value} (T : Txt K mg) : Binds K (fdOf K "parts_of") ["rule"] [] := T.dparts_of.F.bindsN fun _ _ _ _ _ _ us hl => match us, hl with | [_], _ => rfl
theorem bdneed_rule {K : PySem.W.Frag} {mg : Str → Option Value} (T : Txt K mg) : Binds K (fdOf K "need_rule") ["hall", "rule"] [] := T.dneed_rule.F.bindsN fun _ _ _ _ _ _ us hl => match us, hl with | [_, _], _ => rfl
theorem bdjoined {K : PySem.W.Frag} {mg : Str → Option Value} (T : Txt K mg) : Binds K (fdOf K "joined") ["row"] [] := T.djoined.F.bindsN fun _ _ _ _ _ _ us hl => match us, hl with | [_], _ => rfl
theorem bdwords_of {K : PySem.W.Frag} {mg : Str → Option Value} (T : Txt K mg) : Binds K (fdOf K "words_of") ["rule"] [] := T.dwords_of.F.bindsN fun _ _ _ _ _ _ us hl => match us, hl with | [_], _ => rfl
theorem bdrule_text {K : PySem.W.Frag} {mg : Str → Option Value} (T : Txt K mg) : Binds K (fdOf K "rule_text") ["hall", "rule"] [] := T.drule_text.F.bindsN fun _ _ _ _ _ _ us hl => match us, hl with | [_, _], _ => rfl
theorem bdis_number {K : PySem.W.Frag} {mg : Str → Option Value} (T : Txt K mg) : Binds K (fdOf K "is_number") ["word"] [] := T.dis_number.F.bindsN fun _ _ _ _ _ _ us hl => match us, hl with | [_], _ => rfl
theorem bdlines_of {K : PySem.W.Frag} {mg : Str → Option Value} (T : Txt K mg) : Binds K (fdOf K "lines_of") ["text"] [] := T.dlines_of.F.bindsN fun _ _ _ _ _ _ us hl => match us, hl with | [_], _ => rfl
theorem bdneeded_end {K : PySem.W.Frag} {mg : Str → Option Value} (T : Txt K mg) : Binds K (fdOf K "needed_end") ["rows", "many"] [] := T.dneeded_end.F.bindsN fun _ _ _ _ _ _ us hl => match us, hl with | [_, _], _ => rfl
theorem bdrule_at {K : PySem.W.Frag} {mg : Str → Option Value} (T : Txt K mg) : Binds K (fdOf K "rule_at") ["words", "spot", "fares", "many"] [] := T.drule_at.F.bindsN fun _ _ _ _ _ _ us hl => match us, hl with | [_, _, _, _], _ => rfl
theorem bdread_rule {K : PySem.W.Frag} {mg : Str → Option Value} (T : Txt K mg) : Binds K (fdOf K "read_rule") ["hall", "text"] [] := T.dread_rule.F.bindsN fun _ _ _ _ _ _ us hl => match us, hl with | [_, _], _ => rfl
theorem bd_law_mixed {K : PySem.W.Frag} {mg : Str → Option Value} (T : Txt K mg) : Binds K (fdOf K "_law_mixed") ["_law_cell", "_law_n"] [] := T.d_law_mixed.F.bindsN fun _ _ _ _ _ _ us hl => match us, hl with | [_, _], _ => rfl
theorem bd_law_folded {K : PySem.W.Frag} {mg : Str → Option Value} (T : Txt K mg) : Binds K (fdOf K "_law_folded") ["_law_script"] [] := T.d_law_folded.F.bindsN fun _ _ _ _ _ _ us hl => match us, hl with | [_], _ => rfl
theorem bd_law_draw {K : PySem.W.Frag} {mg : Str → Option Value} (T : Txt K mg) : Binds K (fdOf K "_law_draw") ["_law_m", "_law_limit"] [] := T.d_law_draw.F.bindsN fun _ _ _ _ _ _ us hl => match us, hl with | [_, _], _ => rfl
theorem bd_law_begun {K : PySem.W.Frag} {mg : Str → Option Value} (T : Txt K mg) : Binds K (fdOf K "_law_begun") ["_law_script"] [] := T.d_law_begun.F.bindsN fun _ _ _ _ _ _ us hl => match us, hl with | [_], _ => rfl
theorem bd_law_like {K : PySem.W.Frag} {mg : Str → Option Value} (T : Txt K mg) : Binds K (fdOf K "_law_like") ["_law_answer", "_law_due"] [] := T.d_law_like.F.bindsN fun _ _ _ _ _ _ us hl => match us, hl with | [_, _], _ => rfl
theorem bd_law_of {K : PySem.W.Frag} {mg : Str → Option Value} (T : Txt K mg) : Binds K (fdOf K "_law_of") ["_law_m", "_law_some"] [] := T.d_law_of.F.bindsN fun _ _ _ _ _ _ us hl => match us, hl with | [_, _], _ => rfl
theorem bd_law_fares {K : PySem.W.Frag} {mg : Str → Option Value} (T : Txt K mg) : Binds K (fdOf K "_law_fares") ["_law_m", "_law_most"] [] := T.d_law_fares.F.bindsN fun _ _ _ _ _ _ us hl => match us, hl with | [_, _], _ => rfl
theorem bd_law_hall {K : PySem.W.Frag} {mg : Str → Option Value} (T : Txt K mg) : Binds K (fdOf K "_law_hall") ["_law_m", "_law_seats", "_law_fares_here"] [] := T.d_law_hall.F.bindsN fun _ _ _ _ _ _ us hl => match us, hl with | [_, _, _], _ => rfl
theorem bd_law_plain {K : PySem.W.Frag} {mg : Str → Option Value} (T : Txt K mg) : Binds K (fdOf K "_law_plain") ["_law_m", "_law_hall_so"] [] := T.d_law_plain.F.bindsN fun _ _ _ _ _ _ us hl => match us, hl with | [_, _], _ => rfl
theorem bd_law_rule {K : PySem.W.Frag} {mg : Str → Option Value} (T : Txt K mg) : Binds K (fdOf K "_law_rule") ["_law_m", "_law_hall_so"] [] := T.d_law_rule.F.bindsN fun _ _ _ _ _ _ us hl => match us, hl with | [_, _], _ => rfl
theorem bd_law_said {K : PySem.W.Frag} {mg : Str → Option Value} (T : Txt K mg) : Binds K (fdOf K "_law_said") ["_law_call"] [] := T.d_law_said.F.bindsN fun _ _ _ _ _ _ us hl => match us, hl with | [_], _ => rfl
theorem bd_law_bent {K : PySem.W.Frag} {mg : Str → Option Value} (T : Txt K mg) : Binds K (fdOf K "_law_bent") ["_law_m", "_law_text", "_law_signs"] [] := T.d_law_bent.F.bindsN fun _ _ _ _ _ _ us hl => match us, hl with | [_, _, _], _ => rfl
theorem bd_law_is_number {K : PySem.W.Frag} {mg : Str → Option Value} (T : Txt K mg) : Binds K (fdOf K "_law_is_number") ["_law_word"] [] := T.d_law_is_number.F.bindsN fun _ _ _ _ _ _ us hl => match us, hl with | [_], _ => rfl
theorem bd_law_rule_text {K : PySem.W.Frag} {mg : Str → Option Value} (T : Txt K mg) : Binds K (fdOf K "_law_rule_text") ["_law_some"] [] := T.d_law_rule_text.F.bindsN fun _ _ _ _ _ _ us hl => match us, hl with | [_], _ => rfl
theorem bd_law_rule_wrong {K : PySem.W.Frag} {mg : Str → Option Value} (T : Txt K mg) : Binds K (fdOf K "_law_rule_wrong") ["_law_hall_so", "_law_some"] [] := T.d_law_rule_wrong.F.bindsN fun _ _ _ _ _ _ us hl => match us, hl with | [_, _], _ => rfl
theorem bd_law_rule_at {K : PySem.W.Frag} {mg : Str → Option Value} (T : Txt K mg) : Binds K (fdOf K "_law_rule_at") ["_law_words", "_law_k", "_law_fares_here", "_law_many"] [] := T.d_law_rule_at.F.bindsN fun _ _ _ _ _ _ us hl => match us, hl with | [_, _, _, _], _ => rfl
theorem bd_law_rule_due {K : PySem.W.Frag} {mg : Str → Option Value} (T : Txt K mg) : Binds K (fdOf K "_law_rule_due") ["_law_hall_so", "_law_sheet"] [] := T.d_law_rule_due.F.bindsN fun _ _ _ _ _ _ us hl => match us, hl with | [_, _], _ => rfl
theorem bd_law_word_bent {K : PySem.W.Frag} {mg : Str → Option Value} (T : Txt K mg) : Binds K (fdOf K "_law_word_bent") ["_law_m", "_law_sheet"] [] := T.d_law_word_bent.F.bindsN fun _ _ _ _ _ _ us hl => match us, hl with | [_, _], _ => rfl
theorem bd_law_hand_right {K : PySem.W.Frag} {mg : Str → Option Value} (T : Txt K mg) : Binds K (fdOf K "_law_hand_right") ["_law_hall_so"] [] := T.d_law_hand_right.F.bindsN fun _ _ _ _ _ _ us hl => match us, hl with | [_], _ => rfl
theorem bdlaw {K : PySem.W.Frag} {mg : Str → Option Value} (T : Txt K mg) : Binds K (fdOf K "law") ["_law_script"] [] := T.dlaw.F.bindsN fun _ _ _ _ _ _ us hl => match us, hl with | [_], _ => rfl
end K95

set_option Elab.async false
set_option linter.all false
set_option maxRecDepth 100000
set_option maxHeartbeats 4000000
/-! Data in the told heap: what stays, what is read off it; small rules. -/
namespace K95
open PySem PySem.Spec PyProof.Rows L2
open Evl (Ex ex_l ex_t fresh_back)
abbrev ga := He.ga
/-! ### data stay -/
section
variable {K : PySem.W.Frag} {H H' : Hp}
mutual
theorem Dp.ex (e : Ex H H') : ∀ {v : V} {d : PyData}, Dp K H v d → Dp K H' v d
  | _, _, .non => .non
  | _, _, .bl b => .bl b
  | _, _, .int i => .int i
  | _, _, .str x => .str x
  | _, _, .lst h1 h2 => .lst (ex_l e h1) (DpAll.ex e h2)
  | _, _, .tup h1 h2 => .tup (ex_t e h1) (DpAll.ex e h2)
theorem DpAll.ex (e : Ex H H') : ∀ {vs : List V} {ds : List PyData}, DpAll K H vs ds → DpAll K H' vs ds
  | _, _, .nil => .nil
  | _, _, .cons h1 h2 => .cons (Dp.ex e h1) (DpAll.ex e h2)
end
/-! ### data without a list stay where tuples and what is locked stay -/
def Tx (H H' : Hp) : Prop := ∀ b o, ((∃ xs, o = .tup xs) ∨ ∃ ob u, o = .frz ob u) → H b = some o → H' b = some o
theorem Tx.refl (H : Hp) : Tx H H := fun _ _ _ h => h
theorem Tx.trans {H1 : Hp} (a : Tx H H1) (b : Tx H1 H') : Tx H H' := fun c o h e => b c o h (a c o h e)
theorem Tx.of (e : Ex H H') : Tx H H' := fun b o _ h => e b o h
theorem Tx.upd {p : Addr} {o : HO} (h : H p = none ∨ (∃ xs, H p = some (.lst xs)) ∨ ∃ kvs, H p = some (.dK kvs)) : Tx H (upd H p o) := fun b u hu e => by
  rw [upd_ne]
  · exact e
  · intro z
    subst z
    rcases h with h | ⟨_, h⟩ | ⟨_, h⟩ <;> rw [e] at h <;> rcases hu with ⟨_, hu⟩ | ⟨_, _, hu⟩ <;> subst hu <;> cases h
theorem Tx.sq {a : Addr} {xs : List V} (t : Tx H H') (h : SqT K H a xs) : SqT K H' a xs := by
  rcases h with (h | ⟨o, h⟩) | h
  · exact .inl (.inl (t _ _ (.inl ⟨_, rfl⟩) h))
  · exact .inl (.inr ⟨o, t _ _ (.inr ⟨_, _, rfl⟩) h⟩)
  · exact .inr h
mutual
def noL : PyData → Bool
  | .list _ => false
  | .dict _ => false
  | .tuple xs => noLs xs
  | .none => true
  | .bool _ => true
  | .int _ => true
  | .str _ => true
def noLs : List PyData → Bool
  | [] => true
  | x :: xs => noL x && noLs xs
end
mutual
theorem Dp.tx (e : Tx H H') : ∀ {v : V} {d : PyData}, noL d = true → Dp K H v d → Dp K H' v d
  | _, _, _, .non => .non
  | _, _, _, .bl b => .bl b
  | _, _, _, .int i => .int i
  | _, _, _, .str x => .str x
  | _, _, h, .lst h1 h2 => by cases h
  | _, _, h, .tup h1 h2 => .tup (e.sq h1) (DpAll.tx e (by unfold noL at h; exact h) h2)
theorem DpAll.tx (e : Tx H H') : ∀ {vs : List V} {ds : List PyData}, noLs ds = true → DpAll K H vs ds → DpAll K H' vs ds
  | _, _, _, .nil => .nil
  | _, _, h, .cons h1 h2 => by
    unfold noLs at h
    obtain ⟨a, b⟩ := Bool.and_eq_true_iff.mp h
    exact .cons (Dp.tx e a h1) (DpAll.tx e b h2)
end
/-! ### what is read off data -/
theorem dp_tup {v : V} {ds : List PyData} (h : Dp K H v (.tuple ds)) : ∃ a xs, v = .ref a ∧ SqT K H a xs ∧ DpAll K H xs ds := by
  cases h with
  | tup h1 h2 => exact ⟨_, _, rfl, h1, h2⟩
theorem dp_lst {v : V} {ds : List PyData} (h : Dp K H v (.list ds)) : ∃ a xs, v = .ref a ∧ SqL K H a xs ∧ DpAll K H xs ds := by
  cases h with
  | lst h1 h2 => exact ⟨_, _, rfl, h1, h2⟩
theorem dp_int {v : V} {i : Int} (h : Dp K H v (.int i)) : v = .int i := by cases h; rfl
theorem dp_str {v : V} {x : Str} (h : Dp K H v (.str x)) : v = .str x := by cases h; rfl
theorem da_cons {vs : List V} {d : PyData} {ds : List PyData} (h : DpAll K H vs (d :: ds)) : ∃ v r, vs = v :: r ∧ Dp K H v d ∧ DpAll K H r ds := by
  cases h with
  | cons h1 h2 => exact ⟨_, _, rfl, h1, h2⟩
theorem da_nil {vs : List V} (h : DpAll K H vs []) : vs = [] := by cases h; rfl
theorem da_len : ∀ {vs : List V} {ds : List PyData}, DpAll K H vs ds → vs.length = ds.length
  | _, _, .nil => rfl
  | _, _, .cons _ h => congrArg Nat.succ (da_len h)
theorem da_app : ∀ {vs ws : List V} {ds es : List PyData}, DpAll K H vs ds → DpAll K H ws es → DpAll K H (vs ++ ws) (ds ++ es)
  | _, _, _, _, .nil, b => b
  | _, _, _, _, .cons h t, b => .cons h (da_app t b)
theorem da_get : ∀ {vs : List V} {ds : List PyData} {i : Nat} {d : PyData}, DpAll K H vs ds → ds[i]? = some d → ∃ v, vs[i]? = some v ∧ Dp K H v d
  | _, _, _, _, .nil, e => by simp at e
  | _, _, 0, _, .cons h _, e => by simp at e; subst e; exact ⟨_, rfl, h⟩
  | _, _, i + 1, _, .cons _ t, e => by
    obtain ⟨v, h1, h2⟩ := da_get (i := i) t (by simpa using e)
    exact ⟨v, by simpa using h1, h2⟩
theorem da_dropLast : ∀ {vs : List V} {ds : List PyData}, DpAll K H vs ds → DpAll K H vs.dropLast ds.dropLast
  | _, _, .nil => .nil
  | _, _, .cons h .nil => .nil
  | _, _, .cons h (.cons h2 t) => .cons h (da_dropLast (.cons h2 t))
theorem da_snoc : ∀ {ds : List PyData} {d : PyData} {xs : List V}, DpAll K H xs (ds ++ [d]) → ∃ ys y, xs = ys ++ [y] ∧ DpAll K H ys ds ∧ Dp K H y d
  | [], d, xs, h => by
    obtain ⟨v, r, rfl, h1, h2⟩ := da_cons h
    obtain rfl := da_nil h2
    exact ⟨[], v, rfl, .nil, h1⟩
  | e :: ds, d, xs, h => by
    obtain ⟨v, r, rfl, h1, h2⟩ := da_cons (ds := ds ++ [d]) h
    obtain ⟨ys, y, rfl, h3, h4⟩ := da_snoc h2
    exact ⟨v :: ys, y, rfl, .cons h1 h3, h4⟩
theorem da_of : ∀ {xs : List V} {ds : List PyData}, xs.length = ds.length → (∀ (j : Nat) y d, xs[j]? = some y → ds[j]? = some d → Dp K H y d) → DpAll K H xs ds
  | [], [], _, _ => .nil
  | [], _ :: _, h, _ => by cases h
  | _ :: _, [], h, _ => by cases h
  | x :: xs, d :: ds, h, f => .cons (f 0 x d rfl rfl) (da_of (Nat.succ.inj h) fun j y e h1 h2 => f (j + 1) y e (by simpa using h1) (by simpa using h2))
/-- ints, texts as data -/
abbrev dIs (ns : List Int) : List PyData := ns.map PyData.int
abbrev dSs (xs : List Str) : List PyData := xs.map PyData.str
theorem da_ints : ∀ (ns : List Int), DpAll K H (ns.map V.int) (dIs ns)
  | [] => .nil
  | n :: ns => .cons (.int n) (da_ints ns)
theorem da_strs : ∀ (xs : List Str), DpAll K H (xs.map V.str) (dSs xs)
  | [] => .nil
  | x :: xs => .cons (.str x) (da_strs xs)
theorem ints_da : ∀ {ns : List Int} {vs : List V}, DpAll K H vs (dIs ns) → vs = ns.map V.int
  | [], _, h => da_nil h
  | n :: ns, _, h => by
    obtain ⟨v, r, rfl, h1, h2⟩ := da_cons h
    rw [dp_int h1, ints_da h2]
    rfl
theorem strs_da : ∀ {xs : List Str} {vs : List V}, DpAll K H vs (dSs xs) → vs = xs.map V.str
  | [], _, h => da_nil h
  | x :: xs, _, h => by
    obtain ⟨v, r, rfl, h1, h2⟩ := da_cons h
    rw [dp_str h1, strs_da h2]
    rfl
theorem dp_ints {v : V} {ns : List Int} (h : Dp K H v (.tuple (dIs ns))) : ∃ a, v = .ref a ∧ SqT K H a (ns.map V.int) := by
  obtain ⟨a, xs, rfl, h1, h2⟩ := dp_tup h
  rw [ints_da h2] at h1
  exact ⟨a, rfl, h1⟩
theorem ints_dp {a : Addr} {ns : List Int} (h : SqT K H a (ns.map V.int)) : Dp K H (.ref a) (.tuple (dIs ns)) := .tup h (da_ints ns)
theorem noLs_ints : ∀ ns : List Int, noLs (dIs ns) = true
  | [] => rfl
  | n :: ns => by
    show (noL (.int n) && noLs (dIs ns)) = true
    rw [noLs_ints ns]
    rfl
theorem tup_new {p : Addr} {xs : List V} {ds : List PyData} {H : Hp} (hp : H p = none) (h : DpAll K H xs ds) : Dp K (upd H p (.tup xs)) (.ref p) (.tuple ds) := .tup (.inl (.inl upd_same)) (DpAll.ex (Ex.new hp) h)
theorem lst_new {p : Addr} {xs : List V} {ds : List PyData} {H : Hp} (hp : H p = none) (h : DpAll K H xs ds) : Dp K (upd H p (.lst xs)) (.ref p) (.list ds) := .lst (.inl (.inl upd_same)) (DpAll.ex (Ex.new hp) h)
end
/-! ### isinstance -/
section
variable {K : PySem.W.Frag} {H : Hp}
theorem ty_tup {a : Addr} {xs : List V} (h : SqT K H a xs) : TyX K H (.ref a) (.type "tuple") := by
  rcases h with (h | ⟨o, h⟩) | ⟨o, its, n, h1, h2, _⟩
  · exact .base (.tup h)
  · exact .fTuple h
  · exact .kTuple h1 h2
theorem ty_lst {a : Addr} {xs : List V} (h : SqL K H a xs) : TyX K H (.ref a) (.type "list") := by
  rcases h with (h | ⟨o, h⟩) | ⟨o, its, n, h1, h2, _⟩
  · exact .base (.lst h)
  · exact .base (.frz h)
  · exact .kList h1 h2
theorem isi_go {x : V} {a b : String} {r : Bool} {Q : VK} (ty : TyX K H x (.type a)) (h : kitB a b = some r) (q : Q (.bl r) H) : rIsi K [x, .ty b] H Q := ⟨x, .ty b, .type a, .type b, r, rfl, .ty _, ty, kit_ty h, q⟩
end
theorem szc {n : Nat} (h : Nat.ble n 1000 = true) : n ≤ sizeLine := Nat.le_trans (Nat.le_of_ble_eq_true h) (by decide)
/-! ### tests whose answer is known -/
theorem iteNB {b : Bool} {A B : Prop} (h : b = true) (q : B) : if (!b) = true then A else B := by
  subst h
  exact iteF q
theorem iteB {b : Bool} {A B : Prop} (h : b = true) (q : A) : if b = true then A else B := by
  subst h
  exact iteT q
theorem iteB0 {b : Bool} {A B : Prop} (h : b = false) (q : B) : if b = true then A else B := by
  subst h
  exact iteF q
theorem iteNB0 {b : Bool} {A B : Prop} (h : b = false) (q : A) : if (!b) = true then A else B := by
  subst h
  exact iteT q
theorem ite2B {b : Bool} {A B : Prop} (h1 : b = true → A) (h2 : b = false → B) : if b = true then A else B := by
  cases b with
  | true => exact iteT (h1 rfl)
  | false => exact iteF (h2 rfl)
theorem get_int {ns : List Int} {i : Nat} {x : V} (h : (ns.map V.int)[i]? = some x) : ∃ n, ns[i]? = some n ∧ x = .int n := by
  rw [List.getElem?_map] at h
  cases e : ns[i]? with
  | none =>
    rw [e] at h
    cases h
  | some n =>
    rw [e] at h
    exact ⟨n, rfl, (Option.some.inj h).symm⟩
theorem get_str {ns : List Str} {i : Nat} {x : V} (h : (ns.map V.str)[i]? = some x) : ∃ n, ns[i]? = some n ∧ x = .str n := by
  rw [List.getElem?_map] at h
  cases e : ns[i]? with
  | none =>
    rw [e] at h
    cases h
  | some n =>
    rw [e] at h
    exact ⟨n, rfl, (Option.some.inj h).symm⟩
theorem get_map {α β : Type} {f : α → β} {xs : List α} {i : Nat} {a : α} {y : β} (h : xs[i]? = some a) (hy : (xs.map f)[i]? = some y) : y = f a := by
  rw [List.getElem?_map, h] at hy
  exact (Option.some.inj hy).symm
/-! ### small rules -/
section
variable {X : Cx}
theorem pe_gI {x : Str} {i : Int} {pos : Pos} (h : ∃ t, X.mg x = some (.int i t)) (hg : Gl X x := by rfl) (hd : (x == ("__debug__" : Str)) = false := by decide) : PE X (.Name x pos) (tC (.int i)) := by
  obtain ⟨t, e⟩ := h
  exact pe_glob hg e ⟨t, rfl⟩ hd
theorem pe_gS {x z : Str} {pos : Pos} (h : ∃ t, X.mg x = some (.str z t)) (hg : Gl X x := by rfl) (hd : (x == ("__debug__" : Str)) = false := by decide) : PE X (.Name x pos) (tC (.str z)) := by
  obtain ⟨t, e⟩ := h
  exact pe_glob hg e ⟨t, rfl⟩ hd
/-- isinstance(e, T) -/
theorem pe_isi {x : Str} {T : String} {e : Expr} {te : TE} {p p2 pos : Pos} (he : PE X e te) (hm : X.mg "isinstance" = none) (hT : X.mg x = none) (bT : bootBuiltins x = some (.type T)) (hg : Gl X "isinstance" := by rfl) (hgT : Gl X x := by rfl) (nx : x ≠ "__name__" := by decide) (dx : (x == ("__debug__" : Str)) = false := by decide)
    (hs : starEach [e, .Name x p2] X.env = (false, eval e X.env) :: starEach [.Name x p2] X.env := by rfl) (hs2 : starEach [.Name x p2] X.env = (false, eval (.Name x p2) X.env) :: starEach [] X.env := by rfl) (hpl : (backTo pos (starEach [.Name x p2] X.env)).any (·.1) = false := by rfl) :
    PE X (.Call (.Name "isinstance" p) [e, .Name x p2] [] pos) (tCB (rIsi X.K) (tCons te (tCons (tC (.ty T)) tNil))) :=
  pe_callB call_isi hg hm (by decide +kernel) (pa_cons he (pa_cons (pe_bltn hgT hT bT rfl nx dx) pa_nil hs2) hs) (by decide) (by decide) hs hpl
/-- str(e) of an int or a text -/
def rStr : List V → Hp → VK → Prop := fun xs H Q => (∃ i : Int, xs = [.int i] ∧ i.natAbs.log2 < 1920 ∧ Q (.str (toString i)) H) ∨ ∃ a : Str, xs = [.str a] ∧ Q (.str a) H
theorem call_strX : CallR X (.type "str") rStr := by
  intro pins s σ H xs us Q I r h
  rcases h with h | h
  · exact call_str_int pins s σ H xs us Q I r h
  · exact SkE.call_str_str pins s σ H xs us Q I r h
end
end K95

set_option Elab.async false
set_option linter.all false
set_option maxRecDepth 100000
set_option maxHeartbeats 4000000
/-! Comprehensions: what the new list holds. -/
namespace K95
open PySem PySem.Spec PyProof.Rows L2
open Evl (Ex ex_l ex_t fresh_back)
/-- all but D stays -/
def ExD (D : Addr) (H H' : Hp) : Prop := ∀ b o, b ≠ D → H b = some o → H' b = some o
theorem ExD.refl {D : Addr} (H : Hp) : ExD D H H := fun _ _ _ h => h
theorem ExD.trans {D : Addr} {H H1 H2 : Hp} (a : ExD D H H1) (b : ExD D H1 H2) : ExD D H H2 := fun c o n h => b c o n (a c o n h)
theorem ExD.of {D : Addr} {H H' : Hp} (e : Ex H H') : ExD D H H' := fun b o _ h => e b o h
theorem ExD.upd {D : Addr} {H : Hp} {o : HO} : ExD D H (upd H D o) := fun b u n h => by rw [upd_ne n]; exact h
theorem ExD.ex {D : Addr} {H H' : Hp} (hD : H D = none) (e : ExD D H H') : Ex H H' := fun b o h => e b o (ne_of_none h hD) h
/-- the body of a comprehension's reading over J (what stands behind fun D hD) -/
abbrev LcBody (J : It) (g : TG) (tt : TT) (te : TE) (vs : List Nat) (σ : L2.St) (H1 : Hp) (D : Addr) (Qd : Hp → Prop) : Prop :=
  ∃ W : Nat → Nat → Hp → Prop, (∃ m, W 0 m (upd H1 D (.lst []))) ∧ ∀ i m H, W i m H →
      (J.stop i H ∧ Qd H) ∨ (J.go i H ∧ ∃ Nx : Hp → Prop, (∀ H', Nx H' → ∃ m', m' < m ∧ W (i + 1) m' H') ∧ ∀ x H', J.yld i H x H' → g x (wipe σ vs) H' fun σ2 H2 => wipe σ2 vs = wipe σ vs ∧ tt σ2 H2 fun b H3 =>
        if b = true then te σ2 H3 fun y H4 => ∃ acc, H4 D = some (.lst acc) ∧ acc.length < sizeLine ∧ Nx (upd H4 D (.lst (acc ++ [y]))) else Nx H3)
section
variable {J : It} {n : Nat} {G : Hp → Prop} {Y : Nat → Hp → V → Hp → Prop} {g : TG} {tt : TT} {te : TE} {vs : List Nat} {σ : L2.St} {H1 : Hp} {D : Addr} {Qd : Hp → Prop}
/-- each turn gives one item, of which R tells -/
theorem lc_rel (w : Walk J n G Y) (R : Nat → V → Hp → Prop) (hn : n ≤ 16000000) (hD : H1 D = none) (hG : ∀ H, Ex H1 H → G H) (hR : ∀ i y H H', R i y H → ExD D H H' → R i y H')
    (hs : ∀ i x H H' (k : VK), i < n → Ex H1 H → Y i H x H' → (∃ acc, H D = some (.lst acc)) → (∀ y H4, Ex H H4 → R i y H4 → k y H4) → g x (wipe σ vs) H' fun σ2 H2 => wipe σ2 vs = wipe σ vs ∧ te σ2 H2 k)
    (hd : ∀ H acc, Ex H1 H → H D = some (.lst acc) → acc.length = n → (∀ j y, acc[j]? = some y → R j y H) → Qd H) : LcBody J g tYes te vs σ H1 D Qd := by
  refine lc_it w (fun i H => Ex H1 H ∧ ∃ acc : List V, H D = some (.lst acc) ∧ acc.length = i ∧ ∀ j y, acc[j]? = some y → R j y H) ⟨ExD.ex hD ExD.upd, [], upd_same, rfl, fun j y e => by simp at e⟩ (fun i H _ p => hG H p.1) (fun i x H H' hi p y => ?_) (fun H p => ?_)
  · obtain ⟨e, acc, ha, hl, hr⟩ := p
    refine hs i x H H' _ hi e y ⟨acc, ha⟩ fun y H4 e4 r4 => ?_
    refine ⟨acc, e4 D _ ha, Nat.lt_of_lt_of_le (by omega : acc.length < 16000000) (by decide), ExD.ex hD ((ExD.of (e.trans e4)).trans ExD.upd), acc ++ [y], upd_same, by simp [hl], fun j z hz => ?_⟩
    by_cases hj : j < acc.length
    · rw [List.getElem?_append_left hj] at hz
      exact hR j z _ _ (hr j z hz) ((ExD.of e4).trans ExD.upd)
    · rw [List.getElem?_append_right (by omega)] at hz
      have hj0 : j - acc.length = 0 := by
        by_cases h0 : j - acc.length = 0
        · exact h0
        · rw [List.getElem?_eq_none (by simp; omega)] at hz
          cases hz
      rw [hj0] at hz
      have ez : y = z := by simpa using hz
      have ej : j = i := by omega
      rw [← ez, ej]
      exact hR i y _ _ r4 ExD.upd
  · obtain ⟨e, acc, ha, hl, hr⟩ := p
    exact hd H acc e ha hl hr
/-- each turn gives the next of zs -/
theorem lc_map (w : Walk J n G Y) (zs : List V) (hz : zs.length = n) (hn : n ≤ 16000000) (hD : H1 D = none) (hG : ∀ H, Ex H1 H → G H)
    (hs : ∀ i x H H' y (k : VK), zs[i]? = some y → Ex H1 H → Y i H x H' → (∀ H4, Ex H H4 → k y H4) → g x (wipe σ vs) H' fun σ2 H2 => wipe σ2 vs = wipe σ vs ∧ te σ2 H2 k)
    (hd : ∀ H, Ex H1 H → H D = some (.lst zs) → Qd H) : LcBody J g tYes te vs σ H1 D Qd := by
  refine lc_rel w (fun i y _ => zs[i]? = some y) hn hD hG (fun _ _ _ _ h _ => h) (fun i x H H' k hi e y _ q => ?_) (fun H acc e ha hl hr => ?_)
  · have hi' : i < zs.length := by omega
    exact hs i x H H' zs[i] k (List.getElem?_eq_getElem hi') e y fun H4 e4 => q _ H4 e4 (List.getElem?_eq_getElem hi')
  · have eq : acc = zs := by
      apply List.ext_getElem?
      intro j
      by_cases hj : j < acc.length
      · rw [List.getElem?_eq_getElem hj]
        exact (hr j _ (List.getElem?_eq_getElem hj)).symm
      · rw [List.getElem?_eq_none (by omega), List.getElem?_eq_none (by omega)]
    rw [eq] at ha
    exact hd H e ha
/-- each turn keeps its item or not -/
theorem lc_sel (w : Walk J n G Y) (xs : List V) (p : V → Bool) (hx : xs.length = n) (hn : n ≤ 16000000) (hD : H1 D = none) (hG : ∀ H, Ex H1 H → G H)
    (hs : ∀ i x H H' y (kT : VK) (kF : Hp → Prop), xs[i]? = some y → Ex H1 H → Y i H x H' → (p y = true → ∀ H4, Ex H H4 → kT y H4) → (p y = false → ∀ H4, Ex H H4 → kF H4) →
      g x (wipe σ vs) H' fun σ2 H2 => wipe σ2 vs = wipe σ vs ∧ tt σ2 H2 fun b H3 => if b = true then te σ2 H3 kT else kF H3)
    (hd : ∀ H, Ex H1 H → H D = some (.lst (xs.filter p)) → Qd H) : LcBody J g tt te vs σ H1 D Qd := by
  refine lc_it w (fun i H => Ex H1 H ∧ H D = some (.lst ((xs.take i).filter p))) ⟨ExD.ex hD ExD.upd, by rw [upd_same] <;> rfl⟩ (fun i H _ p => hG H p.1) (fun i x H H' hi q y => ?_) (fun H q => ?_)
  · obtain ⟨e, ha⟩ := q
    have hi' : i < xs.length := by omega
    have et : xs.take (i + 1) = xs.take i ++ [xs[i]] := by rw [List.take_succ, List.getElem?_eq_getElem hi'] <;> rfl
    have hlen : ((xs.take i).filter p).length ≤ i := Nat.le_trans (List.length_filter_le _ _) (by rw [List.length_take]; omega)
    refine hs i x H H' xs[i] _ _ (List.getElem?_eq_getElem hi') e y (fun hp H4 e4 => ?_) (fun hp H4 e4 => ?_)
    · refine ⟨_, e4 D _ ha, Nat.lt_of_lt_of_le (by omega : ((xs.take i).filter p).length < 16000000) (by decide), ExD.ex hD ((ExD.of (e.trans e4)).trans ExD.upd), ?_⟩
      rw [upd_same, et, List.filter_append, List.filter_cons, if_pos hp] <;> rfl
    · refine ⟨e.trans e4, ?_⟩
      rw [e4 D _ ha, et, List.filter_append, List.filter_cons, if_neg (by rw [hp]; exact Bool.false_ne_true), List.filter_nil, List.append_nil]
  · obtain ⟨e, ha⟩ := q
    rw [List.take_of_length_le (by omega)] at ha
    exact hd H e ha
theorem walk_zipT {K : PySem.W.Frag} {a b : Addr} {xs ys : List V} (hn : n = min xs.length ys.length) : Walk (RZ.ItzT K a b) n (fun H => SqT K H a xs ∧ SqT K H b ys) (YPair (fun i => xs[i]?) (fun i => ys[i]?)) := by
  subst hn
  refine ⟨fun i _ hi q => ?_, fun _ q => ⟨xs, ys, q.1, q.2, by omega⟩, fun i H v H' _ q y => ?_⟩
  · have h1 : i < xs.length := by omega
    have h2 : i < ys.length := by omega
    exact ⟨xs, ys, xs[i], ys[i], q.1, q.2, by simp [h1], by simp [h2]⟩
  · obtain ⟨T, x, z, h1, h2, h3, h4, h5⟩ := y
    exact ⟨T, x, z, h1, h2, h3, h4 xs q.1, h5 ys q.2⟩
end
end K95

set_option Elab.async false
set_option linter.all false
set_option maxRecDepth 100000
set_option maxHeartbeats 4000000
/-! The program's own defs over halls and rules. -/
namespace K95
open PySem PySem.Spec PyProof.Rows L2
open Evl (Ex ex_l ex_t fresh_back)
/-! ### a hall -/
def ascI : List Int → Bool
  | a :: b :: r => decide (a < b) && ascI (b :: r)
  | _ => true
structure HallOk (s : Int) (fs : List Int) : Prop where
  s1 : 1 ≤ s
  s6 : s ≤ 6
  f1 : 1 ≤ fs.length
  f4 : fs.length ≤ 4
  fb : ∀ f ∈ fs, 1 ≤ f ∧ f ≤ 99
  as : ascI fs = true
def hallD (s : Int) (fs : List Int) : PyData := .tuple [.int s, .tuple (dIs fs)]
/-- what is no pair -/
def Odd (K : PySem.W.Frag) (H : Hp) (v : V) : Prop := v = .non ∨ (∃ i, v = .int i) ∨ (∃ b, v = .bl b) ∨ (∃ a, v = .ref a ∧ SqT K H a []) ∨ ∃ a, v = .ref a ∧ SqL K H a [.str "kept 0"]
/-- the error x with the fields fs, of the values vs, is let out -/
def Err (K : PySem.W.Frag) (H : Hp) (E : XK) (x : Str) (fs : List Str) (vs : List V) : Prop := ∀ H' d, Ex H H' → H' d = some (xdOf fs vs) → E (.ref (ga K x)) (some d) H'
theorem Err.ex {K : PySem.W.Frag} {H H' : Hp} {E : XK} {x : Str} {fs : List Str} {vs : List V} (h : Err K H E x fs vs) (e : Ex H H') : Err K H' E x fs vs := fun H1 d e1 h1 => h H1 d (e.trans e1) h1
theorem Err.go {K : PySem.W.Frag} {H : Hp} {E : XK} {x : Str} {fs : List Str} {vs : List V} (h : Err K H E x fs vs) : ∀ d, H d = none → E (.ref (ga K x)) (some d) (upd H d (xdOf fs vs)) := fun d hd => h _ d (Ex.new hd) upd_same
def spWhole : Sp := fun vs H Q _ => ∃ i lo hi : Int, vs = [.int i, .int lo, .int hi] ∧ Q (.bl (decide (lo ≤ i) && decide (i ≤ hi))) H
def spHall (K : PySem.W.Frag) : Sp := fun vs H Q E => ∃ v, vs = [v] ∧ ((∃ s fs, HallOk s fs ∧ Dp K H v (hallD s fs) ∧ ∀ H', Ex H H' → Q v H') ∨ (Odd K H v ∧ Err K H E "BadHall" ["part"] [.str "form"]))
section
variable {w : World} {K : PySem.W.Frag} {mg : Str → Option Value} {base : Heap}
abbrev nIs_whole : List Str := ["value", "least", "most"]
theorem scIs_whole : FnScope nIs_whole ["value", "least", "most"] (defScope (top 25)) := ⟨rfl, rfl, rfl, by decide +kernel, rfl, by decide +kernel, by decide +kernel⟩
theorem ok_is_whole (T : Txt K mg) : FnOk PR w K mg base CX0 1 (ga K "is_whole") (fdOf K "is_whole") ["value", "least", "most"] spWhole := by
  refine T.dis_whole.F.ok scIs_whole (fun vs H Q E h => ?_) (fun cdv A outer s H vs Q E hr h => ?_)
  · obtain ⟨i, lo, hi, rfl, _⟩ := h
    rfl
  refine ⟨_, pss_one (ps_ret (pe_and (pe_isi (T := "int") (pv 0) T.f_isinstance T.f_int (by decide +kernel)) (pe_and (pe_not (pe_isi (T := "bool") (pv 0) T.f_isinstance T.f_bool (by decide +kernel))) (pe_one (pe_chain op_le op_le (pv 1) (pv 0) (pv 2)))))), ?_⟩
  obtain ⟨i, lo, hi, rfl, q⟩ := h
  refine ⟨_, rfl, _, _, _, _, true, rfl, .ty _, .base (.int i), kit_ty (by decide +kernel), _, rfl, iteT ?_⟩
  refine ⟨_, rfl, _, _, _, _, false, rfl, .ty _, .base (.int i), kit_ty (by decide +kernel), _, rfl, _, rfl, iteT ?_⟩
  refine ⟨_, rfl, _, rfl, _, _, rfl, rfl, _, rfl, ?_⟩
  by_cases c : lo ≤ i
  · rw [decide_eq_true c] at q ⊢
    exact iteT ⟨_, rfl, _, _, rfl, rfl, q⟩
  · rw [decide_eq_false c] at q ⊢
    exact iteF q
abbrev nNeed_hall : List Str := ["hall", "fare", "one", "other"]
theorem scNeed_hall : FnScope nNeed_hall ["hall"] (defScope (top 26)) := ⟨rfl, rfl, rfl, by decide +kernel, rfl, by decide +kernel, by decide +kernel⟩
theorem ascI_all : ∀ fs : List Int, ((fs.zip fs.tail).map fun p => decide (p.1 < p.2)).all id = ascI fs
  | [] => rfl
  | [a] => rfl
  | a :: b :: r => by
    have ih := ascI_all (b :: r)
    show (decide (a < b) && (((b :: r).zip (b :: r).tail).map fun p => decide (p.1 < p.2)).all id) = (decide (a < b) && ascI (b :: r))
    rw [ih]
theorem ok_need_hall (T : Txt K mg) : FnOk PR w K mg base (L2.CX PR w) 4 (ga K "need_hall") (fdOf K "need_hall") ["hall"] (spHall K) := by
  refine T.dneed_hall.F.ok scNeed_hall (fun vs H Q E h => ?_) (fun cdv A outer s H vs Q E hr h => ?_)
  · obtain ⟨v, rfl, _⟩ := h
    rfl
  refine ⟨_, (pss_cons (ps_if (PW.pt (pw_or (pt_not (pt_val (pe_isi (T := "tuple") (pv 0) T.f_isinstance T.f_tuple (by decide +kernel)))) (pw_or1 (pt_cmpR op_ne (pe_callB call_len rfl T.f_len (by decide +kernel) (pa_cons (pv 0) pa_nil)) pe_int (nomark _)))))
      (pss_one (ps_raise rfl (takes_of rfl rfl rfl rfl) (pmk_BadHall T.xHall hr (pa_cons pe_str pa_nil))))
      pss_nil)
    (pss_cons (ps_if (pt_not (pt_val (pe_call (ok_is_whole T) (hr.mono (by decide)) rfl T.dis_whole.g T.dis_whole.kp (bdis_whole T) .nil pass0 (pa_cons (pe_ix ix_tup (pv 0) pe_int (fun _ _ => rfl)) (pa_cons pe_int (pa_cons (pe_gI T.MOST_SEATS) pa_nil))))))
      (pss_one (ps_raise rfl (takes_of rfl rfl rfl rfl) (pmk_BadHall T.xHall hr (pa_cons pe_str pa_nil))))
      pss_nil)
    (pss_cons (ps_if (PW.pt (pw_or (pt_not (pt_val (pe_isi (T := "tuple") (pe_ix ix_tup (pv 0) pe_int (fun _ _ => rfl)) T.f_isinstance T.f_tuple (by decide +kernel)))) (pw_or1 (pt_not (pt_chain op_le op_le pe_int (pe_callB call_len rfl T.f_len (by decide +kernel) (pa_cons (pe_ix ix_tup (pv 0) pe_int (fun _ _ => rfl)) pa_nil)) (pe_gI T.MOST_FARES))))))
      (pss_one (ps_raise rfl (takes_of rfl rfl rfl rfl) (pmk_BadHall T.xHall hr (pa_cons pe_str pa_nil))))
      pss_nil)
    (pss_cons (ps_if (pt_not (pt_val (pe_callB (cr_all rfl) rfl T.f_all (by decide +kernel) (pa_cons (pe_lc (own := [("fare", 1)]) (g := gName 1) (tt := tYes) rfl scNeed_hall.nd (pi_tup (pe_ix ix_tup (pv 0) pe_int (fun _ _ => rfl))) (blkOk_by (N := nNeed_hall) (sc := defScope (top 26)) (by decide +kernel)) (fun _ _ _ _ _ => pg_name (i := 1) scNeed_hall.nd rfl (Or.inl rfl)) (fun _ _ _ _ _ => pts_nil) (fun _ _ _ _ _ => (pe_call (ok_is_whole T) (hr.mono (by decide)) rfl T.dis_whole.g T.dis_whole.kp (bdis_whole T) .nil pass0 (pa_cons (pv 1) (pa_cons pe_int (pa_cons (pe_gI T.MOST_FARE) pa_nil)))))) pa_nil))))
      (pss_one (ps_raise rfl (takes_of rfl rfl rfl rfl) (pmk_BadHall T.xHall hr (pa_cons pe_str pa_nil))))
      pss_nil)
    (pss_cons (ps_if (pt_not (pt_val (pe_callB (cr_all rfl) rfl T.f_all (by decide +kernel) (pa_cons (pe_lc (own := [("one", 2), ("other", 3)]) (g := gTup K 2 (gCons (gName 2) (gCons (gName 3) gNil))) (tt := tYes) rfl scNeed_hall.nd (RZ.pi_zipA rfl T.f_zip (pa_cons (pe_ix ix_tup (pv 0) pe_int (fun _ _ => rfl)) (pa_cons (pe_slice sl_tupA (pe_ix ix_tup (pv 0) pe_int (fun _ _ => rfl)) (po_some pe_int) po_none) pa_nil))) (blkOk_by (N := nNeed_hall) (sc := defScope (top 26)) (by decide +kernel)) (fun _ _ _ _ _ => pg_tup rfl (pgs_cons (pg_name (i := 2) scNeed_hall.nd rfl (Or.inl rfl)) (pgs_cons (pg_name (i := 3) scNeed_hall.nd rfl (Or.inl rfl)) pgs_nil))) (fun _ _ _ _ _ => pts_nil) (fun _ _ _ _ _ => (pe_cmpR op_lt (pv 2) (pv 3) (nomark _)))) pa_nil))))
      (pss_one (ps_raise rfl (takes_of rfl rfl rfl rfl) (pmk_BadHall T.xHall hr (pa_cons pe_str pa_nil))))
      pss_nil)
    (pss_one (ps_ret (pv 0)))))))), ?_⟩
  obtain ⟨v, rfl, h⟩ := h
  rcases h with ⟨s1, fs, ok, dv, q⟩ | ⟨odd, er⟩
  · obtain ⟨a, xs, rfl, hS, hA⟩ := dp_tup dv
    obtain ⟨v1, r1, rfl, d1, hA⟩ := da_cons hA
    obtain ⟨v2, r2, rfl, d2, hA⟩ := da_cons hA
    obtain rfl := da_nil hA
    obtain rfl := dp_int d1
    obtain ⟨b, rfl, hF⟩ := dp_ints d2
    refine ⟨_, rfl, _, _, _, _, true, rfl, .ty _, ty_tup hS, kit_ty (by decide +kernel), _, rfl, iteF ?_⟩
    refine ⟨_, rfl, _, _, rfl, .inr ⟨_, hS, rfl⟩, rfl, _, rfl, iteNS rfl ?_⟩
    refine ⟨_, rfl, _, _, _, _, rfl, rfl, hS, rfl, _, _, _, rfl, _, rfl, iteNB (by rw [decide_eq_true ok.s1, decide_eq_true ok.s6] <;> rfl) ?_⟩
    refine ⟨_, rfl, _, _, _, _, rfl, rfl, hS, rfl, _, _, _, _, true, rfl, .ty _, ty_tup hF, kit_ty (by decide +kernel), _, rfl, iteF ?_⟩
    refine ⟨_, rfl, _, _, _, _, rfl, rfl, hS, rfl, _, _, rfl, .inr ⟨_, hF, rfl⟩, _, _, rfl, rfl, _, rfl, ?_⟩
    have l1 : (1 : Int) ≤ ((fs.map V.int).length : Int) := by have := ok.f1; rw [List.length_map]; omega
    have l4 : ((fs.map V.int).length : Int) ≤ 4 := by have := ok.f4; rw [List.length_map]; omega
    refine iteB (decide_eq_true l1) ⟨_, _, rfl, rfl, _, rfl, iteNB (decide_eq_true l4) ?_⟩
    refine ⟨_, rfl, _, _, _, _, rfl, rfl, hS, rfl, _, rfl, ⟨_, hF⟩, fun D hD => lc_map walk_tup (fs.map fun f => V.bl (decide (1 ≤ f) && decide (f ≤ 99))) (by simp) (by rw [List.length_map]; have := ok.f4; omega) hD (fun H' e => ex_t e hF) (fun i x H1 H2 y k hy e hY hk => ?_) (fun H1 e1 hD1 => ?_)⟩
    · obtain ⟨rfl, hx⟩ := hY
      obtain ⟨n, hn, rfl⟩ := get_int hx
      obtain rfl := get_map hn hy
      exact ⟨rfl, _, rfl, _, _, _, rfl, hk _ (Ex.refl _)⟩
    have hS1 := ex_t e1 hS
    have hF1 := ex_t e1 hF
    refine ⟨_, fs.map fun f => decide (1 ≤ f) && decide (f ≤ 99), rfl, SqL.of (by rw [hD1, List.map_map] <;> rfl), _, rfl, iteNB (by rw [List.all_map, List.all_eq_true]; intro f hf; have := ok.fb f hf; show (decide (1 ≤ f) && decide (f ≤ 99)) = true; rw [decide_eq_true this.1, decide_eq_true this.2] <;> rfl) ?_⟩
    refine ⟨_, rfl, _, _, _, _, rfl, rfl, hS1, rfl, _, rfl, _, _, _, _, rfl, rfl, hS1, rfl, _, rfl, _, _, rfl, hF1, fun z => ?_, fun _ p hp => ?_⟩
    · have h1 := z.1
      have h2 : HT.sIx (fs.map V.int).length 0 (some ((1 : Nat) : Int)) = 0 := h1
      rw [HT.sIx_nat, List.length_map] at h2
      have := ok.f1
      omega
    have hcut : cutV (fs.map V.int) (some 1) none = fs.tail.map V.int := by
      have h2 : HT.sIx (fs.map V.int).length 0 (some 1) = 1 := by
        show HT.sIx (fs.map V.int).length 0 (some ((1 : Nat) : Int)) = 1
        rw [HT.sIx_nat, List.length_map]
        have := ok.f1
        omega
      unfold cutV
      rw [h2, HT.sIx_none, List.take_of_length_le (by rw [List.length_drop] <;> exact Nat.le_refl _), List.drop_one, List.map_tail]
    rw [hcut]
    have hF2 := ex_t (Ex.new (o := .tup (fs.tail.map V.int)) hp) hF1
    have hT2 : SqT K (upd H1 p (.tup (fs.tail.map V.int))) p (fs.tail.map V.int) := SqT.of upd_same
    refine ⟨_, _, _, _, rfl, .inr ⟨hF2, hT2, fun D2 hD2 => lc_map (n := fs.tail.length) (walk_zipT (by rw [List.length_map, List.length_map, List.length_tail]; omega)) ((fs.zip fs.tail).map fun p => V.bl (decide (p.1 < p.2))) (by rw [List.length_map, List.length_zip, List.length_tail]; omega) (by rw [List.length_tail]; have := ok.f4; omega) hD2 (fun H' e => ⟨ex_t e hF2, ex_t e hT2⟩) (fun i x H3 H4 y k hy e hY hk => ?_) (fun H3 e3 hD3 => ?_)⟩⟩
    · obtain ⟨T2, u1, u2, rfl, hT, rfl, hu1, hu2⟩ := hY
      obtain ⟨n1, hn1, rfl⟩ := get_int hu1
      obtain ⟨n2, hn2, rfl⟩ := get_int hu2
      have hz : (fs.zip fs.tail)[i]? = some (n1, n2) := List.getElem?_zip_eq_some.mpr ⟨hn1, hn2⟩
      obtain rfl := get_map hz hy
      exact ⟨_, _, rfl, SqT.of upd_same, rfl, _, _, rfl, _, _, rfl, rfl, rfl, _, rfl, _, rfl, _, _, rfl, rfl, hk _ (Ex.new hT)⟩
    refine ⟨_, (fs.zip fs.tail).map fun p => decide (p.1 < p.2), rfl, SqL.of (by rw [hD3, List.map_map] <;> rfl), _, rfl, iteNB (by rw [ascI_all]; exact ok.as) ?_⟩
    exact ⟨_, rfl, q _ ((e1.trans (Ex.new hp)).trans e3)⟩
  · -- what is no pair
    rcases odd with rfl | ⟨i, rfl⟩ | ⟨b, rfl⟩ | ⟨a, rfl, hS⟩ | ⟨a, rfl, hS⟩
    · exact ⟨_, rfl, _, _, _, _, false, rfl, .ty _, .base .non, kit_ty (by decide +kernel), _, rfl, iteT (iteT ⟨rfl, er.go⟩)⟩
    · exact ⟨_, rfl, _, _, _, _, false, rfl, .ty _, .base (.int i), kit_ty (by decide +kernel), _, rfl, iteT (iteT ⟨rfl, er.go⟩)⟩
    · exact ⟨_, rfl, _, _, _, _, false, rfl, .ty _, .base (.bl b), kit_ty (by decide +kernel), _, rfl, iteT (iteT ⟨rfl, er.go⟩)⟩
    · refine ⟨_, rfl, _, _, _, _, true, rfl, .ty _, ty_tup hS, kit_ty (by decide +kernel), _, rfl, iteF ?_⟩
      exact ⟨_, rfl, _, _, rfl, .inr ⟨_, hS, rfl⟩, rfl, _, rfl, iteT ⟨rfl, er.go⟩⟩
    · exact ⟨_, rfl, _, _, _, _, false, rfl, .ty _, ty_lst hS, kit_ty (by decide +kernel), _, rfl, iteT (iteT ⟨rfl, er.go⟩)⟩
end
end K95

set_option Elab.async false
set_option linter.all false
set_option maxRecDepth 100000
set_option maxHeartbeats 4000000
/-! Rules as trees, what is asked of them; the words of a text read as a rule. Plain Lean. -/
namespace K95
open PySem PySem.Spec PyProof.Rows L2
inductive Rl where
  | pl (w : Str) (ns : List Int)
  | cb (w : Str) (a b : Rl)
  | ou (a : Rl) (fee : Int)
def Rl.d : Rl → PyData
  | .pl w ns => .tuple [.str w, .tuple (dIs ns)]
  | .cb w a b => .tuple [.str w, a.d, b.d]
  | .ou a fee => .tuple [.str "oust", a.d, .int fee]
def Rl.size : Rl → Nat
  | .pl _ _ => 1
  | .cb _ a b => 1 + a.size + b.size
  | .ou a _ => 1 + a.size
def plW : List Str := ["apart", "nested", "kept"]
def cbW : List Str := ["all", "any"]
/-- the words are right, each plain rule has nf numbers, none below 0 -/
def Rl.Wf (nf : Nat) : Rl → Prop
  | .pl w ns => w ∈ plW ∧ ns.length = nf ∧ ∀ n ∈ ns, 0 ≤ n ∧ n < 10000000
  | .cb w a b => w ∈ cbW ∧ a.Wf nf ∧ b.Wf nf
  | .ou a fee => a.Wf nf ∧ 0 ≤ fee ∧ fee < 10000000
def leI : List Int → Bool
  | a :: b :: r => decide (a ≤ b) && leI (b :: r)
  | _ => true
/-- the numbers of a rule of one word are right -/
def limOk (s : Int) (ns : List Int) : Bool := ns.all fun n => decide (0 ≤ n) && decide (n ≤ s)
def plOk (s : Int) (w : Str) (ns : List Int) : Bool := limOk s ns && (!decide (w = "nested") || leI ns)
/-- a rule but for the rules in it -/
def Rl.word (s : Int) (out : Bool) : Rl → Bool
  | .pl w ns => plOk s w ns
  | .cb _ _ _ => true
  | .ou _ fee => out && (decide (0 ≤ fee) && decide (fee ≤ 99))
def Rl.kids (p : List Int) : Rl → List (Rl × List Int)
  | .pl _ _ => []
  | .cb _ a b => [(a, p ++ [1]), (b, p ++ [2])]
  | .ou a _ => [(a, p ++ [1])]
/-- the path to the first part that is none, the stack's top first -/
def badF (s : Int) : Nat → List (Rl × List Int) → Option (List Int)
  | 0, _ => none
  | _ + 1, [] => none
  | f + 1, (r, p) :: st => if p.length > 3 ∨ r.word s (decide (p = [])) = false then some p else badF s f (r.kids p ++ st)
def bad (s : Int) (r : Rl) : Option (List Int) := badF s 8 [(r, [])]
def sizes (st : List (Rl × List Int)) : Nat := (st.map fun q => q.1.size).sum
theorem Rl.size_pos : ∀ r : Rl, 1 ≤ r.size
  | .pl _ _ => Nat.le_refl _
  | .cb _ _ _ => by unfold Rl.size; omega
  | .ou _ _ => by unfold Rl.size; omega
theorem sizes_cons (q : Rl × List Int) (st : List (Rl × List Int)) : sizes (q :: st) = q.1.size + sizes st := by simp [sizes]
theorem sizes_app (a b : List (Rl × List Int)) : sizes (a ++ b) = sizes a + sizes b := by simp [sizes]
theorem sizes_kids (r : Rl) (p : List Int) : sizes (r.kids p) + 1 = r.size := by
  cases r with
  | pl w ns => rfl
  | cb w a b => simp [Rl.kids, sizes, Rl.size]; omega
  | ou a fee => simp [Rl.kids, sizes, Rl.size]; omega
theorem strOk_pl {w : Str} (h : w ∈ plW) : PyData.canLay0 (.str w) = true := by
  have : ∀ w ∈ plW, PyData.canLay0 (.str w) = true := by decide +kernel
  exact this w h
theorem strOk_cb {w : Str} (h : w ∈ cbW) : PyData.canLay0 (.str w) = true := by
  have : ∀ w ∈ cbW, PyData.canLay0 (.str w) = true := by decide +kernel
  exact this w h
theorem canLay_ints : ∀ ns : List Int, PyData.canLayAll0 (dIs ns) = true
  | [] => by simp [PyData.canLayAll0]
  | n :: ns => by
    have ih := canLay_ints ns
    simp only [List.map_cons, PyData.canLayAll0, PyData.canLay0, ih, Bool.and_self]
theorem depth_ints : ∀ ns : List Int, PyData.depthAll (dIs ns) = 0
  | [] => by simp [PyData.depthAll]
  | n :: ns => by
    have ih := depth_ints ns
    simp only [List.map_cons, PyData.depthAll, PyData.depth, ih, Nat.max_self]
theorem Rl.canLay {nf : Nat} : ∀ {r : Rl}, r.Wf nf → r.d.canLay0 = true
  | .pl w ns, h => by
    obtain ⟨h1, _, _⟩ := h
    have := strOk_pl h1
    simp only [Rl.d, PyData.canLay0, PyData.canLayAll0, canLay_ints, Bool.and_true]
    simpa only [PyData.canLay0] using this
  | .cb w a b, h => by
    obtain ⟨h1, h2, h3⟩ := h
    have := strOk_cb h1
    simp only [Rl.d, PyData.canLay0, PyData.canLayAll0, Rl.canLay h2, Rl.canLay h3, Bool.and_true]
    simpa only [PyData.canLay0] using this
  | .ou a fee, h => by
    obtain ⟨h1, _⟩ := h
    have : PyData.canLay0 (.str "oust") = true := by decide +kernel
    simp only [Rl.d, PyData.canLay0, PyData.canLayAll0, Rl.canLay h1, Bool.and_true]
    simpa only [PyData.canLay0] using this
theorem Rl.depth : ∀ r : Rl, r.d.depth ≤ r.size + 1
  | .pl w ns => by simp [Rl.d, PyData.depth, PyData.depthAll, depth_ints, Rl.size]
  | .cb w a b => by
    have h1 := Rl.depth a
    have h2 := Rl.depth b
    simp only [Rl.d, PyData.depth, PyData.depthAll, Rl.size]
    omega
  | .ou a fee => by
    have h1 := Rl.depth a
    simp only [Rl.d, PyData.depth, PyData.depthAll, Rl.size]
    omega
theorem Rl.noL : ∀ r : Rl, noL r.d = true
  | .pl w ns => by
    have := noLs_ints ns
    simp only [Rl.d, K95.noL, noLs, this, Bool.and_true]
  | .cb w a b => by simp only [Rl.d, K95.noL, noLs, Rl.noL a, Rl.noL b, Bool.and_true]
  | .ou a fee => by simp only [Rl.d, K95.noL, noLs, Rl.noL a, Bool.and_true]
end K95

set_option Elab.async false
set_option linter.all false
set_option maxRecDepth 100000
set_option maxHeartbeats 4000000
namespace K95
open PySem PySem.Spec PyProof.Rows L2
open Evl (Ex ex_l ex_t fresh_back)
/-- a hall's value -/
theorem hall_in {K : PySem.W.Frag} {H : Hp} {v : V} {s : Int} {fs : List Int} (h : Dp K H v (hallD s fs)) : ∃ a b, v = .ref a ∧ SqT K H a [.int s, .ref b] ∧ SqT K H b (fs.map V.int) := by
  obtain ⟨a, xs, rfl, hS, hA⟩ := dp_tup h
  obtain ⟨v1, r1, rfl, d1, hA⟩ := da_cons hA
  obtain ⟨v2, r2, rfl, d2, hA⟩ := da_cons hA
  obtain rfl := da_nil hA
  obtain rfl := dp_int d1
  obtain ⟨b, rfl, hF⟩ := dp_ints d2
  exact ⟨a, b, rfl, hS, hF⟩
theorem hall_out {K : PySem.W.Frag} {H : Hp} {a b : Addr} {s : Int} {fs : List Int} (h1 : SqT K H a [.int s, .ref b]) (h2 : SqT K H b (fs.map V.int)) : Dp K H (.ref a) (hallD s fs) := .tup h1 (.cons (.int s) (.cons (ints_dp h2) .nil))
theorem leI_all : ∀ fs : List Int, ((fs.zip fs.tail).map fun p => decide (p.1 ≤ p.2)).all id = leI fs
  | [] => rfl
  | [a] => rfl
  | a :: b :: r => by
    have ih := leI_all (b :: r)
    show (decide (a ≤ b) && (((b :: r).zip (b :: r).tail).map fun p => decide (p.1 ≤ p.2)).all id) = (decide (a ≤ b) && leI (b :: r))
    rw [ih]
theorem inV_str (x : Str) : ∀ xs : List Str, inV (.str x) (xs.map V.str) = decide (x ∈ xs)
  | [] => rfl
  | y :: ys => by
    have ih := inV_str x ys
    unfold inV at ih ⊢
    rw [List.map_cons, List.any_cons, ih]
    have e : eqV (.str y) (.str x) = decide (x = y) := by
      show (y == x) = decide (x = y)
      by_cases h : x = y
      · subst h
        simp
      · have h' : (y == x) = false := beq_eq_false_iff_ne.mpr (Ne.symm h)
        rw [h', decide_eq_false h]
    rw [e]
    by_cases h : x = y
    · subst h
      simp
    · simp [h]
/-- t[1:] of a tuple of ints -/
theorem cut1 (fs : List Int) : cutV (fs.map V.int) (some 1) none = fs.tail.map V.int := by
  have h2 : HT.sIx (fs.map V.int).length 0 (some 1) = min 1 fs.length := by
    show HT.sIx (fs.map V.int).length 0 (some ((1 : Nat) : Int)) = _
    rw [HT.sIx_nat, List.length_map]
  unfold cutV
  rw [h2, HT.sIx_none, List.take_of_length_le (by rw [List.length_drop] <;> exact Nat.le_refl _)]
  cases fs with
  | nil => rfl
  | cons a r =>
    have : min 1 (a :: r).length = 1 := by rw [List.length_cons]; omega
    rw [this] <;> rfl
theorem cut1_whole {fs : List Int} (h : HT.sIx (fs.map V.int).length 0 (some 1) = 0) : fs = [] := by
  have h2 : HT.sIx (fs.map V.int).length 0 (some ((1 : Nat) : Int)) = 0 := h
  rw [HT.sIx_nat, List.length_map] at h2
  cases fs with
  | nil => rfl
  | cons a r => rw [List.length_cons] at h2; omega
def spLimits (K : PySem.W.Frag) : Sp := fun vs H Q _ => ∃ (hv : V) (b : Addr) (s : Int) (fs ns : List Int), vs = [hv, .ref b] ∧ Dp K H hv (hallD s fs) ∧ SqT K H b (ns.map V.int) ∧ ns.length = fs.length ∧ ns.length ≤ 100 ∧ ∀ H', Ex H H' → Q (.bl (limOk s ns)) H'
def spPlain (K : PySem.W.Frag) : Sp := fun vs H Q _ => ∃ (hv v : V) (s : Int) (fs ns : List Int) (x : Str), vs = [hv, v] ∧ Dp K H hv (hallD s fs) ∧ Dp K H v (Rl.pl x ns).d ∧ ns.length = fs.length ∧ ns.length ≤ 100 ∧ ∀ H', Ex H H' → Q (.bl (plOk s x ns)) H'
def spWord (K : PySem.W.Frag) : Sp := fun vs H Q _ => ∃ (hv v : V) (out : Bool), vs = [hv, v, .bl out] ∧ ((∃ (s : Int) (fs : List Int) (r : Rl), Dp K H hv (hallD s fs) ∧ fs.length ≤ 100 ∧ Dp K H v r.d ∧ r.Wf fs.length ∧ r.size ≤ 40 ∧ ∀ H', Ex H H' → Q (.bl (r.word s out)) H') ∨ (Odd K H v ∧ ∀ H', Ex H H' → Q (.bl false) H'))
def partV : Rl → List V
  | .pl _ _ => []
  | .cb _ _ _ => [.int 1, .int 2]
  | .ou _ _ => [.int 1]
def spParts (K : PySem.W.Frag) : Sp := fun vs H Q _ => ∃ (v : V) (nf : Nat) (r : Rl), vs = [v] ∧ Dp K H v r.d ∧ r.Wf nf ∧ ∀ H' p, Ex H H' → H p = none → H' p = some (.lst (partV r)) → Q (.ref p) H'
section
variable {w : World} {K : PySem.W.Frag} {mg : Str → Option Value} {base : Heap}
abbrev nAre_limits : List Str := ["hall", "value", "limit"]
theorem scAre_limits : FnScope nAre_limits ["hall", "value"] (defScope (top 27)) := ⟨rfl, rfl, rfl, by decide +kernel, rfl, by decide +kernel, by decide +kernel⟩
theorem ok_are_limits (T : Txt K mg) : FnOk PR w K mg base CX0 2 (ga K "are_limits") (fdOf K "are_limits") ["hall", "value"] (spLimits K) := by
  refine T.dare_limits.F.ok scAre_limits (fun vs H Q E h => ?_) (fun cdv A outer s H vs Q E hr h => ?_)
  · obtain ⟨hv, b, s, fs, ns, rfl, _⟩ := h
    rfl
  refine ⟨_, (pss_cons (ps_if (PW.pt (pw_or (pt_not (pt_val (pe_isi (T := "tuple") (pv 1) T.f_isinstance T.f_tuple (by decide +kernel)))) (pw_or1 (pt_cmpR op_ne (pe_callB call_len rfl T.f_len (by decide +kernel) (pa_cons (pv 1) pa_nil)) (pe_callB call_len rfl T.f_len (by decide +kernel) (pa_cons (pe_ix ix_tup (pv 0) pe_int (fun _ _ => rfl)) pa_nil)) (nomark _)))))
      (pss_one (ps_ret pe_bl))
      pss_nil)
    (pss_one (ps_ret (pe_callB (cr_all rfl) rfl T.f_all (by decide +kernel) (pa_cons (pe_lc (own := [("limit", 2)]) (g := gName 2) (tt := tYes) rfl scAre_limits.nd (pi_tup (pv 1)) (blkOk_by (N := nAre_limits) (sc := defScope (top 27)) (by decide +kernel)) (fun _ _ _ _ _ => pg_name (i := 2) scAre_limits.nd rfl (Or.inl rfl)) (fun _ _ _ _ _ => pts_nil) (fun _ _ _ _ _ => (pe_call (ok_is_whole T) (hr.mono (by decide)) rfl T.dis_whole.g T.dis_whole.kp (bdis_whole T) .nil pass0 (pa_cons (pv 2) (pa_cons pe_int (pa_cons (pe_ix (r := rIxT K) ix_tup (pv 0) pe_int (fun _ _ => rfl)) pa_nil)))))) pa_nil))))), ?_⟩
  obtain ⟨hv, b, sz, fs, ns, rfl, dh, hN, hl, hl2, q⟩ := h
  obtain ⟨a, c, rfl, hS, hF⟩ := hall_in dh
  refine ⟨_, rfl, _, _, _, _, true, rfl, .ty _, ty_tup hN, kit_ty (by decide +kernel), _, rfl, iteF ?_⟩
  refine ⟨_, rfl, _, _, rfl, .inr ⟨_, hN, rfl⟩, _, rfl, _, _, _, _, rfl, rfl, hS, rfl, _, _, rfl, .inr ⟨_, hF, rfl⟩, rfl, _, rfl, iteNS (by rw [List.length_map, List.length_map, hl]) ?_⟩
  refine ⟨_, rfl, _, rfl, ⟨_, hN⟩, fun D hD => lc_map walk_tup (ns.map fun f => V.bl (decide (0 ≤ f) && decide (f ≤ sz))) (by simp) (by rw [List.length_map]; omega) hD (fun H' e => ex_t e hN) (fun i x H1 H2 y k hy e hY hk => ?_) (fun H1 e1 hD1 => ?_)⟩
  · obtain ⟨rfl, hx⟩ := hY
    obtain ⟨n, hn, rfl⟩ := get_int hx
    obtain rfl := get_map hn hy
    exact ⟨rfl, _, rfl, _, rfl, _, _, _, _, rfl, rfl, ex_t e hS, rfl, _, _, _, rfl, hk _ (Ex.refl _)⟩
  · refine ⟨_, ns.map fun f => decide (0 ≤ f) && decide (f ≤ sz), rfl, SqL.of (by rw [hD1, List.map_map] <;> rfl), ?_⟩
    have e2 : ((ns.map fun f => decide (0 ≤ f) && decide (f ≤ sz)).all id) = limOk sz ns := by rw [List.all_map] <;> rfl
    rw [e2]
    exact q _ e1
abbrev nIs_plain : List Str := ["hall", "value", "one", "other"]
theorem scIs_plain : FnScope nIs_plain ["hall", "value"] (defScope (top 28)) := ⟨rfl, rfl, rfl, by decide +kernel, rfl, by decide +kernel, by decide +kernel⟩
theorem ok_is_plain (T : Txt K mg) : FnOk PR w K mg base CX0 3 (ga K "is_plain") (fdOf K "is_plain") ["hall", "value"] (spPlain K) := by
  refine T.dis_plain.F.ok scIs_plain (fun vs H Q E h => ?_) (fun cdv A outer s H vs Q E hr h => ?_)
  · obtain ⟨hv, v, s, fs, ns, x, rfl, _⟩ := h
    rfl
  refine ⟨_, (pss_cons (ps_if (PW.pt (pw_or (pt_cmpR op_ne (pe_callB call_len rfl T.f_len (by decide +kernel) (pa_cons (pv 1) pa_nil)) pe_int (nomark _)) (pw_or1 (pt_not (pt_val (pe_call (ok_are_limits T) (hr.mono (by decide)) rfl T.dare_limits.g T.dare_limits.kp (bdare_limits T) .nil pass0 (pa_cons (pv 0) (pa_cons (pe_ix ix_tup (pv 1) pe_int (fun _ _ => rfl)) pa_nil))))))))
      (pss_one (ps_ret pe_bl))
      pss_nil)
    (pss_one (ps_ret (pe_or (pe_cmpR op_ne (pe_ix ix_tup (pv 1) pe_int (fun _ _ => rfl)) (pe_gS T.NESTED) (nomark _)) (pe_one (pe_callB (cr_all rfl) rfl T.f_all (by decide +kernel) (pa_cons (pe_lc (own := [("one", 2), ("other", 3)]) (g := gTup K 2 (gCons (gName 2) (gCons (gName 3) gNil))) (tt := tYes) rfl scIs_plain.nd (RZ.pi_zipA rfl T.f_zip (pa_cons (pe_ix ix_tup (pv 1) pe_int (fun _ _ => rfl)) (pa_cons (pe_slice sl_tupA (pe_ix ix_tup (pv 1) pe_int (fun _ _ => rfl)) (po_some pe_int) po_none) pa_nil))) (blkOk_by (N := nIs_plain) (sc := defScope (top 28)) (by decide +kernel)) (fun _ _ _ _ _ => pg_tup rfl (pgs_cons (pg_name (i := 2) scIs_plain.nd rfl (Or.inl rfl)) (pgs_cons (pg_name (i := 3) scIs_plain.nd rfl (Or.inl rfl)) pgs_nil))) (fun _ _ _ _ _ => pts_nil) (fun _ _ _ _ _ => (pe_cmpR op_le (pv 2) (pv 3) (nomark _)))) pa_nil))))))), ?_⟩
  obtain ⟨hv, v, sz, fs, ns, x, rfl, dh, dv, hl, hl2, q⟩ := h
  obtain ⟨a, xs, rfl, hS, hA⟩ := dp_tup dv
  obtain ⟨v1, r1, rfl, d1, hA⟩ := da_cons hA
  obtain ⟨v2, r2, rfl, d2, hA⟩ := da_cons hA
  obtain rfl := da_nil hA
  obtain rfl := dp_str d1
  obtain ⟨b, rfl, hN⟩ := dp_ints d2
  refine ⟨_, rfl, _, _, rfl, .inr ⟨_, hS, rfl⟩, rfl, _, rfl, iteNS rfl ?_⟩
  refine ⟨_, rfl, _, rfl, _, _, _, _, rfl, rfl, hS, rfl, _, b, sz, fs, ns, rfl, dh, hN, hl, hl2, fun H1 e1 => ⟨_, rfl, ?_⟩⟩
  have hS1 := ex_t e1 hS
  have hN1 := ex_t e1 hN
  refine ite2B (fun hb => ?_) (fun hb => ?_)
  · have h0 : limOk sz ns = false := by
      cases hc : limOk sz ns with
      | false => rfl
      | true => rw [hc] at hb; cases hb
    have h1 : plOk sz x ns = false := by unfold plOk; rw [h0, Bool.false_and]
    have q1 := q _ e1
    rw [h1] at q1
    exact q1
  have h0 : limOk sz ns = true := by
    cases hc : limOk sz ns with
    | true => rfl
    | false => rw [hc] at hb; cases hb
  refine ⟨_, rfl, _, _, _, _, rfl, rfl, hS1, rfl, rfl, _, rfl, ?_⟩
  have ed : decide (V.str x = V.str "nested") = decide (x = "nested") := by
    by_cases hx : x = "nested"
    · rw [hx]
      rfl
    · rw [decide_eq_false hx, decide_eq_false (fun z => hx (V.str.inj z))]
  refine ite2B (fun hb => ?_) (fun hb => ?_)
  · rw [ed] at hb
    have h1 : plOk sz x ns = true := by unfold plOk; rw [h0, hb] <;> rfl
    have q1 := q _ e1
    rw [h1] at q1
    exact q1
  rw [ed] at hb
  have h1 : plOk sz x ns = leI ns := by unfold plOk; rw [h0, hb] <;> rfl
  rw [h1] at q
  refine ⟨_, rfl, _, _, _, _, rfl, rfl, hS1, rfl, _, rfl, _, _, _, _, rfl, rfl, hS1, rfl, _, rfl, _, _, rfl, hN1, fun z => ?_, fun _ p hp => ?_⟩
  · have en := cut1_whole z.1
    subst en
    refine ⟨_, _, _, _, rfl, .inr ⟨hN1, hN1, fun D2 hD2 => lc_map (n := 0) (walk_zipT rfl) [] rfl (by decide) hD2 (fun H' e => ⟨ex_t e hN1, ex_t e hN1⟩) (fun i x H3 H4 y k hy e hY hk => by simp at hy) (fun H3 e3 hD3 => ?_)⟩⟩
    exact ⟨_, [], rfl, SqL.of hD3, q _ (e1.trans e3)⟩
  rw [cut1]
  have hN2 := ex_t (Ex.new (o := .tup (ns.tail.map V.int)) hp) hN1
  have hT2 : SqT K (upd H1 p (.tup (ns.tail.map V.int))) p (ns.tail.map V.int) := SqT.of upd_same
  refine ⟨_, _, _, _, rfl, .inr ⟨hN2, hT2, fun D2 hD2 => lc_map (n := ns.tail.length) (walk_zipT (by rw [List.length_map, List.length_map, List.length_tail]; omega)) ((ns.zip ns.tail).map fun p => V.bl (decide (p.1 ≤ p.2))) (by rw [List.length_map, List.length_zip, List.length_tail]; omega) (by rw [List.length_tail]; omega) hD2 (fun H' e => ⟨ex_t e hN2, ex_t e hT2⟩) (fun i x H3 H4 y k hy e hY hk => ?_) (fun H3 e3 hD3 => ?_)⟩⟩
  · obtain ⟨T2, u1, u2, rfl, hT, rfl, hu1, hu2⟩ := hY
    obtain ⟨n1, hn1, rfl⟩ := get_int hu1
    obtain ⟨n2, hn2, rfl⟩ := get_int hu2
    have hz : (ns.zip ns.tail)[i]? = some (n1, n2) := List.getElem?_zip_eq_some.mpr ⟨hn1, hn2⟩
    obtain rfl := get_map hz hy
    exact ⟨_, _, rfl, SqT.of upd_same, rfl, _, _, rfl, _, _, rfl, rfl, rfl, _, rfl, _, rfl, _, _, rfl, rfl, hk _ (Ex.new hT)⟩
  refine ⟨_, (ns.zip ns.tail).map fun p => decide (p.1 ≤ p.2), rfl, SqL.of (by rw [hD3, List.map_map] <;> rfl), ?_⟩
  rw [leI_all]
  exact q _ ((e1.trans (Ex.new hp)).trans e3)
abbrev nIs_word : List Str := ["hall", "value", "is_outside"]
theorem scIs_word : FnScope nIs_word ["hall", "value", "is_outside"] (defScope (top 29)) := ⟨rfl, rfl, rfl, by decide +kernel, rfl, by decide +kernel, by decide +kernel⟩
theorem ok_is_word (T : Txt K mg) : FnOk PR w K mg base CX0 4 (ga K "is_word") (fdOf K "is_word") ["hall", "value", "is_outside"] (spWord K) := by
  refine T.dis_word.F.ok scIs_word (fun vs H Q E h => ?_) (fun cdv A outer s H vs Q E hr h => ?_)
  · obtain ⟨hv, v, out, rfl, _⟩ := h
    rfl
  refine ⟨_, (pss_cons (ps_if (PW.pt (pw_or (pt_not (pt_val (pe_isi (T := "tuple") (pv 1) T.f_isinstance T.f_tuple (by decide +kernel)))) (pw_or (pt_cmpR (op_eqD hr.units) (pv 1) (pe_tup pa_nil) (nomark _)) (pw_or1 (pt_not (pt_val (pe_isi (T := "str") (pe_ix ix_tup (pv 1) pe_int (fun _ _ => rfl)) T.f_isinstance T.f_str (by decide +kernel))))))))
      (pss_one (ps_ret pe_bl))
      pss_nil)
    (pss_cons (ps_if (pt_cmpR op_in_seq (pe_ix ix_tup (pv 1) pe_int (fun _ _ => rfl)) (pe_tup (pa_cons (pe_gS T.APART) (pa_cons (pe_gS T.NESTED) (pa_cons (pe_gS T.KEPT) pa_nil)))) rfl)
      (pss_one (ps_ret (pe_call (ok_is_plain T) (hr.mono (by decide)) rfl T.dis_plain.g T.dis_plain.kp (bdis_plain T) .nil pass0 (pa_cons (pv 0) (pa_cons (pv 1) pa_nil)))))
      pss_nil)
    (pss_cons (ps_if (pt_cmpR op_in_seq (pe_ix ix_tup (pv 1) pe_int (fun _ _ => rfl)) (pe_tup (pa_cons (pe_gS T.ALL) (pa_cons (pe_gS T.ANY) pa_nil))) rfl)
      (pss_one (ps_ret (pe_cmpR op_eq (pe_callB call_len rfl T.f_len (by decide +kernel) (pa_cons (pv 1) pa_nil)) pe_int (nomark _))))
      pss_nil)
    (pss_one (ps_ret (pe_and (pe_cmpR op_eq (pe_ix ix_tup (pv 1) pe_int (fun _ _ => rfl)) (pe_gS T.OUST) (nomark _)) (pe_and (pv 2) (pe_and (pe_cmpR op_eq (pe_callB call_len rfl T.f_len (by decide +kernel) (pa_cons (pv 1) pa_nil)) pe_int (nomark _)) (pe_one (pe_call (ok_is_whole T) (hr.mono (by decide)) rfl T.dis_whole.g T.dis_whole.kp (bdis_whole T) .nil pass0 (pa_cons (pe_ix ix_tup (pv 1) pe_int (fun _ _ => rfl)) (pa_cons pe_int (pa_cons (pe_gI T.MOST_FEE) pa_nil))))))))))))), ?_⟩
  obtain ⟨hv, v, out, rfl, h⟩ := h
  rcases h with ⟨sz, fs, r, dh, hl, dv, wf, hz, q⟩ | ⟨odd, q⟩
  · obtain ⟨ds, er⟩ : ∃ ds, r.d = .tuple ds := by cases r <;> exact ⟨_, rfl⟩
    have hsh : SeqAt.shaped r.d = true := by
      unfold SeqAt.shaped
      rw [Rl.canLay wf, Bool.true_and]
      exact decide_eq_true (by have := Rl.depth r; omega)
    obtain ⟨a, xs, rfl, hS, hA⟩ := dp_tup (er ▸ dv)
    obtain ⟨x, d2, er2⟩ : ∃ x d2, ds = .str x :: d2 := by cases r <;> (cases er; exact ⟨_, _, rfl⟩)
    obtain ⟨v1, r1, rfl, d1, hA⟩ := da_cons (er2 ▸ hA)
    obtain rfl := dp_str d1
    refine ⟨_, rfl, _, _, _, _, true, rfl, .ty _, ty_tup hS, kit_ty (by decide +kernel), _, rfl, iteF ?_⟩
    refine ⟨_, rfl, by decide, fun p hp => ⟨_, _, Dp.ex (Ex.new hp) dv, tup_new hp .nil, hsh, by decide +kernel, _, rfl, ?_⟩⟩
    have hne : PyData.eqv r.d (.tuple []) = false := by
      rw [er, er2]
      simp [PyData.eqv, PyData.eqvAll]
    refine iteB0 hne ?_
    have e1 := Ex.new (o := .tup []) hp
    have hS1 := ex_t e1 hS
    refine ⟨_, rfl, _, _, _, _, rfl, rfl, hS1, atI_nat (j := 0) rfl, _, _, _, _, true, rfl, .ty _, .base (.str x), kit_ty (by decide +kernel), _, rfl, iteF ?_⟩
    refine ⟨_, rfl, _, _, _, _, rfl, rfl, hS1, atI_nat (j := 0) rfl, by decide, fun p2 hp2 => ⟨_, _, rfl, .inr (SqT.of upd_same), rfl, rfl, _, rfl, ?_⟩⟩
    have e2 := e1.trans (Ex.new (o := .tup [.str "apart", .str "nested", .str "kept"]) hp2)
    have ein := inV_str x ["apart", "nested", "kept"]
    show (if inV (.str x) ((["apart", "nested", "kept"] : List Str).map V.str) = true then _ else _)
    rw [ein]
    cases r with
    | pl x' ns =>
      cases er
      cases er2
      obtain ⟨wf1, wf2, wf3⟩ := wf
      refine iteB (decide_eq_true wf1) ?_
      exact ⟨_, rfl, _, rfl, hv, _, sz, fs, ns, x, rfl, Dp.ex e2 dh, Dp.ex e2 dv, wf2, by omega, fun H' e => q _ (e2.trans e)⟩
    | cb x' ra rb =>
      cases er
      cases er2
      obtain ⟨wf1, wf2, wf3⟩ := wf
      have hn : x ∉ (["apart", "nested", "kept"] : List Str) := by
        have : ∀ x ∈ cbW, x ∉ (["apart", "nested", "kept"] : List Str) := by decide +kernel
        exact this x wf1
      refine iteB0 (decide_eq_false hn) ?_
      have hS2 := ex_t e2 hS
      refine ⟨_, rfl, _, _, _, _, rfl, rfl, hS2, atI_nat (j := 0) rfl, by decide, fun p3 hp3 => ⟨_, _, rfl, .inr (SqT.of upd_same), rfl, rfl, _, rfl, ?_⟩⟩
      have ein2 := inV_str x ["all", "any"]
      show (if inV (.str x) ((["all", "any"] : List Str).map V.str) = true then _ else _)
      rw [ein2]
      have e3 := e2.trans (Ex.new (o := .tup [.str "all", .str "any"]) hp3)
      obtain ⟨v2, r2, rfl, _, hA⟩ := da_cons hA
      obtain ⟨v3, r3, rfl, _, hA⟩ := da_cons hA
      obtain rfl := da_nil hA
      exact iteB (decide_eq_true wf1) ⟨_, rfl, _, _, rfl, .inr ⟨_, ex_t e3 hS, rfl⟩, rfl, q _ e3⟩
    | ou ra fee =>
      cases er
      cases er2
      refine iteB0 (by decide +kernel) ?_
      have hS2 := ex_t e2 hS
      refine ⟨_, rfl, _, _, _, _, rfl, rfl, hS2, atI_nat (j := 0) rfl, by decide, fun p3 hp3 => ⟨_, _, rfl, .inr (SqT.of upd_same), rfl, rfl, _, rfl, ?_⟩⟩
      have ein2 := inV_str "oust" ["all", "any"]
      show (if inV (.str "oust") ((["all", "any"] : List Str).map V.str) = true then _ else _)
      rw [ein2]
      have e3 := e2.trans (Ex.new (o := .tup [.str "all", .str "any"]) hp3)
      have hS3 := ex_t e3 hS
      refine iteB0 (by decide +kernel) ?_
      obtain ⟨v2, r2, rfl, _, hA⟩ := da_cons hA
      obtain ⟨v3, r3, rfl, d3, hA3⟩ := da_cons hA
      obtain rfl := da_nil hA3
      obtain rfl := dp_int d3
      refine ⟨_, rfl, _, _, _, _, rfl, rfl, hS3, rfl, rfl, _, rfl, iteT ⟨_, rfl, _, rfl, ?_⟩⟩
      cases out with
      | false => exact iteF (q _ e3)
      | true =>
        refine iteT ⟨_, rfl, _, _, rfl, .inr ⟨_, hS3, rfl⟩, rfl, _, rfl, iteT ?_⟩
        exact ⟨_, rfl, _, _, _, _, rfl, rfl, hS3, rfl, _, _, _, rfl, q _ e3⟩
  · rcases odd with rfl | ⟨i, rfl⟩ | ⟨b, rfl⟩ | ⟨a, rfl, hS⟩ | ⟨a, rfl, hS⟩
    · exact ⟨_, rfl, _, _, _, _, false, rfl, .ty _, .base .non, kit_ty (by decide +kernel), _, rfl, iteT (iteT (q _ (Ex.refl _)))⟩
    · exact ⟨_, rfl, _, _, _, _, false, rfl, .ty _, .base (.int i), kit_ty (by decide +kernel), _, rfl, iteT (iteT (q _ (Ex.refl _)))⟩
    · exact ⟨_, rfl, _, _, _, _, false, rfl, .ty _, .base (.bl b), kit_ty (by decide +kernel), _, rfl, iteT (iteT (q _ (Ex.refl _)))⟩
    · refine ⟨_, rfl, _, _, _, _, true, rfl, .ty _, ty_tup hS, kit_ty (by decide +kernel), _, rfl, iteF ?_⟩
      exact ⟨_, rfl, by decide, fun p hp => ⟨_, _, .tup (ex_t (Ex.new hp) hS) .nil, tup_new hp .nil, by decide +kernel, by decide +kernel, _, rfl, iteB (by simp [PyData.eqv, PyData.eqvAll]) (iteT (q _ (Ex.new hp)))⟩⟩
    · exact ⟨_, rfl, _, _, _, _, false, rfl, .ty _, ty_lst hS, kit_ty (by decide +kernel), _, rfl, iteT (iteT (q _ (Ex.refl _)))⟩
abbrev nParts_of : List Str := ["rule"]
theorem scParts_of : FnScope nParts_of ["rule"] (defScope (top 30)) := ⟨rfl, rfl, rfl, by decide +kernel, rfl, by decide +kernel, by decide +kernel⟩
theorem ok_parts_of (T : Txt K mg) : FnOk PR w K mg base CX0 1 (ga K "parts_of") (fdOf K "parts_of") ["rule"] (spParts K) := by
  refine T.dparts_of.F.ok scParts_of (fun vs H Q E h => ?_) (fun cdv A outer s H vs Q E hr h => ?_)
  · obtain ⟨v, nf, r, rfl, _⟩ := h
    rfl
  refine ⟨_, (pss_one (ps_ret (pe_ifExp (pt_cmpR op_in_seq (pe_ix ix_tup (pv 0) pe_int (fun _ _ => rfl)) (pe_tup (pa_cons (pe_gS T.ALL) (pa_cons (pe_gS T.ANY) pa_nil))) rfl) (pe_lst (pa_cons pe_int (pa_cons pe_int pa_nil))) (pe_ifExp (pt_cmpR op_eq (pe_ix ix_tup (pv 0) pe_int (fun _ _ => rfl)) (pe_gS T.OUST) (nomark _)) (pe_lst (pa_cons pe_int pa_nil)) (pe_lst pa_nil))))), ?_⟩
  obtain ⟨v, nf, r, rfl, dv, wf, q⟩ := h
  obtain ⟨ds, er⟩ : ∃ ds, r.d = .tuple ds := by cases r <;> exact ⟨_, rfl⟩
  obtain ⟨a, xs, rfl, hS, hA⟩ := dp_tup (er ▸ dv)
  obtain ⟨x, d2, er2⟩ : ∃ x d2, ds = .str x :: d2 := by cases r <;> (cases er; exact ⟨_, _, rfl⟩)
  obtain ⟨v1, r1, rfl, d1, hA⟩ := da_cons (er2 ▸ hA)
  obtain rfl := dp_str d1
  refine ⟨_, rfl, _, _, _, _, rfl, rfl, hS, atI_nat (j := 0) rfl, by decide, fun p2 hp2 => ⟨_, _, rfl, .inr (SqT.of upd_same), rfl, rfl, _, rfl, ?_⟩⟩
  have e2 := Ex.new (o := .tup [.str "all", .str "any"]) hp2
  have hS2 := ex_t e2 hS
  have ein := inV_str x ["all", "any"]
  show (if inV (.str x) ((["all", "any"] : List Str).map V.str) = true then _ else _)
  rw [ein]
  have fin : ∀ {xs : List V}, partV r = xs → ∀ p, upd H p2 (.tup [.str "all", .str "any"]) p = none → Q (.ref p) (upd (upd H p2 (.tup [.str "all", .str "any"])) p (.lst xs)) := fun {xs} exs p hp =>
    q _ p (e2.trans (Ex.new hp)) (fresh_back e2 hp) (by rw [upd_same, exs])
  cases r with
  | pl x' ns =>
    cases er
    cases er2
    obtain ⟨wf1, wf2, wf3⟩ := wf
    have hn : ∀ x ∈ plW, x ∉ (["all", "any"] : List Str) := by decide +kernel
    have hn2 : ∀ x ∈ plW, x ≠ ("oust" : Str) := by decide +kernel
    refine iteB0 (decide_eq_false (hn x wf1)) ?_
    refine ⟨_, rfl, _, _, _, _, rfl, rfl, hS2, atI_nat (j := 0) rfl, rfl, _, rfl, iteB0 (decide_eq_false fun z => hn2 x wf1 (V.str.inj z)) ?_⟩
    exact ⟨by decide, fin rfl⟩
  | cb x' ra rb =>
    cases er
    cases er2
    exact iteB (decide_eq_true wf.1) ⟨by decide, fin rfl⟩
  | ou ra fee =>
    cases er
    cases er2
    refine iteB0 (by decide +kernel) ?_
    exact ⟨_, rfl, _, _, _, _, rfl, rfl, hS2, atI_nat (j := 0) rfl, rfl, _, rfl, iteB (by decide +kernel) ⟨by decide, fin rfl⟩⟩
end
end K95

set_option Elab.async false
set_option linter.all false
set_option maxRecDepth 100000
set_option maxHeartbeats 4000000
namespace K95
open PySem PySem.Spec PyProof.Rows L2
open Evl (Ex ex_l ex_t fresh_back)
theorem Odd.ex {K : PySem.W.Frag} {H H' : Hp} {v : V} (e : Ex H H') (o : Odd K H v) : Odd K H' v := by
  rcases o with rfl | ⟨i, rfl⟩ | ⟨b, rfl⟩ | ⟨a, rfl, hS⟩ | ⟨a, rfl, hS⟩
  · exact .inl rfl
  · exact .inr (.inl ⟨i, rfl⟩)
  · exact .inr (.inr (.inl ⟨b, rfl⟩))
  · exact .inr (.inr (.inr (.inl ⟨a, rfl, ex_t e hS⟩)))
  · exact .inr (.inr (.inr (.inr ⟨a, rfl, ex_l e hS⟩)))
/-- the data of what is no pair -/
theorem Odd.data {K : PySem.W.Frag} {H : Hp} {v : V} (o : Odd K H v) : ∃ d, Dp K H v d ∧ d.canLay0 = true ∧ d.depth ≤ 1 := by
  rcases o with rfl | ⟨i, rfl⟩ | ⟨b, rfl⟩ | ⟨a, rfl, hS⟩ | ⟨a, rfl, hS⟩
  · exact ⟨_, .non, by decide +kernel, by decide +kernel⟩
  · exact ⟨_, .int i, by simp [PyData.canLay0], by simp [PyData.depth]⟩
  · exact ⟨_, .bl b, by simp [PyData.canLay0], by simp [PyData.depth]⟩
  · exact ⟨_, .tup hS .nil, by decide +kernel, by decide +kernel⟩
  · exact ⟨_, .lst hS (.cons (.str _) .nil), by decide +kernel, by decide +kernel⟩
/-- the error BadRule(path), its path a tuple of the ints p -/
def ErrP (K : PySem.W.Frag) (H : Hp) (E : XK) (p : List Int) : Prop := ∀ H' d pa, Ex H H' → SqT K H' pa (p.map V.int) → H' d = some (xdOf ["path"] [.ref pa]) → E (.ref (ga K "BadRule")) (some d) H'
/-- what need_rule's answer is to be -/
def ruleEnd (K : PySem.W.Frag) (H : Hp) (Q : VK) (E : XK) (v : V) : Option (List Int) → Prop
  | none => ∀ H', Ex H H' → Q v H'
  | some p => ErrP K H E p
def spRule (K : PySem.W.Frag) : Sp := fun vs H Q E => ∃ hv v, vs = [hv, v] ∧
  ((∃ (s : Int) (fs : List Int) (r : Rl), HallOk s fs ∧ Dp K H hv (hallD s fs) ∧ Dp K H v r.d ∧ r.Wf fs.length ∧ r.size ≤ 7 ∧ ruleEnd K H Q E v (bad s r)) ∨
    (∃ (s : Int) (fs : List Int), HallOk s fs ∧ Dp K H hv (hallD s fs) ∧ Odd K H v ∧ ErrP K H E []) ∨ (Odd K H hv ∧ Err K H E "BadHall" ["part"] [.str "form"]))
def itemD (q : Rl × List Int) : PyData := .tuple [q.1.d, .tuple (dIs q.2)]
theorem items_shape {nf : Nat} : ∀ (st : List (Rl × List Int)), (∀ q ∈ st, q.1.Wf nf) → PyData.canLayAll0 (st.map itemD) = true ∧ PyData.depthAll (st.map itemD) ≤ sizes st + 2
  | [], _ => by simp [PyData.canLayAll0, PyData.depthAll]
  | q :: st, h => by
    obtain ⟨h1, h2⟩ := items_shape st fun p hp => h p (List.mem_cons_of_mem _ hp)
    have hq := Rl.canLay (h q List.mem_cons_self)
    have hd := Rl.depth q.1
    rw [sizes_cons]
    refine ⟨?_, ?_⟩
    · simp only [List.map_cons, PyData.canLayAll0, h1, itemD, PyData.canLay0, hq, canLay_ints, Bool.and_self]
    · simp only [List.map_cons, PyData.depthAll, itemD, PyData.depth, depth_ints]
      omega
theorem items_noL : ∀ (st : List (Rl × List Int)), noLs (st.map itemD) = true
  | [] => rfl
  | q :: st => by
    show (noL (itemD q) && noLs (st.map itemD)) = true
    rw [items_noL st, Bool.and_true]
    have := Rl.noL q.1
    have h2 := noLs_ints q.2
    simp only [itemD, noL, noLs, this, h2, Bool.and_self]
theorem eqv_path (p : List Int) : PyData.eqv (.tuple (dIs p)) (.tuple []) = decide (p = []) := by
  cases p <;> simp [PyData.eqv, PyData.eqvAll]
theorem kids_items (r : Rl) (p : List Int) : (r.kids p).reverse.map itemD = (match r with | .pl _ _ => [] | .cb _ a b => [itemD (b, p ++ [2]), itemD (a, p ++ [1])] | .ou a _ => [itemD (a, p ++ [1])]) := by
  cases r <;> rfl
theorem eqv_nil (ds : List PyData) : PyData.eqv (.list ds) (.list []) = ds.isEmpty := by
  cases ds <;> simp [PyData.eqv, PyData.eqvAll]
theorem kids_at {K : PySem.W.Frag} {H : Hp} {v : V} {r : Rl} {p : List Int} (h : Dp K H v r.d) : ∃ a xs, v = .ref a ∧ SqT K H a xs ∧ (r.kids p).length = (partV r).length ∧
    ∀ (i : Nat) (z : V), (partV r).reverse[i]? = some z → ∃ (j : Int) (kd : Rl × List Int) (vk : V), z = .int j ∧ (r.kids p).reverse[i]? = some kd ∧ kd.2 = p ++ [j] ∧ atI xs j = some vk ∧ Dp K H vk kd.1.d := by
  cases r with
  | pl x ns =>
    obtain ⟨a, xs, rfl, hS, hA⟩ := dp_tup h
    exact ⟨a, xs, rfl, hS, rfl, fun i z e => by simp [partV] at e⟩
  | cb x ra rb =>
    obtain ⟨a, xs, rfl, hS, hA⟩ := dp_tup h
    obtain ⟨v1, r1, rfl, d1, hA⟩ := da_cons hA
    obtain ⟨v2, r2, rfl, d2, hA⟩ := da_cons hA
    obtain ⟨v3, r3, rfl, d3, hA⟩ := da_cons hA
    obtain rfl := da_nil hA
    refine ⟨a, _, rfl, hS, rfl, fun i z e => ?_⟩
    match i, e with
    | 0, e =>
      have e2 : V.int 2 = z := by simpa [partV] using e
      exact ⟨2, (rb, p ++ [2]), v3, e2.symm, rfl, rfl, rfl, d3⟩
    | 1, e =>
      have e2 : V.int 1 = z := by simpa [partV] using e
      exact ⟨1, (ra, p ++ [1]), v2, e2.symm, rfl, rfl, rfl, d2⟩
    | i + 2, e => simp [partV] at e
  | ou ra fee =>
    obtain ⟨a, xs, rfl, hS, hA⟩ := dp_tup h
    obtain ⟨v1, r1, rfl, d1, hA⟩ := da_cons hA
    obtain ⟨v2, r2, rfl, d2, hA⟩ := da_cons hA
    obtain ⟨v3, r3, rfl, d3, hA⟩ := da_cons hA
    obtain rfl := da_nil hA
    refine ⟨a, _, rfl, hS, rfl, fun i z e => ?_⟩
    match i, e with
    | 0, e =>
      have e2 : V.int 1 = z := by simpa [partV] using e
      exact ⟨1, (ra, p ++ [1]), v2, e2.symm, rfl, rfl, rfl, d2⟩
    | i + 1, e => simp [partV] at e
section
variable {w : World} {K : PySem.W.Frag} {mg : Str → Option Value} {base : Heap}
abbrev nNeed_rule : List Str := ["hall", "rule", "waiting", "many", "here", "path", "spot"]
theorem scNeed_rule : FnScope nNeed_rule ["hall", "rule"] (defScope (top 31)) := ⟨rfl, rfl, rfl, by decide +kernel, rfl, by decide +kernel, by decide +kernel⟩
theorem ok_need_rule (T : Txt K mg) : FnOk PR w K mg base (L2.CX PR w) 6 (ga K "need_rule") (fdOf K "need_rule") ["hall", "rule"] (spRule K) := by
  refine T.dneed_rule.F.ok scNeed_rule (fun vs H Q E h => ?_) (fun cdv A outer s H vs Q E hr h => ?_)
  · obtain ⟨hv, v, rfl, _⟩ := h
    rfl
  refine ⟨_, (pss_cons (ps_expr (pe_call (ok_need_hall T) (hr.mono (by decide)) rfl T.dneed_hall.g T.dneed_hall.kp (bdneed_hall T) .nil (passes_call (takes_of rfl rfl rfl rfl) (fun _ _ _ _ h => h)) (pa_cons (pv 0) pa_nil)))
    (pss_cons (ps_par (i := 2) (j := 3) rfl scNeed_rule.nd rfl rfl (by decide) rfl rfl (pa_cons (pe_lst (pa_cons (pe_tup (pa_cons (pv 1) (pa_cons (pe_tup pa_nil) pa_nil))) pa_nil)) (pa_cons pe_int pa_nil)) rfl)
    (pss_cons (ps_while (passes_of rfl) (pt_cmpR (op_neD hr.units) (pv 2) (pe_lst pa_nil) (nomark _))
      (pss_cons (ps_asg (pe_bm0 PySem.F.plainAttrs_list PySem.F.slot_list_pop PySem.F.type_list_pop mt_pop (pv 2)) (pg_tup rfl (pgs_cons (pg_name (i := 4) scNeed_rule.nd rfl (Or.inr rfl)) (pgs_cons (pg_name (i := 5) scNeed_rule.nd rfl (Or.inr rfl)) pgs_nil))))
      (pss_cons (ps_aug (i := 3) scNeed_rule.nd rfl (Or.inl rfl) pe_int ip_add)
      (pss_cons (ps_if (PW.pt (pw_or (pt_cmpR op_gt (pv 3) (pe_gI T.MOST_WORDS) (nomark _)) (pw_or (pt_cmpR op_gt (pe_callB call_len rfl T.f_len (by decide +kernel) (pa_cons (pv 5) pa_nil)) (pe_gI T.MOST_DEEP) (nomark _)) (pw_or1 (pt_not (pt_val (pe_call (ok_is_word T) (hr.mono (by decide)) rfl T.dis_word.g T.dis_word.kp (bdis_word T) .nil pass0 (pa_cons (pv 0) (pa_cons (pv 4) (pa_cons (pe_cmpR (op_eqD hr.units) (pv 5) (pe_tup pa_nil) (nomark _)) pa_nil))))))))))
        (pss_one (ps_raise rfl (takes_of rfl rfl rfl rfl) (pmk_BadRule T.xRule hr (pa_cons (pv 5) pa_nil))))
        pss_nil)
      (pss_one (ps_expr (pe_bm PySem.F.plainAttrs_list PySem.F.slot_list_extend PySem.F.type_list_extend mt_extend (pv 2) (pa_cons (pe_lc (own := [("spot", 6)]) (g := gName 6) (tt := tYes) rfl scNeed_rule.nd (pi_list (pe_revL (pe_call (ok_parts_of T) (hr.mono (by decide)) rfl T.dparts_of.g T.dparts_of.kp (bdparts_of T) .nil pass0 (pa_cons (pv 4) pa_nil)))) (blkOk_by (N := nNeed_rule) (sc := defScope (top 31)) (by decide +kernel)) (fun _ _ _ _ _ => pg_name (i := 6) scNeed_rule.nd rfl (Or.inl rfl)) (fun _ _ _ _ _ => pts_nil) (fun _ _ _ _ _ => (pe_tup (pa_cons (pe_ix (r := rIxT K) ix_tup (pv 4) (pv 6) (fun _ _ => rfl)) (pa_cons (pe_tup (show PA _ _ (StX.tStar K _ _) from StX.pa_star (pv 5) (pa_cons (pv 6) pa_nil))) pa_nil))))) pa_nil))))))))
    (pss_one (ps_ret (pv 1)))))), ?_⟩
  obtain ⟨hv, v, rfl, h⟩ := h
  rcases h with ⟨sz, fs, r, ok, dh, dv, wf, hz, q⟩ | ⟨sz, fs, ok, dh, odd, q⟩ | ⟨odd, er⟩
  · refine ⟨_, rfl, _, rfl, .inl ⟨sz, fs, ok, dh, fun H1 e1 => ?_⟩⟩
    refine ⟨_, rfl, szc rfl, fun pe hpe => ⟨szc rfl, fun it hit => ⟨szc rfl, fun wa hwa => ⟨_, _, rfl, ?_⟩⟩⟩⟩
    have f1 := Ex.new (o := .tup []) hpe
    have f2 := Ex.new (o := .tup [v, .ref pe]) hit
    have f3 := Ex.new (o := .lst [.ref it]) hwa
    have eA := (((e1.trans f1).trans f2).trans f3)
    have hwa0 : H wa = none := fresh_back (((e1.trans f1).trans f2)) hwa
    have dItem : Dp K (upd (upd (upd H1 pe (.tup [])) it (.tup [v, .ref pe])) wa (.lst [.ref it])) (.ref it) (itemD (r, [])) :=
      Dp.ex f3 (tup_new hit (.cons (Dp.ex (e1.trans f1) dv) (.cons (tup_new hpe .nil) .nil)))
    obtain ⟨W, hW⟩ : ∃ W : Nat → L2.St → Hp → Prop, W = fun m σ H' => ∃ (xs : List V) (st : List (Rl × List Int)) (k : Int) (c4 c5 c6 : Option V), σ = [some hv, some v, some (.ref wa), some (.int k), c4, c5, c6] ∧ Ex H H' ∧ H' wa = some (.lst xs) ∧ DpAll K H' xs (st.reverse.map itemD) ∧
      sizes st ≤ m ∧ 0 ≤ k ∧ k + (sizes st : Int) ≤ 7 ∧ (∀ q ∈ st, q.1.Wf fs.length) ∧ badF sz (m + 1) st = bad sz r := ⟨_, rfl⟩
    refine ⟨W, ⟨7, ?_⟩, ?_⟩
    · rw [hW]
      refine ⟨_, [(r, [])], 0, none, none, none, rfl, eA, upd_same, .cons dItem .nil, ?_, Int.le_refl _, ?_, ?_, rfl⟩
      · rw [sizes_cons]; exact hz
      · rw [sizes_cons]; show (0 : Int) + ((r.size + 0 : Nat) : Int) ≤ 7; omega
      · intro q hq
        rw [List.mem_singleton.mp hq]
        exact wf
    intro m σ H' hw
    rw [hW] at hw
    obtain ⟨xs, st, k, c4, c5, c6, rfl, e, hwl, dX, hm, hk0, hk, hw, hb⟩ := hw
    have hsh : SeqAt.shaped (.list (st.reverse.map itemD)) = true := by
      have hI := items_shape (nf := fs.length) st.reverse (fun q hq => hw q (List.mem_reverse.mp hq))
      unfold SeqAt.shaped
      have hs2 : sizes st.reverse = sizes st := by simp [sizes, List.sum_reverse]
      have h2 : PyData.depth (.list (st.reverse.map itemD)) ≤ 64 := by
        simp only [PyData.depth]
        have := hI.2
        omega
      rw [decide_eq_true h2, Bool.and_true]
      simp only [PyData.canLay0]
      exact hI.1
    refine ⟨_, rfl, by decide, fun p hp => ⟨_, _, Dp.ex (Ex.new hp) (.lst (SqL.of hwl) dX), lst_new hp .nil, hsh, by decide +kernel, _, rfl, ?_⟩⟩
    rw [eqv_nil]
    have g1 := Ex.new (o := .lst []) hp
    cases st with
    | nil =>
      refine iteF ⟨_, rfl, ?_⟩
      have hb2 : none = bad sz r := hb
      rw [← hb2] at q
      exact q _ (e.trans g1)
    | cons it1 st =>
    obtain ⟨r1, p1⟩ := it1
    have hne : (((r1, p1) :: st).reverse.map itemD).isEmpty = false := by simp
    refine iteNB0 hne ⟨W (m - 1), fun σ' H' h => ⟨m - 1, ?_, h⟩, ?_⟩
    · have h1 := Rl.size_pos r1
      rw [sizes_cons] at hm
      have hm' : r1.size + sizes st ≤ m := hm
      omega
    have eH := e.trans g1
    rw [List.reverse_cons, List.map_append] at dX
    obtain ⟨ys, y, rfl, dY, dI⟩ := da_snoc (d := itemD (r1, p1)) (DpAll.ex g1 dX)
    obtain ⟨ai, is, rfl, hI, dI⟩ := dp_tup dI
    obtain ⟨v1, i2, rfl, dv1, dI⟩ := da_cons dI
    obtain ⟨v2, i3, rfl, dp1, dI⟩ := da_cons dI
    obtain rfl := da_nil dI
    obtain ⟨pa, rfl, hP⟩ := dp_ints dp1
    refine ⟨_, rfl, .inl ⟨rfl, _, SqL.of (g1 _ _ hwl)⟩, _, _, .ref ai, rfl, rfl, g1 _ _ hwl, by simp, ?_⟩
    have hwl1 := g1 _ _ hwl
    rw [show (ys ++ [V.ref ai]).dropLast = ys by simp]
    have tx : Tx (upd H' p (.lst [])) (upd (upd H' p (.lst [])) wa (.lst ys)) := Tx.upd (.inr (.inl ⟨_, hwl1⟩))
    have hI2 := tx.sq hI
    have hP2 := tx.sq hP
    have dv2 := Dp.tx tx (Rl.noL r1) dv1
    have dY2 := DpAll.tx tx (items_noL _) dY
    have e2 : Ex H (upd (upd H' p (.lst [])) wa (.lst ys)) := Ex.mut eH hwa0
    have hwl2 : upd (upd H' p (.lst [])) wa (.lst ys) wa = some (.lst ys) := upd_same
    generalize upd (upd H' p (.lst [])) wa (.lst ys) = H2 at *
    refine ⟨_, _, rfl, hI2, rfl, _, _, rfl, _, _, rfl, rfl, ?_⟩
    refine ⟨_, rfl, _, _, rfl, rfl, ?_⟩
    have hsz : sizes ((r1, p1) :: st) = r1.size + sizes st := sizes_cons _ _
    have hpos := Rl.size_pos r1
    have hsz' : sizes ((r1, p1) :: st) = r1.size + sizes st := hsz
    rw [hsz'] at hm hk
    refine ⟨_, rfl, _, _, rfl, rfl, _, rfl, iteB0 (decide_eq_false (show ¬ (7 : Int) < k + 1 by omega)) ?_⟩
    refine ⟨_, rfl, _, _, rfl, .inr ⟨_, hP2, rfl⟩, _, _, rfl, rfl, _, rfl, ?_⟩
    have fin : p1.length > 3 ∨ r1.word sz (decide (p1 = [])) = false → ∀ H3, Ex H2 H3 → ∀ d, H3 d = none → E (.ref (ga K "BadRule")) (some d) (upd H3 d (xdOf ["path"] [.ref pa])) := fun hc H3 e3 d hd => by
      have hb2 : badF sz (m + 1) ((r1, p1) :: st) = some p1 := by
        show (if p1.length > 3 ∨ r1.word sz (decide (p1 = [])) = false then some p1 else _) = some p1
        rw [if_pos hc]
      rw [hb2] at hb
      rw [← hb] at q
      exact q _ d pa ((e2.trans e3).trans (Ex.new hd)) (ex_t (e3.trans (Ex.new hd)) hP2) upd_same
    by_cases hc1 : p1.length > 3
    · refine iteB (decide_eq_true (show (3 : Int) < ((p1.map V.int).length : Int) by rw [List.length_map]; omega)) (iteT ⟨_, rfl, rfl, fin (.inl hc1) _ (Ex.refl _)⟩)
    refine iteB0 (decide_eq_false (show ¬ (3 : Int) < ((p1.map V.int).length : Int) by rw [List.length_map]; omega)) ?_
    have hp1sh : SeqAt.shaped (.tuple (dIs p1)) = true := by
      unfold SeqAt.shaped
      simp only [PyData.canLay0, canLay_ints, PyData.depth, depth_ints, Bool.true_and]
      exact decide_eq_true (by omega)
    refine ⟨_, rfl, _, rfl, _, rfl, szc rfl, fun p3 hp3 => ⟨_, _, Dp.ex (Ex.new hp3) (ints_dp hP2), tup_new hp3 .nil, hp1sh, by decide +kernel, _, _, _, rfl, .inl ⟨sz, fs, r1, Dp.ex (e2.trans (Ex.new hp3)) dh, by have := ok.f4; omega, Dp.ex (Ex.new hp3) dv2, hw _ List.mem_cons_self, by omega, fun H3 e3 => ⟨_, rfl, ?_⟩⟩⟩⟩
    rw [eqv_path]
    have e23 : Ex H2 H3 := (Ex.new hp3).trans e3
    by_cases hc2 : r1.word sz (decide (p1 = [])) = false
    · exact iteNB0 hc2 ⟨_, rfl, rfl, fin (.inr hc2) _ e23⟩
    refine iteNB (by simpa using hc2) ?_
    have hwl3 := e23 _ _ hwl2
    have e3 := e2.trans e23
    have hI3 := ex_t e23 hI2
    have hP3 := ex_t e23 hP2
    have dv3 := Dp.ex e23 dv2
    have dY3 := DpAll.ex e23 dY2
    have hb3 : badF sz m (r1.kids p1 ++ st) = bad sz r := by
      have h1 : badF sz (m + 1) ((r1, p1) :: st) = badF sz m (r1.kids p1 ++ st) := by
        show (if p1.length > 3 ∨ r1.word sz (decide (p1 = [])) = false then some p1 else badF sz m (r1.kids p1 ++ st)) = _
        rw [if_neg (fun z => z.elim hc1 hc2)]
      rw [← h1]
      exact hb
    generalize hH3 : H3 = Hx at *
    refine ⟨_, rfl, .inl ⟨rfl, _, SqL.of hwl3⟩, _, rfl, _, fs.length, r1, rfl, dv3, hw _ List.mem_cons_self, fun H4 pp e4 hpp hlp => ⟨_, _, rfl, SqL.of hlp, fun pr hpr => ⟨_, rfl, ⟨_, SqL.of upd_same⟩, fun D hD => ?_⟩⟩⟩
    obtain ⟨a1, xs1, rfl, hS1, hkl, hkids⟩ := kids_at (p := p1) dv3
    have e34 := e4.trans (Ex.new (o := .lst (partV r1).reverse) hpr)
    have hPl : (partV r1).length ≤ 2 := by cases r1 <;> simp [partV]
    have hkw : ∀ q ∈ r1.kids p1, q.1.Wf fs.length := by
      have h0 := hw (r1, p1) List.mem_cons_self
      cases r1 with
      | pl x ns => intro q hq; cases hq
      | cb x ra rb =>
        intro q hq
        rcases List.mem_cons.mp hq with rfl | hq
        · exact h0.2.1
        · rw [List.mem_singleton.mp hq]
          exact h0.2.2
      | ou ra fee =>
        intro q hq
        rw [List.mem_singleton.mp hq]
        exact h0.1
    refine lc_rel (walk_list (K := K) (xs := (partV r1).reverse)) (fun i y Hy => ∃ (it2 pa2 : Addr) (kd : Rl × List Int) (vk : V), (r1.kids p1).reverse[i]? = some kd ∧ y = .ref it2 ∧ it2 ≠ D ∧ pa2 ≠ D ∧ Hy it2 = some (.tup [vk, .ref pa2]) ∧ Hy pa2 = some (.tup (kd.2.map V.int)) ∧ Dp K Hx vk kd.1.d)
      (by rw [List.length_reverse]; omega) hD (fun Hy ey => ex_l ey (SqL.of upd_same)) (fun i y Hy Hz hy ez => ?_) (fun i z Hy Hz k2 hi ey hY hacc hk2 => ?_) (fun Hy acc ey hDy hla hR => ?_)
    · obtain ⟨it2, pa2, kd, vk, h1, h2, h3, h4, h5, h6, h7⟩ := hy
      exact ⟨it2, pa2, kd, vk, h1, h2, h3, h4, ez _ _ h3 h5, ez _ _ h4 h6, h7⟩
    · obtain ⟨rfl, hz⟩ := hY
      obtain ⟨j, kd, vk, rfl, hkd, hkp, hat, hdk⟩ := hkids i z hz
      obtain ⟨acc, hacc⟩ := hacc
      have ex3y := e34.trans ey
      refine ⟨rfl, ?_⟩
      refine ⟨_, rfl, _, rfl, _, _, _, vk, rfl, rfl, ex_t ex3y hS1, hat, ?_⟩
      refine ⟨_, rfl, pa, _, rfl, .inl (ex_t ex3y hP3), _, rfl, Nat.le_trans (show (p1.map V.int ++ [V.int j]).length ≤ 4 by rw [List.length_append, List.length_map]; show p1.length + 1 ≤ 4; omega) (by decide), fun p5 hp5 => ⟨szc rfl, fun p6 hp6 => ?_⟩⟩
      have x1 := Ex.new (o := .tup (p1.map V.int ++ [V.int j])) hp5
      have x2 := Ex.new (o := .tup [vk, .ref p5]) hp6
      have hD5 : D ≠ p5 := ne_of_none hacc hp5
      have hD6 : D ≠ p6 := ne_of_none (x1 _ _ hacc) hp6
      refine hk2 _ _ (x1.trans x2) ⟨p6, p5, kd, vk, hkd, rfl, Ne.symm hD6, Ne.symm hD5, upd_same, ?_, hdk⟩
      rw [hkp, List.map_append]
      exact x2 _ _ upd_same
    have ex3y := e34.trans ey
    have hwy := ex3y _ _ hwl3
    have dAcc : DpAll K Hy acc ((r1.kids p1).reverse.map itemD) := da_of (by rw [hla, List.length_map, List.length_reverse, List.length_reverse, hkl]) fun j y d hy hd => by
      obtain ⟨it2, pa2, kd, vk, h1, rfl, h3, h4, h5, h6, h7⟩ := hR j y hy
      obtain rfl := get_map h1 hd
      exact .tup (SqT.of h5) (.cons (Dp.ex ex3y h7) (.cons (ints_dp (SqT.of h6)) .nil))
    have hyl : ys.length = st.length := by
      have := da_len dY3
      rw [this, List.length_map, List.length_reverse]
    have hst : st.length ≤ sizes st := by
      have : ∀ l : List (Rl × List Int), l.length ≤ sizes l := by
        intro l
        induction l with
        | nil => exact Nat.le_refl _
        | cons q l ih =>
          have := Rl.size_pos q.1
          rw [sizes_cons, List.length_cons]
          omega
      exact this st
    rw [List.length_reverse] at hla
    refine ⟨wa, D, _, _, rfl, rfl, hwy, hDy, Nat.le_trans (show ys.length + acc.length ≤ 100 by omega) (by decide), ?_⟩
    have ty : Tx Hy (upd Hy wa (.lst (ys ++ acc))) := Tx.upd (.inr (.inl ⟨_, hwy⟩))
    show W (m - 1) _ _
    rw [hW]
    refine ⟨ys ++ acc, r1.kids p1 ++ st, k + 1, _, _, _, rfl, Ex.mut (e3.trans ex3y) hwa0, upd_same, ?_, ?_, ?_, ?_, ?_, ?_⟩
    · rw [List.reverse_append, List.map_append]
      exact da_app (DpAll.tx ty (items_noL _) (DpAll.ex ex3y dY3)) (DpAll.tx ty (items_noL _) dAcc)
    · have := sizes_kids r1 p1
      rw [sizes_app]
      omega
    · omega
    · have := sizes_kids r1 p1
      rw [sizes_app]
      omega
    · intro q hq
      rcases List.mem_append.mp hq with hq | hq
      · exact hkw q hq
      · exact hw q (List.mem_cons_of_mem _ hq)
    · rw [show m - 1 + 1 = m by omega]
      exact hb3
  · refine ⟨_, rfl, _, rfl, .inl ⟨sz, fs, ok, dh, fun H1 e1 => ?_⟩⟩
    refine ⟨_, rfl, szc rfl, fun pe hpe => ⟨szc rfl, fun it hit => ⟨szc rfl, fun wa hwa => ⟨_, _, rfl, ?_⟩⟩⟩⟩
    have f1 := Ex.new (o := .tup []) hpe
    have f2 := Ex.new (o := .tup [v, .ref pe]) hit
    have f3 := Ex.new (o := .lst [.ref it]) hwa
    have eA := (((e1.trans f1).trans f2).trans f3)
    have s1 : SqT K (upd (upd (upd H1 pe (.tup [])) it (.tup [v, .ref pe])) wa (.lst [.ref it])) it [v, .ref pe] := ex_t f3 (SqT.of upd_same)
    have s2 : SqT K (upd (upd (upd H1 pe (.tup [])) it (.tup [v, .ref pe])) wa (.lst [.ref it])) pe [] := ex_t (f2.trans f3) (SqT.of upd_same)
    have s3 : (upd (upd (upd H1 pe (.tup [])) it (.tup [v, .ref pe])) wa (.lst [.ref it])) wa = some (.lst [.ref it]) := upd_same
    have hwa0 : H wa = none := fresh_back (((e1.trans f1).trans f2)) hwa
    generalize upd (upd (upd H1 pe (.tup [])) it (.tup [v, .ref pe])) wa (.lst [.ref it]) = H2 at *
    obtain ⟨W, hW⟩ : ∃ W : Nat → L2.St → Hp → Prop, W = fun _ σ H' => σ = [some hv, some v, some (.ref wa), some (.int 0), none, none, none] ∧ H' = H2 := ⟨_, rfl⟩
    refine ⟨W, ⟨0, ?_⟩, ?_⟩
    · rw [hW]
      exact ⟨rfl, rfl⟩
    intro m σ H' hw
    rw [hW] at hw
    obtain ⟨rfl, rfl⟩ := hw
    obtain ⟨d, dO, hc, hd⟩ := odd.data
    have dI : Dp K H' (.ref wa) (.list [.tuple [d, .tuple []]]) := .lst (SqL.of s3) (.cons (.tup s1 (.cons (Dp.ex eA dO) (.cons (.tup s2 .nil) .nil))) .nil)
    have hsh : SeqAt.shaped (.list [.tuple [d, .tuple []]]) = true := by
      unfold SeqAt.shaped
      have h2 : PyData.depth (.list [.tuple [d, .tuple []]]) ≤ 64 := by
        simp only [PyData.depth, PyData.depthAll]
        omega
      rw [decide_eq_true h2, Bool.and_true]
      simp only [PyData.canLay0, PyData.canLayAll0, hc, Bool.and_self]
    refine ⟨_, rfl, by decide, fun p hp => ⟨_, _, Dp.ex (Ex.new hp) dI, lst_new hp .nil, hsh, by decide +kernel, _, rfl, ?_⟩⟩
    rw [eqv_nil]
    refine iteNB0 rfl ⟨fun _ _ => False, fun _ _ h => h.elim, ?_⟩
    have g1 := Ex.new (o := .lst []) hp
    refine ⟨_, rfl, .inl ⟨rfl, _, SqL.of (g1 _ _ s3)⟩, _, _, .ref it, rfl, rfl, g1 _ _ s3, by simp, ?_⟩
    have tx : Ex H' (upd H' p (.lst [])) := g1
    have s1' : SqT K (upd (upd H' p (.lst [])) wa (.lst [])) it [v, .ref pe] := (Tx.upd (.inr (.inl ⟨_, g1 _ _ s3⟩))).sq (ex_t g1 s1)
    have s2' : SqT K (upd (upd H' p (.lst [])) wa (.lst [])) pe [] := (Tx.upd (.inr (.inl ⟨_, g1 _ _ s3⟩))).sq (ex_t g1 s2)
    have e2 : Ex H (upd (upd H' p (.lst [])) wa (.lst [])) := Ex.mut (eA.trans g1) hwa0
    rw [show ([V.ref it]).dropLast = [] from rfl]
    generalize upd (upd H' p (.lst [])) wa (.lst []) = H3 at *
    refine ⟨_, _, rfl, s1', rfl, _, _, rfl, _, _, rfl, rfl, ?_⟩
    refine ⟨_, rfl, _, _, rfl, rfl, ?_⟩
    refine ⟨_, rfl, _, _, rfl, rfl, _, rfl, iteB0 (by decide +kernel) ?_⟩
    refine ⟨_, rfl, _, _, rfl, .inr ⟨_, s2', rfl⟩, _, _, rfl, rfl, _, rfl, iteB0 (by decide +kernel) ?_⟩
    refine ⟨_, rfl, _, rfl, _, rfl, szc rfl, fun p3 hp3 => ⟨_, _, .tup (ex_t (Ex.new hp3) s2') .nil, tup_new hp3 .nil, by decide +kernel, by decide +kernel, _, _, _, rfl, .inr ⟨?_, fun H4 e4 => ⟨_, rfl, iteT ⟨_, rfl, rfl, fun d hd => ?_⟩⟩⟩⟩⟩
    · exact Odd.ex (e2.trans (Ex.new hp3)) odd
    · exact q _ d pe (((e2.trans (Ex.new hp3)).trans e4).trans (Ex.new hd)) (ex_t (((Ex.new hp3).trans e4).trans (Ex.new hd)) s2') upd_same
  · exact ⟨_, rfl, _, rfl, .inr ⟨odd, er⟩⟩
end
end K95

set_option Elab.async false
set_option linter.all false
set_option maxRecDepth 100000
set_option maxHeartbeats 4000000
/-! The words of a rule, the words of a text read as a rule. Plain Lean. -/
namespace K95
open PySem PySem.Spec PyProof.Rows L2
open TL (tl numL)
def numS (n : Int) : Str := Str.ofString (toString n)
def Rl.ws : Rl → List Str
  | .pl w ns => w :: ns.map numS
  | .cb w a b => w :: (a.ws ++ b.ws)
  | .ou a fee => "oust" :: numS fee :: a.ws
def addN : Str → List Int → Str
  | t, [] => t
  | t, n :: ns => addN (t ++ " " ++ numS n) ns
def Rl.txt : Rl → Str
  | .pl w ns => addN w ns
  | .cb w a b => w ++ " " ++ a.txt ++ " " ++ b.txt
  | .ou a fee => "oust " ++ numS fee ++ " " ++ a.txt
theorem Rl.ws_ne (r : Rl) : r.ws ≠ [] := by cases r <;> simp [Rl.ws]
theorem joinL_app (S : List Nat) : ∀ {a b : List (List Nat)}, a ≠ [] → b ≠ [] → TL.joinL S (a ++ b) = TL.joinL S a ++ (S ++ TL.joinL S b)
  | [], _, h, _ => absurd rfl h
  | [p], b, _, hb => by
    cases b with
    | nil => exact absurd rfl hb
    | cons q r => rfl
  | p :: q :: r, b, _, hb => by
    have ih := joinL_app S (a := q :: r) (b := b) (by simp) hb
    show p ++ (S ++ TL.joinL S ((q :: r) ++ b)) = (p ++ (S ++ TL.joinL S (q :: r))) ++ (S ++ TL.joinL S b)
    rw [ih]
    simp only [List.append_assoc]
theorem tl_sp : tl " " = [32] := by decide +kernel
theorem tl_nl : tl "\n" = [10] := by decide +kernel
theorem tl_addN : ∀ (ns : List Int) (t : Str), tl (addN t ns) = TL.joinL [32] (tl t :: ns.map fun n => tl (numS n))
  | [], t => rfl
  | n :: ns, t => by
    rw [addN, tl_addN ns, TL.tl_append, TL.tl_append, tl_sp]
    cases ns with
    | nil => simp [TL.joinL]
    | cons m ms => simp [TL.joinL]
theorem tl_txt : ∀ r : Rl, tl r.txt = TL.joinL [32] (r.ws.map tl)
  | .pl w ns => by
    rw [Rl.txt, Rl.ws, tl_addN, List.map_cons, List.map_map]
    rfl
  | .cb w a b => by
    have ha := a.ws_ne
    have hb := b.ws_ne
    have e : (Rl.cb w a b).ws.map tl = [tl w] ++ (a.ws.map tl ++ b.ws.map tl) := by simp [Rl.ws]
    rw [e, joinL_app _ (by simp) (by simp [ha]), joinL_app _ (by simp [ha]) (by simp [hb]), ← tl_txt a, ← tl_txt b, Rl.txt]
    simp only [TL.tl_append, tl_sp, TL.joinL, List.append_assoc]
  | .ou a fee => by
    have ha := a.ws_ne
    have e : (Rl.ou a fee).ws.map tl = [tl "oust", tl (numS fee)] ++ a.ws.map tl := by simp [Rl.ws]
    rw [e, joinL_app _ (by simp) (by simp [ha]), ← tl_txt a, Rl.txt]
    have e2 : tl "oust " = tl "oust" ++ [32] := by decide +kernel
    simp only [TL.tl_append, tl_sp, TL.joinL, List.append_assoc, e2]
theorem txt_join (r : Rl) : Txt.join " " r.ws = r.txt := by
  apply TL.ext_tl
  rw [TL.join_eq, TL.tl_join, tl_sp, tl_txt]
/-! ### numbers -/
def numOk (w : Str) : Bool := decide (1 ≤ w.length) && decide (w.length ≤ 7) && (tl w).all (fun c => decide (c ∈ tl "0123456789")) && (!decide ((tl w)[0]? = some 48) || decide (w = "0"))
def numVal (w : Str) : Int := ((NumText.digitsVal (tl w) : Nat) : Int)
theorem figs_mem {c : Nat} : c ∈ tl "0123456789" ↔ 48 ≤ c ∧ c ≤ 57 := by
  have e : tl "0123456789" = [48, 49, 50, 51, 52, 53, 54, 55, 56, 57] := by decide +kernel
  rw [e]
  simp only [List.mem_cons, List.not_mem_nil, or_false]
  omega
theorem numOk_split {w : Str} (h : numOk w = true) : 1 ≤ w.length ∧ w.length ≤ 7 ∧ NumText.AllDigits (tl w) ∧ ((tl w)[0]? ≠ some 48 ∨ w = "0") := by
  unfold numOk at h
  simp only [Bool.and_eq_true, decide_eq_true_eq, List.all_eq_true, Bool.or_eq_true, Bool.not_eq_true', decide_eq_false_iff_not] at h
  exact ⟨h.1.1.1, h.1.1.2, fun c hc => figs_mem.mp (h.1.2 c hc), h.2⟩
theorem numOk_int {w : Str} (h : numOk w = true) : intText? w = some (numVal w) := by
  obtain ⟨h1, h2, h3, _⟩ := numOk_split h
  exact intText_digits h3 (fun e => by rw [TL.len_tl, show tl w = [] from e] at h1; exact absurd h1 (by decide)) (by omega)
theorem dig_lt : ∀ (l : List Nat) (a k : Nat), NumText.AllDigits l → a < 10 ^ k → l.foldl (fun acc c => acc * 10 + (c - 48)) a < 10 ^ (k + l.length)
  | [], a, k, _, h => h
  | c :: r, a, k, hd, h => by
    have hc := hd.head
    have := dig_lt r (a * 10 + (c - 48)) (k + 1) hd.tail (by rw [Nat.pow_succ]; omega)
    rw [List.foldl_cons, List.length_cons, show k + (r.length + 1) = k + 1 + r.length by omega]
    exact this
theorem numVal_b {w : Str} (h : numOk w = true) : 0 ≤ numVal w ∧ numVal w < 10000000 := by
  obtain ⟨h1, h2, h3, _⟩ := numOk_split h
  have := dig_lt (tl w) 0 0 h3 (by decide)
  rw [TL.len_tl] at h2
  have h5 : 10 ^ (0 + (tl w).length) ≤ 10 ^ 7 := Nat.pow_le_pow_right (by decide) (by omega)
  have h6 : NumText.digitsVal (tl w) < 10 ^ 7 := Nat.lt_of_lt_of_le this h5
  unfold numVal
  omega
theorem numL_head (n : Nat) : 1 ≤ n → (numL n)[0]? ≠ some 48 := by
  induction n using Nat.strongRecOn with
  | _ n ih =>
    intro h
    by_cases h9 : n < 10
    · rw [TL.numL_lt h9]
      simp
      omega
    · rw [TL.numL_step (by omega), List.getElem?_append_left (by
        have := TL.numL_ne (n / 10)
        cases hh : numL (n / 10) with
        | nil => exact absurd hh this
        | cons a r => simp)]
      exact ih (n / 10) (by omega) (by omega)
theorem tl_numS {n : Int} (h : 0 ≤ n) : tl (numS n) = numL n.toNat := by
  obtain ⟨m, rfl⟩ := Int.eq_ofNat_of_zero_le h
  exact TL.tl_num m
theorem numS_ok {n : Int} (h : 0 ≤ n) (h2 : n < 10000000) : numOk (numS n) = true ∧ numVal (numS n) = n := by
  have e := tl_numS h
  have hl : (numL n.toNat).length ≤ 7 := TL.numL_len (by decide) (by omega)
  have hn := TL.numL_ne n.toNat
  refine ⟨?_, ?_⟩
  · unfold numOk
    simp only [Bool.and_eq_true, decide_eq_true_eq, List.all_eq_true, Bool.or_eq_true, Bool.not_eq_true', decide_eq_false_iff_not, TL.len_tl, e]
    refine ⟨⟨⟨?_, hl⟩, fun c hc => figs_mem.mpr (TL.numL_digits _ c hc)⟩, ?_⟩
    · cases hh : numL n.toNat with
      | nil => exact absurd hh hn
      | cons a r => simp
    · by_cases h0 : n = 0
      · subst h0
        exact .inr (by decide +kernel)
      · exact .inl (numL_head _ (by omega))
  · unfold numVal
    rw [e, TL.numL_val]
    omega
/-! ### the words read -/
def wnames : List Str := ["all", "any", "apart", "kept", "nested", "oust"]
def badAt (ws : List Str) (p : Nat) : Bool := match ws[p]? with
  | none => true
  | some w => !numOk w
def firstBad (ws : List Str) : Nat → Nat → Option Nat
  | _, 0 => none
  | p, n + 1 => if badAt ws p = true then some (min p ws.length) else firstBad ws (p + 1) n
def numsAt (ws : List Str) (p n : Nat) : List Int := ((ws.drop p).take n).map numVal
def parse : Nat → List Str → Nat → Nat → Nat → Except Nat (Rl × Nat × Nat)
  | 0, _, k, _, _ => .error k
  | f + 1, ws, k, nf, m =>
    match ws[k]? with
    | none => .error k
    | some w =>
      if w ∉ wnames ∨ m = 7 then .error k
      else if w ∈ cbW then
        match parse f ws (k + 1) nf (m + 1) with
        | .error e => .error e
        | .ok (a, k1, m1) =>
          match parse f ws k1 nf m1 with
          | .error e => .error e
          | .ok (b, k2, m2) => .ok (.cb w a b, k2, m2)
      else
        match firstBad ws (k + 1) (if w = "oust" then 1 else nf) with
        | some e => .error e
        | none =>
          if w ≠ "oust" then .ok (.pl w (numsAt ws (k + 1) nf), k + 1 + nf, m + 1)
          else match parse f ws (k + 2) nf (m + 1) with
            | .error e => .error e
            | .ok (a, k1, m1) => .ok (.ou a ((numsAt ws (k + 1) 1).headD 0), k1, m1)
theorem firstBad_none {ws : List Str} : ∀ {p n : Nat}, p ≤ ws.length → firstBad ws p n = none → p + n ≤ ws.length ∧ ∀ q, p ≤ q → q < p + n → ∃ w, ws[q]? = some w ∧ numOk w = true
  | p, 0, h, _ => ⟨h, fun q h1 h2 => by omega⟩
  | p, n + 1, h, e => by
    unfold firstBad at e
    by_cases hb : badAt ws p = true
    · rw [if_pos hb] at e
      cases e
    · rw [if_neg hb] at e
      have hb2 : ∃ w, ws[p]? = some w ∧ numOk w = true := by
        unfold badAt at hb
        cases hw : ws[p]? with
        | none =>
          rw [hw] at hb
          exact absurd rfl hb
        | some w =>
          rw [hw] at hb
          exact ⟨w, rfl, by simpa using hb⟩
      have hp : p < ws.length := by
        obtain ⟨w, hw, _⟩ := hb2
        exact (List.getElem?_eq_some_iff.mp hw).1
      obtain ⟨h1, h2⟩ := firstBad_none (p := p + 1) (n := n) hp e
      refine ⟨by omega, fun q hq1 hq2 => ?_⟩
      by_cases hq : q = p
      · rw [hq]
        exact hb2
      · exact h2 q (by omega) (by omega)
theorem mem_numsAt {ws : List Str} {p n : Nat} (h : ∀ q, p ≤ q → q < p + n → ∃ w, ws[q]? = some w ∧ numOk w = true) : ∀ x ∈ numsAt ws p n, 0 ≤ x ∧ x < 10000000 := by
  intro x hx
  unfold numsAt at hx
  obtain ⟨w, hw, rfl⟩ := List.mem_map.mp hx
  obtain ⟨i, hi, e⟩ := List.mem_iff_getElem.mp hw
  have hi' := hi
  rw [List.length_take, List.length_drop] at hi'
  rw [List.getElem_take, List.getElem_drop] at e
  obtain ⟨w', hw', hok⟩ := h (p + i) (by omega) (by omega)
  obtain ⟨hlt, e2⟩ := List.getElem?_eq_some_iff.mp hw'
  rw [← e, e2]
  exact numVal_b hok
theorem len_numsAt {ws : List Str} {p n : Nat} (h : p + n ≤ ws.length) : (numsAt ws p n).length = n := by
  unfold numsAt
  rw [List.length_map, List.length_take, List.length_drop]
  omega
theorem names_pl {w : Str} (h1 : w ∈ wnames) (h2 : w ∉ cbW) (h3 : w ≠ "oust") : w ∈ plW := by
  have : ∀ w ∈ wnames, w ∉ cbW → w ≠ "oust" → w ∈ plW := by decide +kernel
  exact this w h1 h2 h3
theorem parse_ok : ∀ {f : Nat} {ws : List Str} {k nf m : Nat} {r : Rl} {k1 m1 : Nat}, m ≤ 7 → parse f ws k nf m = .ok (r, k1, m1) → k < k1 ∧ k1 ≤ ws.length ∧ r.Wf nf ∧ m1 = m + r.size ∧ m1 ≤ 7
  | 0, _, _, _, _, _, _, _, _, e => by cases e
  | f + 1, ws, k, nf, m, r, k1, m1, hm, e => by
    unfold parse at e
    cases hw : ws[k]? with
    | none =>
      rw [hw] at e
      cases e
    | some w =>
      rw [hw] at e
      dsimp only at e
      have hk : k < ws.length := (List.getElem?_eq_some_iff.mp hw).1
      by_cases c1 : w ∉ wnames ∨ m = 7
      · rw [if_pos c1] at e
        cases e
      rw [if_neg c1] at e
      have hwn : w ∈ wnames := Classical.byContradiction fun z => c1 (.inl z)
      have hm7 : m ≠ 7 := fun z => c1 (.inr z)
      by_cases c2 : w ∈ cbW
      · rw [if_pos c2] at e
        cases ea : parse f ws (k + 1) nf (m + 1) with
        | error z =>
          rw [ea] at e
          cases e
        | ok ra =>
          obtain ⟨a, ka, ma⟩ := ra
          rw [ea] at e
          dsimp only at e
          obtain ⟨a1, a2, a3, a4, a5⟩ := parse_ok (by omega) ea
          cases eb : parse f ws ka nf ma with
          | error z =>
            rw [eb] at e
            cases e
          | ok rb =>
            obtain ⟨b, kb, mb⟩ := rb
            rw [eb] at e
            dsimp only at e
            obtain ⟨b1, b2, b3, b4, b5⟩ := parse_ok a5 eb
            injection e with e
            injection e with e1 e
            injection e with e2 e3
            subst e1 e2 e3
            exact ⟨by omega, b2, ⟨c2, a3, b3⟩, by unfold Rl.size; omega, b5⟩
      · rw [if_neg c2] at e
        by_cases c3 : w = "oust"
        · rw [if_pos c3] at e
          cases eb : firstBad ws (k + 1) 1 with
          | some z =>
            rw [eb] at e
            cases e
          | none =>
            rw [eb] at e
            dsimp only at e
            obtain ⟨n1, n2⟩ := firstBad_none (by omega) eb
            rw [if_neg (fun z => z c3)] at e
            cases ea : parse f ws (k + 2) nf (m + 1) with
            | error z =>
              rw [ea] at e
              cases e
            | ok ra =>
              obtain ⟨a, ka, ma⟩ := ra
              rw [ea] at e
              dsimp only at e
              obtain ⟨a1, a2, a3, a4, a5⟩ := parse_ok (by omega) ea
              injection e with e
              injection e with e1 e
              injection e with e2 e3
              subst e1 e2 e3
              have hb := mem_numsAt n2
              have hl := len_numsAt n1
              refine ⟨by omega, a2, ⟨a3, ?_⟩, by unfold Rl.size; omega, a5⟩
              cases hn : numsAt ws (k + 1) 1 with
              | nil =>
                rw [hn] at hl
                cases hl
              | cons x y =>
                rw [hn] at hb
                exact hb x List.mem_cons_self
        · rw [if_neg c3] at e
          cases eb : firstBad ws (k + 1) nf with
          | some z =>
            rw [eb] at e
            cases e
          | none =>
            rw [eb] at e
            dsimp only at e
            obtain ⟨n1, n2⟩ := firstBad_none (by omega) eb
            rw [if_pos c3] at e
            injection e with e
            injection e with e1 e
            injection e with e2 e3
            subst e1 e2 e3
            exact ⟨by omega, n1, ⟨names_pl hwn c2 c3, len_numsAt n1, mem_numsAt n2⟩, rfl, by omega⟩
theorem firstBad_ok {ws : List Str} : ∀ {p n : Nat}, (∀ q, p ≤ q → q < p + n → ∃ w, ws[q]? = some w ∧ numOk w = true) → firstBad ws p n = none
  | _, 0, _ => rfl
  | p, n + 1, h => by
    obtain ⟨w, hw, hok⟩ := h p (Nat.le_refl _) (by omega)
    unfold firstBad
    have hb : badAt ws p = false := by
      unfold badAt
      rw [hw]
      show (!numOk w) = false
      rw [hok] <;> rfl
    rw [hb]
    exact firstBad_ok (p := p + 1) fun q h1 h2 => h q (by omega) (by omega)
/-- THE READ-BACK: the words of a rule, read as a rule -/
theorem parse_ws {nf : Nat} : ∀ (r : Rl) (f : Nat) (pre post : List Str) (m : Nat), r.Wf nf → m + r.size ≤ 7 → r.size ≤ f → parse f (pre ++ (r.ws ++ post)) pre.length nf m = .ok (r, pre.length + r.ws.length, m + r.size)
  | .pl w ns, 0, _, _, _, _, _, hf => by simp [Rl.size] at hf
  | .cb w a b, 0, _, _, _, _, _, hf => by simp [Rl.size] at hf
  | .ou a fee, 0, _, _, _, _, _, hf => by simp [Rl.size] at hf
  | .pl w ns, f + 1, pre, post, m, h, hm, hf => by
    obtain ⟨h1, h2, h3⟩ := h
    have hw : (pre ++ ((Rl.pl w ns).ws ++ post))[pre.length]? = some w := by rw [List.getElem?_append_right (Nat.le_refl _), Nat.sub_self] <;> rfl
    have hp : ∀ w ∈ plW, w ∈ wnames ∧ w ∉ cbW ∧ w ≠ ("oust" : Str) := by decide +kernel
    obtain ⟨p1, p2, p3⟩ := hp w h1
    have hs : (Rl.pl w ns).size = 1 := rfl
    unfold parse
    rw [hw]
    dsimp only
    rw [if_neg (fun z => z.elim (fun z => z p1) (fun z => by omega)), if_neg p2, if_neg p3]
    have hq : ∀ q, pre.length + 1 ≤ q → q < pre.length + 1 + nf → ∃ n, ns[q - pre.length - 1]? = some n ∧ (pre ++ ((Rl.pl w ns).ws ++ post))[q]? = some (numS n) := fun q q1 q2 => by
      obtain ⟨i, hi⟩ : ∃ i, q = pre.length + (i + 1) := ⟨q - pre.length - 1, by omega⟩
      have hlt : i < ns.length := by omega
      rw [show q - pre.length - 1 = i by omega]
      refine ⟨ns[i], List.getElem?_eq_getElem hlt, ?_⟩
      rw [List.getElem?_append_right (by omega), show q - pre.length = i + 1 by omega]
      show (w :: (ns.map numS ++ post))[i + 1]? = _
      rw [List.getElem?_cons_succ, List.getElem?_append_left (by rw [List.length_map]; omega), List.getElem?_map, List.getElem?_eq_getElem hlt] <;> rfl
    have hb : firstBad (pre ++ ((Rl.pl w ns).ws ++ post)) (pre.length + 1) nf = none := firstBad_ok fun q q1 q2 => by
      obtain ⟨n, hn, e⟩ := hq q q1 q2
      have hmem := h3 n (List.mem_of_getElem? hn)
      exact ⟨_, e, (numS_ok hmem.1 hmem.2).1⟩
    rw [hb]
    dsimp only
    rw [if_pos p3]
    have hn : numsAt (pre ++ ((Rl.pl w ns).ws ++ post)) (pre.length + 1) nf = ns := by
      have e1 : (pre ++ ((Rl.pl w ns).ws ++ post)).drop (pre.length + 1) = ns.map numS ++ post := by
        rw [List.drop_append, show pre.length + 1 - pre.length = 1 by omega, List.drop_of_length_le (by omega)]
        rfl
      unfold numsAt
      rw [e1, List.take_append_of_le_length (by rw [List.length_map, h2]; exact Nat.le_refl _), List.take_of_length_le (by rw [List.length_map, h2]; exact Nat.le_refl _), List.map_map]
      have : ∀ l : List Int, (∀ n ∈ l, 0 ≤ n ∧ n < 10000000) → l.map (numVal ∘ numS) = l := by
        intro l
        induction l with
        | nil => intro _; rfl
        | cons a l ih =>
          intro hl
          have ha := hl a List.mem_cons_self
          rw [List.map_cons, ih fun n hn => hl n (List.mem_cons_of_mem _ hn)]
          show numVal (numS a) :: l = _
          rw [(numS_ok ha.1 ha.2).2]
      exact this ns h3
    rw [hn, hs]
    have hl : (Rl.pl w ns).ws.length = 1 + nf := by simp [Rl.ws, h2]; omega
    rw [hl, Nat.add_assoc]
  | .cb w a b, f + 1, pre, post, m, h, hm, hf => by
    obtain ⟨h1, h2, h3⟩ := h
    have hsz : (Rl.cb w a b).size = 1 + a.size + b.size := rfl
    rw [hsz] at hm hf
    have hw : (pre ++ ((Rl.cb w a b).ws ++ post))[pre.length]? = some w := by rw [List.getElem?_append_right (Nat.le_refl _), Nat.sub_self] <;> rfl
    have hp : ∀ w ∈ cbW, w ∈ wnames := by decide +kernel
    unfold parse
    rw [hw]
    dsimp only
    have := a.size_pos
    have := b.size_pos
    rw [if_neg (fun z => z.elim (fun z => z (hp w h1)) (fun z => by omega)), if_pos h1]
    have e1 : pre ++ ((Rl.cb w a b).ws ++ post) = (pre ++ [w]) ++ (a.ws ++ (b.ws ++ post)) := by simp [Rl.ws]
    have ea := parse_ws a f (pre ++ [w]) (b.ws ++ post) (m + 1) h2 (by omega) (by omega)
    rw [← e1, List.length_append, List.length_singleton] at ea
    rw [ea]
    dsimp only
    have e2 : pre ++ ((Rl.cb w a b).ws ++ post) = (pre ++ [w] ++ a.ws) ++ (b.ws ++ post) := by simp [Rl.ws]
    have eb := parse_ws b f (pre ++ [w] ++ a.ws) post (m + 1 + a.size) h3 (by omega) (by omega)
    rw [← e2, List.length_append, List.length_append, List.length_singleton] at eb
    rw [eb]
    dsimp only
    have hl : (Rl.cb w a b).ws.length = 1 + a.ws.length + b.ws.length := by simp [Rl.ws]; omega
    rw [hl, hsz]
    congr 2
    rw [Prod.mk.injEq]
    constructor <;> omega
  | .ou a fee, f + 1, pre, post, m, h, hm, hf => by
    obtain ⟨h1, h2, h3⟩ := h
    have hsz : (Rl.ou a fee).size = 1 + a.size := rfl
    rw [hsz] at hm hf
    have hw : (pre ++ ((Rl.ou a fee).ws ++ post))[pre.length]? = some ("oust" : Str) := by rw [List.getElem?_append_right (Nat.le_refl _), Nat.sub_self] <;> rfl
    have hw2 : (pre ++ ((Rl.ou a fee).ws ++ post))[pre.length + 1]? = some (numS fee) := by rw [List.getElem?_append_right (by omega), show pre.length + 1 - pre.length = 1 by omega] <;> rfl
    obtain ⟨n1, n2⟩ := numS_ok h2 h3
    unfold parse
    rw [hw]
    dsimp only
    have := a.size_pos
    have p1 : ("oust" : Str) ∈ wnames := by decide +kernel
    have p2 : ("oust" : Str) ∉ cbW := by decide +kernel
    rw [if_neg (fun z => z.elim (fun z => z p1) (fun z => by omega)), if_neg p2, if_pos rfl]
    have hb : firstBad (pre ++ ((Rl.ou a fee).ws ++ post)) (pre.length + 1) 1 = none := firstBad_ok fun q q1 q2 => by
      obtain rfl : q = pre.length + 1 := by omega
      exact ⟨_, hw2, n1⟩
    rw [hb]
    dsimp only
    rw [if_neg (fun z => z rfl)]
    have e1 : pre ++ ((Rl.ou a fee).ws ++ post) = (pre ++ [("oust" : Str), numS fee]) ++ (a.ws ++ post) := by simp [Rl.ws]
    have ea := parse_ws a f (pre ++ [("oust" : Str), numS fee]) post (m + 1) h1 (by omega) (by omega)
    rw [← e1, List.length_append, show (["oust", numS fee] : List Str).length = 2 from rfl] at ea
    rw [ea]
    dsimp only
    have hn : numsAt (pre ++ ((Rl.ou a fee).ws ++ post)) (pre.length + 1) 1 = [fee] := by
      have e1 : (pre ++ ((Rl.ou a fee).ws ++ post)).drop (pre.length + 1) = numS fee :: (a.ws ++ post) := by
        rw [List.drop_append, show pre.length + 1 - pre.length = 1 by omega, List.drop_of_length_le (by omega)]
        rfl
      unfold numsAt
      rw [e1]
      show [numVal (numS fee)] = _
      rw [n2]
    rw [hn]
    have hl : (Rl.ou a fee).ws.length = 2 + a.ws.length := by simp [Rl.ws]; omega
    rw [hl, hsz]
    show Except.ok (Rl.ou a fee, _, _) = _
    congr 2
    rw [Prod.mk.injEq]
    constructor <;> omega
/-! ### a text read as a rule of a hall -/
def rowsOf (x : Str) : List (List Str) := (Txt.split x "\n").map fun l => Txt.split l " "
def row0 (x : Str) : List Str := (rowsOf x).headD []
/-- what a text is read as: a rule, or the error's kind and its data -/
inductive Rd where
  | ok (r : Rl)
  | text (l k : Nat)
  | rule (p : List Int)
def due (s : Int) (nf : Nat) (x : Str) : Rd :=
  match parse 8 (row0 x) 0 nf 0 with
  | .error e => .text 0 e
  | .ok (r, k, _) => if k < (row0 x).length then .text 0 k else if 1 < (rowsOf x).length then .text 1 0 else match bad s r with
    | none => .ok r
    | some p => .rule p
def Rd.d : Rd → PyData
  | .ok r => .list [r.d]
  | .text l k => .tuple [.str "text", .int l, .int k]
  | .rule p => .tuple [.str "rule", .tuple (dIs p)]
theorem ws_free {nf : Nat} : ∀ {r : Rl}, r.Wf nf → ∀ w ∈ r.ws, 32 ∉ tl w ∧ 10 ∉ tl w
  | .pl w ns, h, x, hx => by
    obtain ⟨h1, h2, h3⟩ := h
    rcases List.mem_cons.mp hx with rfl | hx
    · have : ∀ w ∈ plW, 32 ∉ tl w ∧ 10 ∉ tl w := by decide +kernel
      exact this _ h1
    · obtain ⟨n, hn, rfl⟩ := List.mem_map.mp hx
      rw [tl_numS (h3 n hn).1]
      exact ⟨TL.numL_free (by decide), TL.numL_free (by decide)⟩
  | .cb w a b, h, x, hx => by
    rcases List.mem_cons.mp hx with rfl | hx
    · have : ∀ w ∈ cbW, 32 ∉ tl w ∧ 10 ∉ tl w := by decide +kernel
      exact this _ h.1
    · rcases List.mem_append.mp hx with hx | hx
      · exact ws_free h.2.1 x hx
      · exact ws_free h.2.2 x hx
  | .ou a fee, h, x, hx => by
    rcases List.mem_cons.mp hx with rfl | hx
    · decide +kernel
    · rcases List.mem_cons.mp hx with rfl | hx
      · rw [tl_numS h.2.1]
        exact ⟨TL.numL_free (by decide), TL.numL_free (by decide)⟩
      · exact ws_free h.1 x hx
theorem split_txt {nf : Nat} {r : Rl} (h : r.Wf nf) : Txt.split r.txt " " = r.ws := by
  rw [← txt_join]
  exact TL.split_join tl_sp (by decide +kernel) r.ws_ne fun p hp => (ws_free h p hp).1
theorem free_joinL {c : Nat} {S : List Nat} (hS : c ∉ S) : ∀ {ps : List (List Nat)}, (∀ p ∈ ps, c ∉ p) → c ∉ TL.joinL S ps
  | [], _ => by simp [TL.joinL]
  | [p], h => h p List.mem_cons_self
  | p :: q :: r, h => by
    have ih := free_joinL hS (ps := q :: r) fun p hp => h p (List.mem_cons_of_mem _ hp)
    show c ∉ p ++ (S ++ TL.joinL S (q :: r))
    intro hm
    rcases List.mem_append.mp hm with hm | hm
    · exact h p List.mem_cons_self hm
    · rcases List.mem_append.mp hm with hm | hm
      · exact hS hm
      · exact ih hm
theorem txt_nl {nf : Nat} {r : Rl} (h : r.Wf nf) : 10 ∉ tl r.txt := by
  rw [tl_txt]
  refine free_joinL (by decide) fun p hp => ?_
  obtain ⟨w, hw, rfl⟩ := List.mem_map.mp hp
  exact (ws_free h w hw).2
theorem rows_txt {nf : Nat} {r : Rl} (h : r.Wf nf) : rowsOf r.txt = [r.ws] := by
  have e : Txt.split r.txt "\n" = [r.txt] := by
    have := TL.split_join tl_nl (by decide +kernel) (parts := [r.txt]) (by simp) fun p hp => by rw [List.mem_singleton.mp hp]; exact txt_nl h
    rwa [TL.join_eq] at this
  unfold rowsOf
  rw [e, List.map_singleton, split_txt h]
theorem due_txt {s : Int} {nf : Nat} {r : Rl} (h : r.Wf nf) (hz : r.size ≤ 7) (hb : bad s r = none) : due s nf r.txt = .ok r := by
  have e : row0 r.txt = r.ws := by
    unfold row0
    rw [rows_txt h] <;> rfl
  have hp := parse_ws r 8 [] [] 0 h (by omega) (by omega)
  rw [List.nil_append, List.append_nil] at hp
  unfold due
  rw [e]
  rw [show ([] : List Str).length = 0 from rfl] at hp
  rw [hp]
  dsimp only
  rw [if_neg (by omega), rows_txt h, if_neg (by show ¬ 1 < 1; decide), hb]
end K95

set_option Elab.async false
set_option linter.all false
set_option maxRecDepth 100000
set_option maxHeartbeats 4000000
namespace K95
open PySem PySem.Spec PyProof.Rows L2
open Evl (Ex ex_l ex_t fresh_back)
open TL (tl)
/-- the words of a rule as they are made -/
def Rl.wv : Rl → List V
  | .pl w ns => .str w :: ns.map V.int
  | .cb w a b => .str w :: (a.wv ++ b.wv)
  | .ou a fee => .str "oust" :: .int fee :: a.wv
/-- a value and its text -/
def VT (v : V) (x : Str) : Prop := x.length ≤ 7 ∧ (v = .str x ∨ ∃ n : Int, v = .int n ∧ 0 ≤ n ∧ n < 10000000 ∧ x = numS n)
inductive VTs : List V → List Str → Prop
  | nil : VTs [] []
  | cons {v : V} {x : Str} {vs : List V} {xs : List Str} : VT v x → VTs vs xs → VTs (v :: vs) (x :: xs)
theorem VTs.app : ∀ {a c : List V} {b d : List Str}, VTs a b → VTs c d → VTs (a ++ c) (b ++ d)
  | _, _, _, _, .nil, h => h
  | _, _, _, _, .cons h t, r => .cons h (VTs.app t r)
theorem VTs.get : ∀ {a : List V} {b : List Str} {i : Nat} {v : V} {x : Str}, VTs a b → a[i]? = some v → b[i]? = some x → VT v x
  | _, _, 0, _, _, .cons h t, e1, e2 => by simp at e1 e2; subst e1; subst e2; exact h
  | _, _, i + 1, _, _, .cons h t, e1, e2 => VTs.get (i := i) t (by simpa using e1) (by simpa using e2)
theorem VTs.len : ∀ {a : List V} {b : List Str}, VTs a b → a.length = b.length
  | _, _, .nil => rfl
  | _, _, .cons _ t => congrArg Nat.succ t.len
theorem VTs.short : ∀ {a : List V} {b : List Str}, VTs a b → (b.map (·.length)).sum ≤ 7 * b.length
  | _, _, .nil => Nat.le_refl _
  | _, _, .cons h t => by
    have := t.short
    have := h.1
    simp only [List.map_cons, List.sum_cons, List.length_cons]
    omega
theorem vt_num {n : Int} (h : 0 ≤ n ∧ n < 10000000) : VT (.int n) (numS n) := ⟨(numOk_split (numS_ok h.1 h.2).1).2.1, .inr ⟨n, rfl, h.1, h.2, rfl⟩⟩
theorem vts_nums : ∀ {ns : List Int}, (∀ n ∈ ns, 0 ≤ n ∧ n < 10000000) → VTs (ns.map V.int) (ns.map numS)
  | [], _ => .nil
  | n :: ns, h => .cons (vt_num (h n List.mem_cons_self)) (vts_nums fun m hm => h m (List.mem_cons_of_mem _ hm))
theorem vts_ws {nf : Nat} : ∀ {r : Rl}, r.Wf nf → VTs r.wv r.ws
  | .pl w ns, h => by
    have : ∀ w ∈ plW, w.length ≤ 7 := by decide +kernel
    exact .cons ⟨this _ h.1, .inl rfl⟩ (vts_nums h.2.2)
  | .cb w a b, h => by
    have : ∀ w ∈ cbW, w.length ≤ 7 := by decide +kernel
    exact .cons ⟨this _ h.1, .inl rfl⟩ ((vts_ws h.2.1).app (vts_ws h.2.2))
  | .ou a fee, h => .cons ⟨by decide +kernel, .inl rfl⟩ (.cons (vt_num h.2) (vts_ws h.1))
theorem ws_len {nf : Nat} : ∀ {r : Rl}, r.Wf nf → r.ws.length ≤ r.size * (nf + 2)
  | .pl w ns, h => by
    show (w :: ns.map numS).length ≤ 1 * (nf + 2)
    rw [List.length_cons, List.length_map, h.2.1]
    omega
  | .cb w a b, h => by
    have ha := ws_len h.2.1
    have hb := ws_len h.2.2
    show (w :: (a.ws ++ b.ws)).length ≤ (1 + a.size + b.size) * (nf + 2)
    rw [List.length_cons, List.length_append, Nat.add_mul, Nat.add_mul]
    omega
  | .ou a fee, h => by
    have ha := ws_len h.1
    show (("oust" : Str) :: numS fee :: a.ws).length ≤ (1 + a.size) * (nf + 2)
    rw [List.length_cons, List.length_cons, Nat.add_mul]
    omega
theorem log_small {n : Int} (h0 : 0 ≤ n) (h1 : n < 10000000) : n.natAbs.log2 < 1920 := by
  have h2 : n.natAbs < 2 ^ 24 := by omega
  by_cases hz : n.natAbs = 0
  · rw [hz]
    decide
  · exact Nat.lt_of_lt_of_le ((Nat.log2_lt hz).mpr h2) (by decide)
def spJoined (K : PySem.W.Frag) : Sp := fun vs H Q _ => ∃ (a : Addr) (xs : List V) (ws : List Str), vs = [.ref a] ∧ SqL K H a xs ∧ VTs xs ws ∧ xs.length ≤ 10000 ∧ ∀ H', Ex H H' → Q (.str (Txt.join " " ws)) H'
def spWords (K : PySem.W.Frag) (f : Nat) : Sp := fun vs H Q _ => ∃ (v : V) (r : Rl) (nf : Nat), vs = [v] ∧ Dp K H v r.d ∧ r.Wf nf ∧ nf ≤ 100 ∧ r.size ≤ f ∧ f ≤ 20 ∧ ∀ H' p, Ex H H' → H p = none → H' p = some (.lst r.wv) → Q (.ref p) H'
section
variable {w : World} {K : PySem.W.Frag} {mg : Str → Option Value} {base : Heap}
abbrev nJoined : List Str := ["row", "one"]
theorem scJoined : FnScope nJoined ["row"] (defScope (top 36)) := ⟨rfl, rfl, rfl, by decide +kernel, rfl, by decide +kernel, by decide +kernel⟩
theorem ok_joined (T : Txt K mg) : FnOk PR w K mg base CX0 1 (ga K "joined") (fdOf K "joined") ["row"] (spJoined K) := by
  refine T.djoined.F.ok scJoined (fun vs H Q E h => ?_) (fun cdv A outer s H vs Q E hr h => ?_)
  · obtain ⟨a, xs, ws, rfl, _⟩ := h
    rfl
  refine ⟨_, (pss_one (ps_ret (pe_join pe_str (pe_lc (own := [("one", 1)]) (g := gName 1) (tt := tYes) rfl scJoined.nd (pi_list (pv 0)) (blkOk_by (N := nJoined) (sc := defScope (top 36)) (by decide +kernel)) (fun _ _ _ _ _ => pg_name (i := 1) scJoined.nd rfl (Or.inl rfl)) (fun _ _ _ _ _ => pts_nil) (fun _ _ _ _ _ => (pe_callTy call_strX rfl T.f_str (by decide +kernel) (pa_cons (pv 1) pa_nil))))))), ?_⟩
  obtain ⟨a, xs, ws, rfl, hS, hV, hl, q⟩ := h
  refine ⟨⟨_, rfl⟩, _, rfl, _, rfl, ⟨_, hS⟩, fun D hD => lc_map walk_list (ws.map V.str) (by rw [List.length_map, hV.len]) (by omega) hD (fun H' e => ex_l e hS) (fun i x H1 H2 y k hy e hY hk => ?_) (fun H1 e1 hD1 => ?_)⟩
  · obtain ⟨rfl, hx⟩ := hY
    obtain ⟨z, hz, rfl⟩ := get_str hy
    obtain ⟨hz7, hv⟩ := hV.get hx hz
    refine ⟨rfl, _, rfl, ?_⟩
    rcases hv with rfl | ⟨n, rfl, n0, n1, rfl⟩
    · exact .inr ⟨_, rfl, hk _ (Ex.refl _)⟩
    · refine .inl ⟨n, rfl, ?_, hk _ (Ex.refl _)⟩
      exact log_small n0 n1
  · refine ⟨_, _, _, rfl, rfl, .inl (SqL.of hD1), ?_, q _ e1⟩
    have h1 := hV.short
    have h2 := hV.len
    have h3 : (" " : Str).length = 1 := rfl
    rw [h3]
    omega
abbrev nWords_of : List Str := ["rule"]
theorem scWords_of : FnScope nWords_of ["rule"] (defScope (top 37)) := ⟨rfl, rfl, rfl, by decide +kernel, rfl, by decide +kernel, by decide +kernel⟩
theorem ok_words_of (T : Txt K mg) : ∀ f, FnOk PR w K mg base CX0 (f + 1) (ga K "words_of") (fdOf K "words_of") ["rule"] (spWords K f)
  | 0 => by
    refine T.dwords_of.F.ok scWords_of (fun vs H Q E h => ?_) (fun cdv A outer s H vs Q E hr h => ?_)
    · obtain ⟨v, r, nf, rfl, _⟩ := h
      rfl
    · obtain ⟨v, r, nf, rfl, dv, wf, hn, hz, _⟩ := h
      have := r.size_pos
      omega
  | f + 1 => by
    have ih := ok_words_of T f
    refine T.dwords_of.F.ok scWords_of (fun vs H Q E h => ?_) (fun cdv A outer s H vs Q E hr h => ?_)
    · obtain ⟨v, r, nf, rfl, _⟩ := h
      rfl
    refine ⟨_, (pss_cons (ps_if (pt_cmpR op_eq (pe_ix ix_tup (pv 0) pe_int (fun _ _ => rfl)) (pe_gS T.OUST) (nomark _))
      (pss_one (ps_ret (pe_op op_cat (pe_lst (pa_cons (pe_gS T.OUST) (pa_cons (pe_ix ix_tup (pv 0) pe_int (fun _ _ => rfl)) pa_nil))) (pe_call ih hr rfl T.dwords_of.g T.dwords_of.kp (bdwords_of T) .nil pass0 (pa_cons (pe_ix ix_tup (pv 0) pe_int (fun _ _ => rfl)) pa_nil)))))
      pss_nil)
    (pss_cons (ps_if (pt_cmpR op_in_seq (pe_ix ix_tup (pv 0) pe_int (fun _ _ => rfl)) (pe_tup (pa_cons (pe_gS T.ALL) (pa_cons (pe_gS T.ANY) pa_nil))) rfl)
      (pss_one (ps_ret (pe_op op_cat (pe_op op_cat (pe_lst (pa_cons (pe_ix ix_tup (pv 0) pe_int (fun _ _ => rfl)) pa_nil)) (pe_call ih hr rfl T.dwords_of.g T.dwords_of.kp (bdwords_of T) .nil pass0 (pa_cons (pe_ix ix_tup (pv 0) pe_int (fun _ _ => rfl)) pa_nil))) (pe_call ih hr rfl T.dwords_of.g T.dwords_of.kp (bdwords_of T) .nil pass0 (pa_cons (pe_ix ix_tup (pv 0) pe_int (fun _ _ => rfl)) pa_nil)))))
      pss_nil)
    (pss_one (ps_ret (pe_op op_cat (pe_lst (pa_cons (pe_ix ix_tup (pv 0) pe_int (fun _ _ => rfl)) pa_nil)) (pe_callTy call_list_of rfl T.f_list (by decide +kernel) (pa_cons (pe_ix ix_tup (pv 0) pe_int (fun _ _ => rfl)) pa_nil))))))), ?_⟩
    obtain ⟨v, r, nf, rfl, dv, wf, hn, hz, hf, q⟩ := h
    cases r with
    | pl x ns =>
      obtain ⟨a, xs, rfl, hS, hA⟩ := dp_tup dv
      obtain ⟨v1, r1, rfl, d1, hA⟩ := da_cons hA
      obtain ⟨v2, r2, rfl, d2, hA⟩ := da_cons hA
      obtain rfl := da_nil hA
      obtain rfl := dp_str d1
      obtain ⟨b, rfl, hN⟩ := dp_ints d2
      obtain ⟨wf1, wf2, wf3⟩ := wf
      have hp : ∀ w ∈ plW, w ∉ cbW ∧ w ≠ ("oust" : Str) := by decide +kernel
      obtain ⟨p1, p2⟩ := hp x wf1
      refine ⟨_, rfl, _, _, _, _, rfl, rfl, hS, rfl, rfl, _, rfl, iteB0 (decide_eq_false fun z => p2 (V.str.inj z)) ?_⟩
      refine ⟨_, rfl, _, _, _, _, rfl, rfl, hS, rfl, by decide, fun p2 hp2 => ⟨_, _, rfl, .inr (SqT.of upd_same), rfl, rfl, _, rfl, ?_⟩⟩
      have ein := inV_str x ["all", "any"]
      show (if inV (.str x) ((["all", "any"] : List Str).map V.str) = true then _ else _)
      rw [ein]
      refine iteB0 (decide_eq_false p1) ?_
      have e2 := Ex.new (o := .tup [.str "all", .str "any"]) hp2
      have hS2 := ex_t e2 hS
      have hN2 := ex_t e2 hN
      refine ⟨_, rfl, _, _, _, _, rfl, rfl, hS2, rfl, szc rfl, fun p3 hp3 => ?_⟩
      have e3 := Ex.new (o := .lst [.str x]) hp3
      have l3 : upd (upd H p2 (.tup [.str "all", .str "any"])) p3 (.lst [.str x]) p3 = some (.lst [.str x]) := upd_same
      refine ⟨_, rfl, _, _, _, _, rfl, rfl, ex_t e3 hS2, rfl, _, _, rfl, .inr (ex_t e3 hN2), fun p4 hp4 => ?_⟩
      have e4 := Ex.new (o := .lst (ns.map V.int)) hp4
      refine ⟨_, _, _, _, rfl, rfl, e4 _ _ l3, upd_same, Nat.le_trans (show 1 + (ns.map V.int).length ≤ 200 by rw [List.length_map]; omega) (by decide), fun p5 hp5 => ?_⟩
      have e5 : Ex H _ := ((e2.trans e3).trans e4)
      exact q _ p5 (e5.trans (Ex.new hp5)) (fresh_back e5 hp5) upd_same
    | cb x ra rb =>
      obtain ⟨a, xs, rfl, hS, hA⟩ := dp_tup dv
      obtain ⟨v1, r1, rfl, d1, hA⟩ := da_cons hA
      obtain ⟨v2, r2, rfl, d2, hA⟩ := da_cons hA
      obtain ⟨v3, r3, rfl, d3, hA⟩ := da_cons hA
      obtain rfl := da_nil hA
      obtain rfl := dp_str d1
      obtain ⟨wf1, wf2, wf3⟩ := wf
      have hp : ∀ w ∈ cbW, w ≠ ("oust" : Str) := by decide +kernel
      have hsz : (Rl.cb x ra rb).size = 1 + ra.size + rb.size := rfl
      rw [hsz] at hz
      refine ⟨_, rfl, _, _, _, _, rfl, rfl, hS, rfl, rfl, _, rfl, iteB0 (decide_eq_false fun z => hp x wf1 (V.str.inj z)) ?_⟩
      refine ⟨_, rfl, _, _, _, _, rfl, rfl, hS, rfl, by decide, fun p2 hp2 => ⟨_, _, rfl, .inr (SqT.of upd_same), rfl, rfl, _, rfl, ?_⟩⟩
      have ein := inV_str x ["all", "any"]
      show (if inV (.str x) ((["all", "any"] : List Str).map V.str) = true then _ else _)
      rw [ein]
      refine iteB (decide_eq_true wf1) ?_
      have e2 := Ex.new (o := .tup [.str "all", .str "any"]) hp2
      have hS2 := ex_t e2 hS
      refine ⟨_, rfl, _, _, _, _, rfl, rfl, hS2, rfl, szc rfl, fun p3 hp3 => ?_⟩
      have e3 := Ex.new (o := .lst [.str x]) hp3
      have l3 : upd (upd H p2 (.tup [.str "all", .str "any"])) p3 (.lst [.str x]) p3 = some (.lst [.str x]) := upd_same
      refine ⟨_, rfl, _, _, _, _, rfl, rfl, ex_t e3 hS2, rfl, _, ra, nf, rfl, Dp.ex (e2.trans e3) d2, wf2, hn, by omega, by omega, fun H4 p4 e4 hp4 l4 => ?_⟩
      have e04 := (e2.trans e3).trans e4
      have la := (vts_ws wf2).len
      have lb := (vts_ws wf3).len
      have la2 := ws_len wf2
      have lb2 := ws_len wf3
      have b1 : ra.size * (nf + 2) ≤ 20 * 102 := Nat.mul_le_mul (by omega) (by omega)
      have b2 : rb.size * (nf + 2) ≤ 20 * 102 := Nat.mul_le_mul (by omega) (by omega)
      refine ⟨_, _, _, _, rfl, rfl, e4 _ _ l3, l4, Nat.le_trans (show 1 + ra.wv.length ≤ 5000 by omega) (by decide), fun p5 hp5 => ?_⟩
      have e05 := e04.trans (Ex.new (o := .lst ([.str x] ++ ra.wv)) hp5)
      have l5 : upd H4 p5 (.lst ([.str x] ++ ra.wv)) p5 = some (.lst ([.str x] ++ ra.wv)) := upd_same
      have hS5 := ex_t (e4.trans (Ex.new (o := .lst ([.str x] ++ ra.wv)) hp5)) (ex_t e3 hS2)
      refine ⟨_, rfl, _, _, _, _, rfl, rfl, hS5, rfl, _, rb, nf, rfl, Dp.ex e05 d3, wf3, hn, by omega, by omega, fun H6 p6 e6 hp6 l6 => ?_⟩
      refine ⟨_, _, _, _, rfl, rfl, e6 _ _ l5, l6, Nat.le_trans (show ([V.str x] ++ ra.wv).length + rb.wv.length ≤ 8000 by rw [List.length_append]; show 1 + ra.wv.length + rb.wv.length ≤ 8000; omega) (by decide), fun p7 hp7 => ?_⟩
      have e06 := e05.trans e6
      exact q _ p7 (e06.trans (Ex.new hp7)) (fresh_back e06 hp7) (by rw [upd_same, List.append_assoc] <;> rfl)
    | ou ra fee =>
      obtain ⟨a, xs, rfl, hS, hA⟩ := dp_tup dv
      obtain ⟨v1, r1, rfl, d1, hA⟩ := da_cons hA
      obtain ⟨v2, r2, rfl, d2, hA⟩ := da_cons hA
      obtain ⟨v3, r3, rfl, d3, hA⟩ := da_cons hA
      obtain rfl := da_nil hA
      obtain rfl := dp_str d1
      obtain rfl := dp_int d3
      have hsz : (Rl.ou ra fee).size = 1 + ra.size := rfl
      rw [hsz] at hz
      refine ⟨_, rfl, _, _, _, _, rfl, rfl, hS, rfl, rfl, _, rfl, iteB (by decide +kernel) ?_⟩
      refine ⟨_, rfl, _, _, _, _, rfl, rfl, hS, rfl, szc rfl, fun p3 hp3 => ?_⟩
      have e3 := Ex.new (o := .lst [.str "oust", .int fee]) hp3
      have l3 : upd H p3 (.lst [.str "oust", .int fee]) p3 = some (.lst [.str "oust", .int fee]) := upd_same
      refine ⟨_, rfl, _, _, _, _, rfl, rfl, ex_t e3 hS, rfl, _, ra, nf, rfl, Dp.ex e3 d2, wf.1, hn, by omega, by omega, fun H4 p4 e4 hp4 l4 => ?_⟩
      have e04 := e3.trans e4
      have la := (vts_ws wf.1).len
      have la2 := ws_len wf.1
      have b1 : ra.size * (nf + 2) ≤ 20 * 102 := Nat.mul_le_mul (by omega) (by omega)
      refine ⟨_, _, _, _, rfl, rfl, e4 _ _ l3, l4, Nat.le_trans (show 2 + ra.wv.length ≤ 5000 by omega) (by decide), fun p5 hp5 => ?_⟩
      exact q _ p5 (e04.trans (Ex.new hp5)) (fresh_back e04 hp5) upd_same
end
end K95

set_option Elab.async false
set_option linter.all false
set_option maxRecDepth 100000
set_option maxHeartbeats 4000000
namespace K95
open PySem PySem.Spec PyProof.Rows L2
open Evl (Ex ex_l ex_t fresh_back)
open TL (tl)
def spRuleText (K : PySem.W.Frag) : Sp := fun vs H Q E => ∃ hv v, vs = [hv, v] ∧
  ((∃ (s : Int) (fs : List Int) (r : Rl), HallOk s fs ∧ Dp K H hv (hallD s fs) ∧ Dp K H v r.d ∧ r.Wf fs.length ∧ r.size ≤ 7 ∧ bad s r = none ∧ ∀ H', Ex H H' → Q (.str r.txt) H') ∨
    (∃ (s : Int) (fs : List Int), HallOk s fs ∧ Dp K H hv (hallD s fs) ∧ Odd K H v ∧ ErrP K H E []) ∨ (Odd K H hv ∧ Err K H E "BadHall" ["part"] [.str "form"]))
def spNum : Sp := fun vs H Q _ => ∃ x : Str, vs = [.str x] ∧ x.length ≤ 1000000 ∧ ∀ H', Ex H H' → Q (.bl (numOk x)) H'
/-! ### the parts of a text -/
theorem spl_sum (S : List Nat) : ∀ (k : Nat) (acc l : List Nat), ((TL.spl S k acc l).map (fun p => p.length + 1)).sum ≤ acc.length + l.length + 1
  | k, acc, [] => by rw [TL.spl_nil]; simp
  | 0, acc, c :: r => by
    by_cases h : TL.pre S (c :: r) = true
    · rw [TL.spl_hit h]
      have ih := spl_sum S (S.length - 1) [] r
      simp only [List.map_cons, List.sum_cons, List.length_cons, List.length_nil] at ih ⊢
      omega
    · rw [TL.spl_miss (by simpa using h)]
      have ih := spl_sum S 0 (acc ++ [c]) r
      simp only [List.length_append, List.length_cons, List.length_nil] at ih ⊢
      omega
  | k + 1, acc, c :: r => by
    have ih := spl_sum S k acc r
    show ((TL.spl S k acc r).map (fun p => p.length + 1)).sum ≤ _
    simp only [List.length_cons]
    omega
theorem spl_ne (S : List Nat) : ∀ (k : Nat) (acc l : List Nat), TL.spl S k acc l ≠ []
  | k, acc, [] => by rw [TL.spl_nil]; simp
  | 0, acc, c :: r => by
    by_cases h : TL.pre S (c :: r) = true
    · rw [TL.spl_hit h]
      simp
    · rw [TL.spl_miss (by simpa using h)]
      exact spl_ne S 0 _ r
  | k + 1, acc, c :: r => spl_ne S k acc r
/-- one sign that parts a text -/
structure Cut (y : Str) : Prop where
  ne : tl y ≠ []
  hk : y.cps.all (· < 256) = true
theorem cut_sp : Cut " " := ⟨by decide +kernel, by decide +kernel⟩
theorem cut_nl : Cut "\n" := ⟨by decide +kernel, by decide +kernel⟩
theorem split_sum {y : Str} (c : Cut y) (x : Str) : ((Txt.split x y).map (fun p => p.length + 1)).sum ≤ x.length + 1 := by
  have h := TL.split_spl x y c.ne (TL.kind_ok c.hk)
  have h2 := spl_sum (tl y) 0 [] (tl x)
  rw [← h, List.map_map] at h2
  have e : ((fun p : List Nat => p.length + 1) ∘ tl) = fun p : Str => p.length + 1 := funext fun p => congrArg (· + 1) (TL.len_tl p).symm
  rw [e] at h2
  rw [TL.len_tl x]
  simpa using h2
theorem split_ne {y : Str} (c : Cut y) (x : Str) : Txt.split x y ≠ [] := fun e => by
  have h := TL.split_spl x y c.ne (TL.kind_ok c.hk)
  rw [e] at h
  exact spl_ne _ _ _ _ h.symm
theorem sum_mem : ∀ {l : List Str} {p : Str}, p ∈ l → p.length + 1 ≤ (l.map (fun p => p.length + 1)).sum
  | q :: l, p, h => by
    rw [List.map_cons, List.sum_cons]
    rcases List.mem_cons.mp h with rfl | h
    · omega
    · have := sum_mem h
      omega
theorem sum_len : ∀ (l : List Str), l.length ≤ (l.map (fun p => p.length + 1)).sum
  | [] => Nat.le_refl _
  | q :: l => by
    have := sum_len l
    rw [List.map_cons, List.sum_cons, List.length_cons]
    omega
theorem split_part {y : Str} (c : Cut y) {x p : Str} (h : p ∈ Txt.split x y) : p.length ≤ x.length := by
  have := sum_mem h
  have := split_sum c x
  omega
theorem split_cnt {y : Str} (c : Cut y) (x : Str) : (Txt.split x y).length ≤ x.length + 1 := Nat.le_trans (sum_len _) (split_sum c x)
/-- the lines of a text, each cut into words -/
def rowsD (x : Str) : PyData := .list ((rowsOf x).map fun r => .list (dSs r))
def spLines (K : PySem.W.Frag) : Sp := fun vs H Q E => ∃ v, vs = [v] ∧ ((∃ x : Str, v = .str x ∧ x.length ≤ 1000000 ∧ ∀ H' u, Ex H H' → Dp K H' u (rowsD x) → Q u H') ∨ (Odd K H v ∧ Err K H E "BadText" ["line", "word"] [.non, .non]))
def spEnd (K : PySem.W.Frag) : Sp := fun vs H Q E => ∃ (p : Addr) (xs : List V), vs = [.ref p, .int 1] ∧ SqL K H p xs ∧ 1 ≤ xs.length ∧ if 1 < xs.length then Err K H E "BadText" ["line", "word"] [.int 1, .int 0] else Q .non H
theorem one_eq (c : Nat) : decide (V.str ⟨#[c]⟩ = V.str "0") = decide (c = 48) := by
  by_cases h : c = 48
  · subst h
    decide +kernel
  · rw [decide_eq_false h, decide_eq_false]
    intro z
    have z2 : (⟨#[c]⟩ : Str) = "0" := V.str.inj z
    have z3 := congrArg tl z2
    have z4 : tl "0" = [48] := by decide +kernel
    rw [z4] at z3
    exact h (List.cons.inj z3).1
theorem str_eq (x y : Str) : decide (V.str x = V.str y) = decide (x = y) := by
  by_cases h : x = y
  · subst h
    simp
  · rw [decide_eq_false h, decide_eq_false fun z => h (V.str.inj z)]
section
variable {w : World} {K : PySem.W.Frag} {mg : Str → Option Value} {base : Heap}
abbrev nRule_text : List Str := ["hall", "rule"]
theorem scRule_text : FnScope nRule_text ["hall", "rule"] (defScope (top 38)) := ⟨rfl, rfl, rfl, by decide +kernel, rfl, by decide +kernel, by decide +kernel⟩
theorem ok_rule_text (T : Txt K mg) : FnOk PR w K mg base (L2.CX PR w) 10 (ga K "rule_text") (fdOf K "rule_text") ["hall", "rule"] (spRuleText K) := by
  refine T.drule_text.F.ok scRule_text (fun vs H Q E h => ?_) (fun cdv A outer s H vs Q E hr h => ?_)
  · obtain ⟨hv, v, rfl, _⟩ := h
    rfl
  refine ⟨_, (pss_cons (ps_expr (pe_call (ok_need_rule T) (hr.mono (by decide)) rfl T.dneed_rule.g T.dneed_rule.kp (bdneed_rule T) .nil (passes_call (takes_of rfl rfl rfl rfl) (fun _ _ _ _ h => h)) (pa_cons (pv 0) (pa_cons (pv 1) pa_nil))))
    (pss_one (ps_ret (pe_call (ok_joined T) (hr.mono (by decide)) rfl T.djoined.g T.djoined.kp (bdjoined T) .nil pass0 (pa_cons (pe_call (ok_words_of T 7) (hr.mono (by decide)) rfl T.dwords_of.g T.dwords_of.kp (bdwords_of T) .nil pass0 (pa_cons (pv 1) pa_nil)) pa_nil))))), ?_⟩
  obtain ⟨hv, v, rfl, h⟩ := h
  rcases h with ⟨sz, fs, r, ok, dh, dv, wf, hz, hb, q⟩ | ⟨sz, fs, ok, dh, odd, er⟩ | ⟨odd, er⟩
  · refine ⟨_, rfl, _, rfl, _, _, rfl, .inl ⟨sz, fs, r, ok, dh, dv, wf, hz, ?_⟩⟩
    rw [hb]
    intro H1 e1
    refine ⟨_, rfl, _, r, fs.length, rfl, Dp.ex e1 dv, wf, by have := ok.f4; omega, hz, by decide, fun H2 p e2 hp l2 => ?_⟩
    have hv := vts_ws wf
    have h1 := ws_len wf
    have h2 := hv.len
    have h4 := ok.f4
    have h3 : r.size * (fs.length + 2) ≤ 7 * 6 := Nat.mul_le_mul hz (by omega)
    exact ⟨_, _, _, rfl, SqL.of l2, hv, by omega, fun H3 e3 => by rw [txt_join]; exact q _ ((e1.trans e2).trans e3)⟩
  · exact ⟨_, rfl, _, rfl, _, _, rfl, .inr (.inl ⟨sz, fs, ok, dh, odd, er⟩)⟩
  · exact ⟨_, rfl, _, rfl, _, _, rfl, .inr (.inr ⟨odd, er⟩)⟩
abbrev nIs_number : List Str := ["word", "sign"]
theorem scIs_number : FnScope nIs_number ["word"] (defScope (top 39)) := ⟨rfl, rfl, rfl, by decide +kernel, rfl, by decide +kernel, by decide +kernel⟩
theorem ok_is_number (T : Txt K mg) : FnOk PR w K mg base CX0 1 (ga K "is_number") (fdOf K "is_number") ["word"] spNum := by
  refine T.dis_number.F.ok scIs_number (fun vs H Q E h => ?_) (fun cdv A outer s H vs Q E hr h => ?_)
  · obtain ⟨x, rfl, _⟩ := h
    rfl
  refine ⟨_, (pss_cons (ps_if (PW.pt (pw_or (pt_not (pt_chain op_le op_le pe_int (pe_callB call_len rfl T.f_len (by decide +kernel) (pa_cons (pv 0) pa_nil)) (pe_gI T.MOST_FIGURES))) (pw_or1 (pt_not (pt_val (pe_callB (cr_all rfl) rfl T.f_all (by decide +kernel) (pa_cons (pe_lc (own := [("sign", 1)]) (g := gName 1) (tt := tYes) rfl scIs_number.nd (pi_str (pv 0)) (blkOk_by (N := nIs_number) (sc := defScope (top 39)) (by decide +kernel)) (fun _ _ _ _ _ => pg_name (i := 1) scIs_number.nd rfl (Or.inl rfl)) (fun _ _ _ _ _ => pts_nil) (fun _ _ _ _ _ => (pe_cmpR op_in_sign (pv 1) (pe_gS T.FIGURES) rfl))) pa_nil)))))))
      (pss_one (ps_ret pe_bl))
      pss_nil)
    (pss_one (ps_ret (pe_or (pe_cmpR op_ne (pe_ix ix_str (pv 0) pe_int (fun _ _ => rfl)) pe_str (nomark _)) (pe_one (pe_cmpR op_eq (pv 0) pe_str (nomark _))))))), ?_⟩
  obtain ⟨x, rfl, hl, q⟩ := h
  have hsl : x.length ≤ sizeLine := Nat.le_trans hl (by decide)
  have q0 : numOk x = false → Q (.bl false) H := fun z => by
    have := q H (Ex.refl _)
    rwa [z] at this
  refine ⟨_, rfl, _, _, rfl, ⟨hsl, rfl⟩, _, _, rfl, rfl, _, rfl, ?_⟩
  by_cases h1 : 1 ≤ x.length
  rotate_left
  · refine iteB0 (decide_eq_false (by omega)) ⟨_, rfl, iteT (iteT (q0 ?_))⟩
    unfold numOk
    rw [decide_eq_false h1] <;> rfl
  refine iteB (decide_eq_true (by omega)) ⟨_, _, rfl, rfl, _, rfl, ?_⟩
  by_cases h7 : x.length ≤ 7
  rotate_left
  · refine iteNB0 (decide_eq_false (by omega)) (iteT (q0 ?_))
    unfold numOk
    rw [decide_eq_false h7, Bool.and_false] <;> rfl
  refine iteNB (decide_eq_true (by omega)) ?_
  refine ⟨_, rfl, _, rfl, fun D hD => lc_map walk_str ((tl x).map fun c => V.bl (decide (c ∈ tl "0123456789"))) (by rw [List.length_map] <;> rfl) (show x.length ≤ 16000000 by omega) hD (fun H' e => trivial) (fun i y H1 H2 z k hy e hY hk => ?_) (fun H1 e1 hD1 => ?_)⟩
  · obtain ⟨rfl, c, hc, rfl⟩ := hY
    have hc2 : (tl x)[i]? = some c := by rw [Array.getElem?_toList]; exact hc
    obtain rfl := get_map hc2 hy
    exact ⟨rfl, _, rfl, c, _, rfl, rfl, hk _ (Ex.refl _)⟩
  refine ⟨_, (tl x).map fun c => decide (c ∈ tl "0123456789"), rfl, SqL.of (by rw [hD1, List.map_map] <;> rfl), _, rfl, ?_⟩
  have q1 := q _ e1
  have hall : ((tl x).map fun c => decide (c ∈ tl "0123456789")).all id = (tl x).all fun c => decide (c ∈ tl "0123456789") := by rw [List.all_map] <;> rfl
  rw [hall]
  unfold numOk at q1
  rw [decide_eq_true h1, decide_eq_true h7] at q1
  refine ite2B (fun hb => ?_) (fun hb => ?_)
  · have hb' : ((tl x).all fun c => decide (c ∈ tl "0123456789")) = false := by simpa using hb
    rw [hb'] at q1
    exact q1
  have hb' : ((tl x).all fun c => decide (c ∈ tl "0123456789")) = true := by simpa using hb
  rw [hb'] at q1
  rw [TL.len_tl] at h1
  cases hx : tl x with
  | nil => rw [hx] at h1; exact absurd h1 (by decide)
  | cons c r =>
  rw [hx] at q1
  have q2 : Q (.bl (!decide (c = 48) || decide (x = "0"))) H1 := by
    have : decide ((c :: r)[0]? = some 48) = decide (c = 48) := by simp
    rw [this] at q1
    exact q1
  rw [← one_eq, ← str_eq] at q2
  refine ⟨_, rfl, _, _, c, rfl, rfl, hsl, (by rw [show x.cps.toList = c :: r from hx]; exact atI_nat (j := 0) rfl), rfl, _, rfl, ?_⟩
  cases hd : decide (V.str ⟨#[c]⟩ = V.str "0") with
  | false =>
    rw [hd] at q2
    exact iteT q2
  | true =>
    rw [hd] at q2
    exact iteF ⟨_, rfl, rfl, q2⟩
abbrev nLines_of : List Str := ["text", "line"]
theorem scLines_of : FnScope nLines_of ["text"] (defScope (top 40)) := ⟨rfl, rfl, rfl, by decide +kernel, rfl, by decide +kernel, by decide +kernel⟩
theorem ok_lines_of (T : Txt K mg) : FnOk PR w K mg base (L2.CX PR w) 4 (ga K "lines_of") (fdOf K "lines_of") ["text"] (spLines K) := by
  refine T.dlines_of.F.ok scLines_of (fun vs H Q E h => ?_) (fun cdv A outer s H vs Q E hr h => ?_)
  · obtain ⟨x, rfl, _⟩ := h
    rfl
  refine ⟨_, (pss_cons (ps_if (pt_not (pt_val (pe_isi (T := "str") (pv 0) T.f_isinstance T.f_str (by decide +kernel))))
      (pss_one (ps_raise rfl (takes_of rfl rfl rfl rfl) (pmk_BadText T.xText hr (pa_cons pe_non (pa_cons pe_non pa_nil)))))
      pss_nil)
    (pss_one (ps_ret (pe_lc (own := [("line", 1)]) (g := gName 1) (tt := tYes) rfl scLines_of.nd (pi_list (pe_split (pv 0) pe_str)) (blkOk_by (N := nLines_of) (sc := defScope (top 40)) (by decide +kernel)) (fun _ _ _ _ _ => pg_name (i := 1) scLines_of.nd rfl (Or.inl rfl)) (fun _ _ _ _ _ => pts_nil) (fun _ _ _ _ _ => (pe_split (pv 1) pe_str)))))), ?_⟩
  obtain ⟨v, rfl, ⟨x, rfl, hl, q⟩ | ⟨odd, er⟩⟩ := h
  · refine ⟨_, rfl, _, _, _, _, true, rfl, .ty _, .base (.str x), kit_ty (by decide +kernel), _, rfl, iteF ?_⟩
    have hsl : x.length + 2 ≤ sizeLine := Nat.le_trans (show x.length + 2 ≤ 1000002 by omega) (by decide)
    have hc := split_cnt cut_nl x
    refine ⟨_, rfl, ⟨_, rfl⟩, _, _, rfl, rfl, rfl, hsl, fun p hp => ?_⟩
    have e1 := Ex.new (o := .lst ((Txt.split x "\n").map V.str)) hp
    have l1 : upd H p (.lst ((Txt.split x "\n").map V.str)) p = some (.lst ((Txt.split x "\n").map V.str)) := upd_same
    refine ⟨_, rfl, ⟨_, SqL.of l1⟩, fun D hD => ?_⟩
    refine lc_rel (walk_list (K := K) (xs := (Txt.split x "\n").map V.str)) (fun i y Hy => ∃ (a : Addr) (z : Str), (Txt.split x "\n")[i]? = some z ∧ y = .ref a ∧ a ≠ D ∧ Hy a = some (.lst ((Txt.split z " ").map V.str)))
      (by rw [List.length_map]; omega) hD (fun Hy ey => ex_l ey (SqL.of l1)) (fun i y Hy Hz hy ez => ?_) (fun i z Hy Hz k2 hi ey hY hacc hk2 => ?_) (fun Hy acc ey hDy hla hR => ?_)
    · obtain ⟨a, z, h1, h2, h3, h4⟩ := hy
      exact ⟨a, z, h1, h2, h3, ez _ _ h3 h4⟩
    · obtain ⟨rfl, hz⟩ := hY
      obtain ⟨u, hu, rfl⟩ := get_str hz
      obtain ⟨acc, hacc⟩ := hacc
      have hul := split_part cut_nl (List.mem_of_getElem? hu)
      refine ⟨rfl, _, rfl, ⟨_, rfl⟩, _, _, rfl, rfl, rfl, Nat.le_trans (show u.length + 2 ≤ 1000002 by omega) (by decide), fun p2 hp2 => ?_⟩
      exact hk2 _ _ (Ex.new hp2) ⟨p2, u, hu, rfl, (ne_of_none hacc hp2).symm, upd_same⟩
    · refine q _ _ (e1.trans ey) (.lst (SqL.of hDy) (da_of ?_ fun j y d hy hd => ?_))
      · rw [hla]
        simp [rowsOf]
      · obtain ⟨a, z, h1, rfl, h3, h4⟩ := hR j y hy
        have hr : (rowsOf x)[j]? = some (Txt.split z " ") := by
          unfold rowsOf
          rw [List.getElem?_map, h1] <;> rfl
        obtain rfl := get_map hr hd
        exact .lst (SqL.of h4) (da_strs _)
  · rcases odd with rfl | ⟨i, rfl⟩ | ⟨b, rfl⟩ | ⟨a, rfl, hS⟩ | ⟨a, rfl, hS⟩
    · exact ⟨_, rfl, _, _, _, _, false, rfl, .ty _, .base .non, kit_ty (by decide +kernel), _, rfl, iteT ⟨rfl, er.go⟩⟩
    · exact ⟨_, rfl, _, _, _, _, false, rfl, .ty _, .base (.int i), kit_ty (by decide +kernel), _, rfl, iteT ⟨rfl, er.go⟩⟩
    · exact ⟨_, rfl, _, _, _, _, false, rfl, .ty _, .base (.bl b), kit_ty (by decide +kernel), _, rfl, iteT ⟨rfl, er.go⟩⟩
    · exact ⟨_, rfl, _, _, _, _, false, rfl, .ty _, ty_tup hS, kit_ty (by decide +kernel), _, rfl, iteT ⟨rfl, er.go⟩⟩
    · exact ⟨_, rfl, _, _, _, _, false, rfl, .ty _, ty_lst hS, kit_ty (by decide +kernel), _, rfl, iteT ⟨rfl, er.go⟩⟩
abbrev nNeeded_end : List Str := ["rows", "many"]
theorem scNeeded_end : FnScope nNeeded_end ["rows", "many"] (defScope (top 41)) := ⟨rfl, rfl, rfl, by decide +kernel, rfl, by decide +kernel, by decide +kernel⟩
theorem ok_needed_end (T : Txt K mg) : FnOk PR w K mg base (L2.CX PR w) 4 (ga K "needed_end") (fdOf K "needed_end") ["rows", "many"] (spEnd K) := by
  refine T.dneeded_end.F.ok scNeeded_end (fun vs H Q E h => ?_) (fun cdv A outer s H vs Q E hr h => ?_)
  · obtain ⟨p, xs, rfl, _⟩ := h
    rfl
  refine ⟨_, (pss_cons (ps_if (pt_cmpR op_lt (pe_callB call_len rfl T.f_len (by decide +kernel) (pa_cons (pv 0) pa_nil)) (pv 1) (nomark _))
      (pss_one (ps_raise rfl (takes_of rfl rfl rfl rfl) (pmk_BadText T.xText hr (pa_cons (pe_callB call_len rfl T.f_len (by decide +kernel) (pa_cons (pv 0) pa_nil)) (pa_cons pe_int pa_nil)))))
      pss_nil)
    (pss_one (ps_if (pt_cmpR op_gt (pe_callB call_len rfl T.f_len (by decide +kernel) (pa_cons (pv 0) pa_nil)) (pv 1) (nomark _))
      (pss_one (ps_raise rfl (takes_of rfl rfl rfl rfl) (pmk_BadText T.xText hr (pa_cons (pv 1) (pa_cons pe_int pa_nil)))))
      pss_nil))), ?_⟩
  obtain ⟨p, xs, rfl, hS, h1, q⟩ := h
  refine ⟨_, rfl, _, _, rfl, .inl ⟨_, hS, rfl⟩, _, rfl, _, _, rfl, rfl, _, rfl, iteB0 (decide_eq_false (by omega)) ?_⟩
  refine ⟨_, rfl, _, _, rfl, .inl ⟨_, hS, rfl⟩, _, rfl, _, _, rfl, rfl, _, rfl, ?_⟩
  by_cases h2 : 1 < xs.length
  · rw [if_pos h2] at q
    exact iteB (decide_eq_true (by omega)) ⟨_, rfl, rfl, q.go⟩
  · rw [if_neg h2] at q
    exact iteB0 (decide_eq_false (by omega)) q
end
end K95

set_option Elab.async false
set_option linter.all false
set_option maxRecDepth 100000
set_option maxHeartbeats 4000000
namespace K95
open PySem PySem.Spec PyProof.Rows L2
open Evl (Ex ex_l ex_t fresh_back)
open TL (tl)
def atEnd (K : PySem.W.Frag) (H : Hp) (Q : VK) (E : XK) : Except Nat (Rl × Nat × Nat) → Prop
  | .error e => Err K H E "BadText" ["line", "word"] [.int 0, .int e]
  | .ok (r, k1, m1) => ∀ H' v, Ex H H' → Dp K H' v (.tuple [r.d, .int k1, .int m1]) → Q v H'
def spRuleAt (K : PySem.W.Frag) (f : Nat) : Sp := fun vs H Q E => ∃ (p : Addr) (ws : List Str) (k nf m : Nat), vs = [.ref p, .int k, .int nf, .int m] ∧ SqL K H p (ws.map V.str) ∧ k ≤ ws.length ∧ ws.length ≤ 1000000 ∧ (∀ w ∈ ws, w.length ≤ 1000000) ∧
  nf ≤ 100 ∧ m ≤ 7 ∧ 8 ≤ m + f ∧ f ≤ 20 ∧ atEnd K H Q E (parse f ws k nf m)
theorem cut_nat (xs : List V) (a b : Nat) (h1 : a ≤ b) (h2 : b ≤ xs.length) : cutV xs (some (a : Int)) (some (b : Int)) = (xs.drop a).take (b - a) := by
  unfold cutV
  rw [HT.sIx_nat, HT.sIx_nat, Nat.min_eq_left h2, Nat.min_eq_left (Nat.le_trans h1 h2)]
theorem drop_nums {ws : List Str} {a n i : Nat} {x : V} (h : (((ws.map V.str).drop a).take n)[i]? = some x) : ∃ u, x = .str u ∧ ws[a + i]? = some u ∧ i < n ∧ ((ws.drop a).take n)[i]? = some u := by
  have e : ((ws.map V.str).drop a).take n = (((ws.drop a).take n).map V.str) := by rw [← List.map_drop, ← List.map_take]
  rw [e] at h
  obtain ⟨u, hu, rfl⟩ := get_str h
  have hi : i < n := by
    have := (List.getElem?_eq_some_iff.mp hu).1
    rw [List.length_take] at this
    omega
  have h2 := hu
  rw [List.getElem?_take, if_pos hi, List.getElem?_drop] at h2
  exact ⟨u, rfl, h2, hi, hu⟩
section
variable {w : World} {K : PySem.W.Frag} {mg : Str → Option Value} {base : Heap}
abbrev nRule_at : List Str := ["words", "spot", "fares", "many", "word", "one", "other", "size", "place", "numbers"]
theorem scRule_at : FnScope nRule_at ["words", "spot", "fares", "many"] (defScope (top 42)) := ⟨rfl, rfl, rfl, by decide +kernel, rfl, by decide +kernel, by decide +kernel⟩
theorem ok_rule_at (T : Txt K mg) : ∀ f, FnOk PR w K mg base (L2.CX PR w) (f + 4) (ga K "rule_at") (fdOf K "rule_at") ["words", "spot", "fares", "many"] (spRuleAt K f)
  | 0 => by
    refine T.drule_at.F.ok scRule_at (fun vs H Q E h => ?_) (fun cdv A outer s H vs Q E hr h => ?_)
    · obtain ⟨p, ws, k, nf, m, rfl, _⟩ := h
      rfl
    · obtain ⟨p, ws, k, nf, m, rfl, _, _, _, _, _, h1, h2, _⟩ := h
      omega
  | f + 1 => by
    have ih := ok_rule_at T f
    refine T.drule_at.F.ok scRule_at (fun vs H Q E h => ?_) (fun cdv A outer s H vs Q E hr h => ?_)
    · obtain ⟨p, ws, k, nf, m, rfl, _⟩ := h
      rfl
    have hr1 : Room 1 (A.deeper (envOfC "rule_at" (defScope (top 42)) s.heap.objs.size (He.ga K "rule_at") cdv)) := hr.mono (by omega)
    refine ⟨_, (pss_cons (ps_if (PW.pt (pw_or (pt_cmpR op_eq (pv 1) (pe_callB call_len rfl T.f_len (by decide +kernel) (pa_cons (pv 0) pa_nil)) (nomark _)) (pw_or (pt_cmpR op_notIn_seq (pe_ix ix_list (pv 0) (pv 1) (fun _ _ => rfl)) (show PE _ _ (tC (.ref (ga K "WORDS"))) from pe_glob rfl T.gWORDS rfl) rfl) (pw_or1 (pt_cmpR op_eq (pv 3) (pe_gI T.MOST_WORDS) (nomark _))))))
        (pss_one (ps_raise rfl (takes_of rfl rfl rfl rfl) (pmk_BadText T.xText hr (pa_cons pe_int (pa_cons (pv 1) pa_nil)))))
        pss_nil)
      (pss_cons (ps_par (i := 4) (j := 3) rfl scRule_at.nd rfl rfl (by decide) rfl rfl (pa_cons (pe_ix ix_list (pv 0) (pv 1) (fun _ _ => rfl)) (pa_cons (pe_op op_add (pv 3) pe_int) pa_nil)) rfl)
      (pss_cons (ps_if (pt_cmpR op_in_seq (pv 4) (pe_tup (pa_cons (pe_gS T.ALL) (pa_cons (pe_gS T.ANY) pa_nil))) rfl)
        (pss_cons (ps_asg (pe_call ih hr rfl T.drule_at.g T.drule_at.kp (bdrule_at T) .nil (passes_call (takes_of rfl rfl rfl rfl) (fun _ _ _ _ h => h)) (pa_cons (pv 0) (pa_cons (pe_op op_add (pv 1) pe_int) (pa_cons (pv 2) (pa_cons (pv 3) pa_nil))))) (pg_tup rfl (pgs_cons (pg_name (i := 5) scRule_at.nd rfl (Or.inl rfl)) (pgs_cons (pg_name (i := 1) scRule_at.nd rfl (Or.inl rfl)) (pgs_cons (pg_name (i := 3) scRule_at.nd rfl (Or.inl rfl)) pgs_nil)))))
        (pss_cons (ps_asg (pe_call ih hr rfl T.drule_at.g T.drule_at.kp (bdrule_at T) .nil (passes_call (takes_of rfl rfl rfl rfl) (fun _ _ _ _ h => h)) (pa_cons (pv 0) (pa_cons (pv 1) (pa_cons (pv 2) (pa_cons (pv 3) pa_nil))))) (pg_tup rfl (pgs_cons (pg_name (i := 6) scRule_at.nd rfl (Or.inl rfl)) (pgs_cons (pg_name (i := 1) scRule_at.nd rfl (Or.inl rfl)) (pgs_cons (pg_name (i := 3) scRule_at.nd rfl (Or.inl rfl)) pgs_nil)))))
        (pss_one (ps_ret (pe_tup (pa_cons (pe_tup (pa_cons (pv 4) (pa_cons (pv 5) (pa_cons (pv 6) pa_nil)))) (pa_cons (pv 1) (pa_cons (pv 3) pa_nil))))))))
        pss_nil)
      (pss_cons (ps_set (i := 7) scRule_at.nd rfl (Or.inl rfl) (pe_ifExp (pt_cmpR op_eq (pv 4) (pe_gS T.OUST) (nomark _)) pe_int (pv 2)))
      (pss_cons (ps_for (passes_of rfl) rfl (pi_range2 rfl T.f_range (pa_cons (pe_op op_add (pv 1) pe_int) (pa_cons (pe_op op_add (pe_op op_add (pv 1) pe_int) (pv 7)) pa_nil))) (pg_name (i := 8) scRule_at.nd rfl (Or.inl rfl))
        (pss_one (ps_if (PW.pt (pw_or (pt_cmpR op_ge (pv 8) (pe_callB call_len rfl T.f_len (by decide +kernel) (pa_cons (pv 0) pa_nil)) (nomark _)) (pw_or1 (pt_not (pt_val (pe_call (ok_is_number T) hr1 rfl T.dis_number.g T.dis_number.kp (bdis_number T) .nil pass0 (pa_cons (pe_ix ix_list (pv 0) (pv 8) (fun _ _ => rfl)) pa_nil)))))))
          (pss_one (ps_raise rfl (takes_of rfl rfl rfl rfl) (pmk_BadText T.xText hr (pa_cons pe_int (pa_cons (pe_callB (call_min2 rfl) rfl T.f_min (by decide +kernel) (pa_cons (pv 8) (pa_cons (pe_callB call_len rfl T.f_len (by decide +kernel) (pa_cons (pv 0) pa_nil)) pa_nil))) pa_nil)))))
          pss_nil)))
      (pss_cons (ps_set (i := 9) scRule_at.nd rfl (Or.inl rfl) (pe_callTy call_tuple_of rfl T.f_tuple (by decide +kernel) (pa_cons (pe_lc (own := [("one", 5)]) (g := gName 5) (tt := tYes) rfl scRule_at.nd (pi_list (pe_slice sl_list (pv 0) (po_some (pe_op op_add (pv 1) pe_int)) (po_some (pe_op op_add (pe_op op_add (pv 1) pe_int) (pv 7))))) (blkOk_by (N := nRule_at) (sc := defScope (top 42)) (by decide +kernel)) (fun _ _ _ _ _ => pg_name (i := 5) scRule_at.nd rfl (Or.inl rfl)) (fun _ _ _ _ _ => pts_nil) (fun _ _ _ _ _ => (pe_callTy call_int_str rfl T.f_int (by decide +kernel) (pa_cons (pv 5) pa_nil)))) pa_nil)))
      (pss_cons (ps_if (pt_cmpR op_ne (pv 4) (pe_gS T.OUST) (nomark _))
        (pss_one (ps_ret (pe_tup (pa_cons (pe_tup (pa_cons (pv 4) (pa_cons (pv 9) pa_nil))) (pa_cons (pe_op op_add (pe_op op_add (pv 1) pe_int) (pv 7)) (pa_cons (pv 3) pa_nil))))))
        pss_nil)
      (pss_cons (ps_asg (pe_call ih hr rfl T.drule_at.g T.drule_at.kp (bdrule_at T) .nil (passes_call (takes_of rfl rfl rfl rfl) (fun _ _ _ _ h => h)) (pa_cons (pv 0) (pa_cons (pe_op op_add (pv 1) pe_int) (pa_cons (pv 2) (pa_cons (pv 3) pa_nil))))) (pg_tup rfl (pgs_cons (pg_name (i := 5) scRule_at.nd rfl (Or.inl rfl)) (pgs_cons (pg_name (i := 1) scRule_at.nd rfl (Or.inl rfl)) (pgs_cons (pg_name (i := 3) scRule_at.nd rfl (Or.inl rfl)) pgs_nil)))))
      (pss_one (ps_ret (pe_tup (pa_cons (pe_tup (pa_cons (pe_gS T.OUST) (pa_cons (pv 5) (pa_cons (pe_ix ix_tup (pv 9) pe_int (fun _ _ => rfl)) pa_nil)))) (pa_cons (pv 1) (pa_cons (pv 3) pa_nil)))))))))))))), ?_⟩
    obtain ⟨p, ws, k, nf, m, rfl, hS, hk, hwl, hw7, hnf, hm, hmf, hf, q⟩ := h
    have hlen : (ws.map V.str).length = ws.length := List.length_map _
    refine ⟨_, rfl, _, rfl, _, _, rfl, .inl ⟨_, hS, rfl⟩, rfl, _, rfl, ?_⟩
    unfold parse at q
    cases hw : ws[k]? with
    | none =>
      rw [hw] at q
      have hkl : k = ws.length := by
        have := List.getElem?_eq_none_iff.mp hw
        omega
      refine iteB (decide_eq_true (by rw [hlen, hkl])) (iteT ⟨_, rfl, rfl, q.go⟩)
    | some w =>
      rw [hw] at q
      dsimp only at q
      have hkl : k < ws.length := (List.getElem?_eq_some_iff.mp hw).1
      refine iteB0 (decide_eq_false (fun z => by have z2 := V.int.inj z; rw [hlen] at z2; omega)) ?_
      have hat : atI (ws.map V.str) (k : Int) = some (.str w) := atI_nat (by rw [List.getElem?_map, hw] <;> rfl)
      refine ⟨_, rfl, _, rfl, _, _, _, _, rfl, rfl, hS, hat, _, _, rfl, .inr (T.tWORDS H), rfl, rfl, _, rfl, ?_⟩
      have ein := inV_str w wnames
      show (if (!inV (.str w) (wnames.map V.str)) = true then _ else _)
      rw [ein]
      by_cases c1 : w ∈ wnames
      rotate_left
      · rw [if_pos (.inl c1)] at q
        exact iteNB0 (decide_eq_false c1) (iteT ⟨_, rfl, rfl, q.go⟩)
      refine iteNB (decide_eq_true c1) ?_
      refine ⟨_, rfl, rfl, _, rfl, ?_⟩
      by_cases c2 : m = 7
      · rw [if_pos (.inr c2)] at q
        exact iteB (decide_eq_true (by rw [c2] <;> rfl)) ⟨_, rfl, rfl, q.go⟩
      rw [if_neg (fun z => z.elim (fun z => z c1) c2)] at q
      refine iteB0 (decide_eq_false (fun z => by have z2 := V.int.inj z; omega)) ?_
      refine ⟨_, rfl, _, rfl, _, _, _, _, rfl, rfl, hS, hat, _, rfl, _, _, rfl, rfl, _, _, rfl, ?_⟩
      refine ⟨_, rfl, szc rfl, fun p2 hp2 => ⟨_, _, rfl, .inr (SqT.of upd_same), rfl, rfl, _, rfl, ?_⟩⟩
      have ein2 := inV_str w cbW
      show (if inV (.str w) (cbW.map V.str) = true then _ else _)
      rw [ein2]
      have e0 := Ex.new (o := .tup [.str "all", .str "any"]) hp2
      have hS0 := ex_l e0 hS
      by_cases c3 : w ∈ cbW
      · rw [if_pos c3] at q
        refine iteB (decide_eq_true c3) ?_
        refine ⟨_, rfl, _, rfl, _, _, rfl, rfl, _, rfl, _, rfl, p, ws, k + 1, nf, m + 1, rfl, hS0, by omega, hwl, hw7, hnf, by omega, by omega, by omega, ?_⟩
        cases ea : parse f ws (k + 1) nf (m + 1) with
        | error e =>
          rw [ea] at q
          exact Err.ex (show Err K H E "BadText" ["line", "word"] [.int 0, .int e] from q) e0
        | ok ra =>
          obtain ⟨ra, k1, m1⟩ := ra
          rw [ea] at q
          dsimp only at q
          obtain ⟨a1, a2, a3, a4, a5⟩ := parse_ok (by omega) ea
          have rap := ra.size_pos
          intro H1 v1 e1 d1
          obtain ⟨t1, ys, rfl, hT, dA⟩ := dp_tup d1
          obtain ⟨y1, r1, rfl, dy1, dA⟩ := da_cons dA
          obtain ⟨y2, r2, rfl, dy2, dA⟩ := da_cons dA
          obtain ⟨y3, r3, rfl, dy3, dA⟩ := da_cons dA
          obtain rfl := da_nil dA
          obtain rfl := dp_int dy2
          obtain rfl := dp_int dy3
          refine ⟨_, _, rfl, hT, rfl, _, _, rfl, _, _, rfl, _, _, rfl, rfl, ?_⟩
          refine ⟨_, rfl, _, rfl, _, rfl, _, rfl, p, ws, k1, nf, m1, rfl, ex_l e1 hS0, by omega, hwl, hw7, hnf, by omega, by omega, by omega, ?_⟩
          cases eb : parse f ws k1 nf m1 with
          | error e =>
            rw [eb] at q
            exact Err.ex (show Err K H E "BadText" ["line", "word"] [.int 0, .int e] from q) (e0.trans e1)
          | ok rb =>
            obtain ⟨rb, k2, m2⟩ := rb
            rw [eb] at q
            dsimp only at q
            intro H2 v2 e2 d2
            obtain ⟨t2, zs, rfl, hT2, dB⟩ := dp_tup d2
            obtain ⟨z1, r1, rfl, dz1, dB⟩ := da_cons dB
            obtain ⟨z2, r2, rfl, dz2, dB⟩ := da_cons dB
            obtain ⟨z3, r3, rfl, dz3, dB⟩ := da_cons dB
            obtain rfl := da_nil dB
            obtain rfl := dp_int dz2
            obtain rfl := dp_int dz3
            refine ⟨_, _, rfl, hT2, rfl, _, _, rfl, _, _, rfl, _, _, rfl, rfl, ?_⟩
            refine ⟨_, rfl, _, rfl, _, rfl, szc rfl, fun p3 hp3 => ⟨_, rfl, _, rfl, szc rfl, fun p4 hp4 => ?_⟩⟩
            have dw : Dp K (upd H2 p3 (.tup [.str w, y1, z1])) (.ref p3) (Rl.cb w ra rb).d := tup_new hp3 (.cons (.str w) (.cons (Dp.ex e2 dy1) (.cons dz1 .nil)))
            exact q _ _ ((((e0.trans e1).trans e2).trans (Ex.new hp3)).trans (Ex.new hp4)) (tup_new hp4 (.cons dw (.cons (.int _) (.cons (.int _) .nil))))
      rw [if_neg c3] at q
      refine iteB0 (decide_eq_false c3) ?_
      generalize hH0 : upd H p2 (.tup [.str "all", .str "any"]) = H0 at *
      by_cases c4 : w = "oust"
      · rw [if_pos c4, if_neg (fun z => z c4)] at q
        refine ⟨_, rfl, rfl, _, rfl, iteB (decide_eq_true (congrArg V.str c4)) ?_⟩
        -- the numbers of the word
        refine ⟨_, rfl, _, _, rfl, rfl, _, rfl, _, _, rfl, rfl, _, rfl, _, _, rfl, rfl, _, _, rfl, ⟨by omega, by omega, by omega, by omega⟩, ?_⟩
        have hN : (((k : Int) + 1 + 1) - ((k : Int) + 1)).toNat = 1 := by omega
        refine for_it walk_range (fun i σ H1 => ∃ c8, σ = [some (.ref p), some (.int k), some (.int nf), some (.int (m + 1)), some (.str w), none, none, some (.int 1), c8, none] ∧ Ex H0 H1 ∧ firstBad ws (k + 1) 1 = firstBad ws (k + 1 + i) (1 - i)) ⟨_, rfl, Ex.refl _, rfl⟩ (fun _ _ _ _ _ => trivial) (fun i x σ H1 H2 hi hP hY => ?_) (fun σ H1 hP => ?_)
        · obtain ⟨c8, rfl, e1, hfb⟩ := hP
          obtain ⟨rfl, rfl⟩ := hY
          rw [hN] at hi
          have hS1 := ex_l e1 hS0
          have hstep : firstBad ws (k + 1 + i) (1 - i) = if badAt ws (k + 1 + i) = true then some (min (k + 1 + i) ws.length) else firstBad ws (k + 1 + (i + 1)) (1 - (i + 1)) := by
            rw [show 1 - i = (1 - (i + 1)) + 1 by omega] <;> rfl
          refine ⟨_, rfl, _, rfl, _, _, rfl, .inl ⟨_, hS1, rfl⟩, _, _, rfl, rfl, _, rfl, ?_⟩
          cases hwi : ws[k + 1 + i]? with
          | none =>
            have hlk : ws.length ≤ k + 1 + i := List.getElem?_eq_none_iff.mp hwi
            have hb : badAt ws (k + 1 + i) = true := by unfold badAt; rw [hwi]
            rw [hb, if_pos rfl] at hstep
            rw [hfb, hstep] at q
            refine iteB (decide_eq_true (by rw [hlen]; omega)) (iteT ?_)
            refine ⟨_, rfl, _, rfl, _, _, rfl, .inl ⟨_, hS1, rfl⟩, _, _, rfl, rfl, fun d hd => ?_⟩
            have eI : (if ((ws.map V.str).length : Int) < (k : Int) + 1 + i then ((ws.map V.str).length : Int) else (k : Int) + 1 + i) = ((min (k + 1 + i) ws.length : Nat) : Int) := by
              rw [hlen]
              by_cases hh : (ws.length : Int) < (k : Int) + 1 + i
              · rw [if_pos hh]
                omega
              · rw [if_neg hh]
                omega
            rw [eI]
            exact Err.go (Err.ex (show Err K H E "BadText" ["line", "word"] [.int 0, .int ((min (k + 1 + i) ws.length : Nat) : Int)] from q) (e0.trans e1)) d hd
          | some wi =>
            have hlk : k + 1 + i < ws.length := (List.getElem?_eq_some_iff.mp hwi).1
            have hb : badAt ws (k + 1 + i) = !numOk wi := by unfold badAt; rw [hwi]
            refine iteB0 (decide_eq_false (by rw [hlen]; omega)) ?_
            have hati : atI (ws.map V.str) ((k : Int) + 1 + i) = some (.str wi) := by
              rw [show (k : Int) + 1 + i = ((k + 1 + i : Nat) : Int) by omega]
              exact atI_nat (by rw [List.getElem?_map, hwi] <;> rfl)
            refine ⟨_, rfl, _, rfl, _, _, _, _, rfl, rfl, hS1, hati, wi, rfl, hw7 _ (List.mem_of_getElem? hwi), fun H2 e2 => ⟨_, rfl, ?_⟩⟩
            cases hok : numOk wi with
            | false =>
              rw [hok] at hb
              rw [hb, if_pos (by rfl)] at hstep
              rw [hfb, hstep] at q
              refine iteT ⟨_, rfl, _, rfl, _, _, rfl, .inl ⟨_, ex_l e2 hS1, rfl⟩, _, _, rfl, rfl, fun d hd => ?_⟩
              have eI : (if ((ws.map V.str).length : Int) < (k : Int) + 1 + i then ((ws.map V.str).length : Int) else (k : Int) + 1 + i) = ((min (k + 1 + i) ws.length : Nat) : Int) := by
                rw [hlen, if_neg (by omega)]
                omega
              rw [eI]
              exact Err.go (Err.ex (show Err K H E "BadText" ["line", "word"] [.int 0, .int ((min (k + 1 + i) ws.length : Nat) : Int)] from q) ((e0.trans e1).trans e2)) d hd
            | true =>
              rw [hok] at hb
              rw [hb, if_neg (by decide)] at hstep
              exact iteF ⟨_, rfl, e1.trans e2, by rw [hfb, hstep]⟩
        · obtain ⟨c8, rfl, e1, hfb⟩ := hP
          rw [hN, Nat.sub_self] at hfb
          have hfb : firstBad ws (k + 1) 1 = none := hfb
          rw [hfb] at q
          dsimp only at q
          obtain ⟨n1, n2⟩ := firstBad_none (by omega) hfb
          have hS1 := ex_l e1 hS0
          refine ⟨_, rfl, _, rfl, _, _, rfl, rfl, _, rfl, _, rfl, _, _, rfl, rfl, _, rfl, _, _, rfl, rfl, _, rfl, _, _, rfl, hS1, fun p3 hp3 => ?_⟩
          have hcut : cutV (ws.map V.str) (some ((k : Int) + 1)) (some ((k : Int) + 1 + 1)) = ((ws.map V.str).drop (k + 1)).take 1 := by
            have := cut_nat (ws.map V.str) (k + 1) (k + 1 + 1) (by omega) (by rw [hlen]; omega)
            rw [show k + 1 + 1 - (k + 1) = 1 by omega] at this
            rw [← this]
            rfl
          rw [hcut]
          have e3 := Ex.new (o := .lst (((ws.map V.str).drop (k + 1)).take 1)) hp3
          have l3 : upd H1 p3 (.lst (((ws.map V.str).drop (k + 1)).take 1)) p3 = some (.lst (((ws.map V.str).drop (k + 1)).take 1)) := upd_same
          have hnl : (((ws.map V.str).drop (k + 1)).take 1).length = 1 := by rw [List.length_take, List.length_drop, hlen]; omega
          have hna := len_numsAt n1
          refine ⟨_, rfl, ⟨_, SqL.of l3⟩, fun D hD => lc_map walk_list ((numsAt ws (k + 1) 1).map V.int) (by rw [List.length_map, hna, hnl]) (by rw [hnl]; omega) hD (fun H' e => ex_l e (SqL.of l3)) (fun i x H2 H3 y k2 hy e hY hk => ?_) (fun H2 e4 hD4 => ?_)⟩
          · obtain ⟨rfl, hx⟩ := hY
            obtain ⟨u, rfl, hu, hi, hu2⟩ := drop_nums hx
            obtain ⟨u', hu', hok⟩ := n2 (k + 1 + i) (by omega) (by omega)
            rw [hu] at hu'
            cases hu'
            have hz : (numsAt ws (k + 1) 1)[i]? = some (numVal u) := by
              unfold numsAt
              rw [List.getElem?_map, hu2] <;> rfl
            obtain rfl := get_map hz hy
            exact ⟨rfl, _, rfl, u, _, rfl, numOk_int hok, by have := (numOk_split hok).2.1; omega, hk _ (Ex.refl _)⟩
          refine ⟨_, _, rfl, .inl ⟨SqL.of hD4, fun p5 hp5 => ?_⟩⟩
          have e5 := Ex.new (o := .tup ((numsAt ws (k + 1) 1).map V.int)) hp5
          have hT5 : SqT K (upd H2 p5 (.tup ((numsAt ws (k + 1) 1).map V.int))) p5 ((numsAt ws (k + 1) 1).map V.int) := SqT.of upd_same
          have eH5 := (((e0.trans e1).trans e3).trans e4).trans e5
          have hS5 := ex_l ((e3.trans e4).trans e5) hS1
          obtain ⟨fee, hfee⟩ : ∃ fee, numsAt ws (k + 1) 1 = [fee] := by
            cases hh : numsAt ws (k + 1) 1 with
            | nil => rw [hh] at hna; cases hna
            | cons x y =>
              cases y with
              | nil => exact ⟨x, rfl⟩
              | cons y z => rw [hh] at hna; cases hna
          rw [hfee] at q hT5 e5 eH5 hS5 ⊢
          refine ⟨_, rfl, rfl, _, rfl, iteNB (decide_eq_true (congrArg V.str c4)) ?_⟩
          refine ⟨_, rfl, _, rfl, _, _, rfl, rfl, _, rfl, _, rfl, p, ws, k + 2, nf, m + 1, rfl, hS5, by omega, hwl, hw7, hnf, by omega, by omega, by omega, ?_⟩
          cases ea : parse f ws (k + 2) nf (m + 1) with
          | error e =>
            rw [ea] at q
            exact Err.ex (show Err K H E "BadText" ["line", "word"] [.int 0, .int e] from q) eH5
          | ok ra =>
            obtain ⟨ra, k1, m1⟩ := ra
            rw [ea] at q
            dsimp only at q
            intro H6 v1 e6 d1
            obtain ⟨t1, ys, rfl, hT, dA⟩ := dp_tup d1
            obtain ⟨y1, r1, rfl, dy1, dA⟩ := da_cons dA
            obtain ⟨y2, r2, rfl, dy2, dA⟩ := da_cons dA
            obtain ⟨y3, r3, rfl, dy3, dA⟩ := da_cons dA
            obtain rfl := da_nil dA
            obtain rfl := dp_int dy2
            obtain rfl := dp_int dy3
            refine ⟨_, _, rfl, hT, rfl, _, _, rfl, _, _, rfl, _, _, rfl, rfl, ?_⟩
            refine ⟨_, rfl, _, rfl, _, _, _, _, rfl, rfl, ex_t e6 hT5, atI_nat (j := 0) rfl, szc rfl, fun p6 hp6 => ⟨_, rfl, _, rfl, szc rfl, fun p7 hp7 => ?_⟩⟩
            have dw : Dp K (upd H6 p6 (.tup [.str "oust", y1, .int fee])) (.ref p6) (Rl.ou ra fee).d := tup_new hp6 (.cons (.str _) (.cons dy1 (.cons (.int _) .nil)))
            exact q _ _ (((eH5.trans e6).trans (Ex.new hp6)).trans (Ex.new hp7)) (tup_new hp7 (.cons dw (.cons (.int _) (.cons (.int _) .nil))))
      · rw [if_neg c4, if_pos c4] at q
        refine ⟨_, rfl, rfl, _, rfl, iteB0 (decide_eq_false fun z => c4 (V.str.inj z)) ⟨_, rfl, ?_⟩⟩
        -- the numbers of the word
        refine ⟨_, rfl, _, _, rfl, rfl, _, rfl, _, _, rfl, rfl, _, rfl, _, _, rfl, rfl, _, _, rfl, ⟨by omega, by omega, by omega, by omega⟩, ?_⟩
        have hN : (((k : Int) + 1 + nf) - ((k : Int) + 1)).toNat = nf := by omega
        refine for_it walk_range (fun i σ H1 => ∃ c8, σ = [some (.ref p), some (.int k), some (.int nf), some (.int (m + 1)), some (.str w), none, none, some (.int nf), c8, none] ∧ Ex H0 H1 ∧ firstBad ws (k + 1) nf = firstBad ws (k + 1 + i) (nf - i)) ⟨_, rfl, Ex.refl _, rfl⟩ (fun _ _ _ _ _ => trivial) (fun i x σ H1 H2 hi hP hY => ?_) (fun σ H1 hP => ?_)
        · obtain ⟨c8, rfl, e1, hfb⟩ := hP
          obtain ⟨rfl, rfl⟩ := hY
          rw [hN] at hi
          have hS1 := ex_l e1 hS0
          have hstep : firstBad ws (k + 1 + i) (nf - i) = if badAt ws (k + 1 + i) = true then some (min (k + 1 + i) ws.length) else firstBad ws (k + 1 + (i + 1)) (nf - (i + 1)) := by
            rw [show nf - i = (nf - (i + 1)) + 1 by omega] <;> rfl
          refine ⟨_, rfl, _, rfl, _, _, rfl, .inl ⟨_, hS1, rfl⟩, _, _, rfl, rfl, _, rfl, ?_⟩
          cases hwi : ws[k + 1 + i]? with
          | none =>
            have hlk : ws.length ≤ k + 1 + i := List.getElem?_eq_none_iff.mp hwi
            have hb : badAt ws (k + 1 + i) = true := by unfold badAt; rw [hwi]
            rw [hb, if_pos rfl] at hstep
            rw [hfb, hstep] at q
            refine iteB (decide_eq_true (by rw [hlen]; omega)) (iteT ?_)
            refine ⟨_, rfl, _, rfl, _, _, rfl, .inl ⟨_, hS1, rfl⟩, _, _, rfl, rfl, fun d hd => ?_⟩
            have eI : (if ((ws.map V.str).length : Int) < (k : Int) + 1 + i then ((ws.map V.str).length : Int) else (k : Int) + 1 + i) = ((min (k + 1 + i) ws.length : Nat) : Int) := by
              rw [hlen]
              by_cases hh : (ws.length : Int) < (k : Int) + 1 + i
              · rw [if_pos hh]
                omega
              · rw [if_neg hh]
                omega
            rw [eI]
            exact Err.go (Err.ex (show Err K H E "BadText" ["line", "word"] [.int 0, .int ((min (k + 1 + i) ws.length : Nat) : Int)] from q) (e0.trans e1)) d hd
          | some wi =>
            have hlk : k + 1 + i < ws.length := (List.getElem?_eq_some_iff.mp hwi).1
            have hb : badAt ws (k + 1 + i) = !numOk wi := by unfold badAt; rw [hwi]
            refine iteB0 (decide_eq_false (by rw [hlen]; omega)) ?_
            have hati : atI (ws.map V.str) ((k : Int) + 1 + i) = some (.str wi) := by
              rw [show (k : Int) + 1 + i = ((k + 1 + i : Nat) : Int) by omega]
              exact atI_nat (by rw [List.getElem?_map, hwi] <;> rfl)
            refine ⟨_, rfl, _, rfl, _, _, _, _, rfl, rfl, hS1, hati, wi, rfl, hw7 _ (List.mem_of_getElem? hwi), fun H2 e2 => ⟨_, rfl, ?_⟩⟩
            cases hok : numOk wi with
            | false =>
              rw [hok] at hb
              rw [hb, if_pos (by rfl)] at hstep
              rw [hfb, hstep] at q
              refine iteT ⟨_, rfl, _, rfl, _, _, rfl, .inl ⟨_, ex_l e2 hS1, rfl⟩, _, _, rfl, rfl, fun d hd => ?_⟩
              have eI : (if ((ws.map V.str).length : Int) < (k : Int) + 1 + i then ((ws.map V.str).length : Int) else (k : Int) + 1 + i) = ((min (k + 1 + i) ws.length : Nat) : Int) := by
                rw [hlen, if_neg (by omega)]
                omega
              rw [eI]
              exact Err.go (Err.ex (show Err K H E "BadText" ["line", "word"] [.int 0, .int ((min (k + 1 + i) ws.length : Nat) : Int)] from q) ((e0.trans e1).trans e2)) d hd
            | true =>
              rw [hok] at hb
              rw [hb, if_neg (by decide)] at hstep
              exact iteF ⟨_, rfl, e1.trans e2, by rw [hfb, hstep]⟩
        · obtain ⟨c8, rfl, e1, hfb⟩ := hP
          rw [hN, Nat.sub_self] at hfb
          have hfb : firstBad ws (k + 1) nf = none := hfb
          rw [hfb] at q
          dsimp only at q
          obtain ⟨n1, n2⟩ := firstBad_none (by omega) hfb
          have hS1 := ex_l e1 hS0
          refine ⟨_, rfl, _, rfl, _, _, rfl, rfl, _, rfl, _, rfl, _, _, rfl, rfl, _, rfl, _, _, rfl, rfl, _, rfl, _, _, rfl, hS1, fun p3 hp3 => ?_⟩
          have hcut : cutV (ws.map V.str) (some ((k : Int) + 1)) (some ((k : Int) + 1 + nf)) = ((ws.map V.str).drop (k + 1)).take nf := by
            have := cut_nat (ws.map V.str) (k + 1) (k + 1 + nf) (by omega) (by rw [hlen]; omega)
            rw [show k + 1 + nf - (k + 1) = nf by omega] at this
            rw [← this]
            rfl
          rw [hcut]
          have e3 := Ex.new (o := .lst (((ws.map V.str).drop (k + 1)).take nf)) hp3
          have l3 : upd H1 p3 (.lst (((ws.map V.str).drop (k + 1)).take nf)) p3 = some (.lst (((ws.map V.str).drop (k + 1)).take nf)) := upd_same
          have hnl : (((ws.map V.str).drop (k + 1)).take nf).length = nf := by rw [List.length_take, List.length_drop, hlen]; omega
          have hna := len_numsAt n1
          refine ⟨_, rfl, ⟨_, SqL.of l3⟩, fun D hD => lc_map walk_list ((numsAt ws (k + 1) nf).map V.int) (by rw [List.length_map, hna, hnl]) (by rw [hnl]; omega) hD (fun H' e => ex_l e (SqL.of l3)) (fun i x H2 H3 y k2 hy e hY hk => ?_) (fun H2 e4 hD4 => ?_)⟩
          · obtain ⟨rfl, hx⟩ := hY
            obtain ⟨u, rfl, hu, hi, hu2⟩ := drop_nums hx
            obtain ⟨u', hu', hok⟩ := n2 (k + 1 + i) (by omega) (by omega)
            rw [hu] at hu'
            cases hu'
            have hz : (numsAt ws (k + 1) nf)[i]? = some (numVal u) := by
              unfold numsAt
              rw [List.getElem?_map, hu2] <;> rfl
            obtain rfl := get_map hz hy
            exact ⟨rfl, _, rfl, u, _, rfl, numOk_int hok, by have := (numOk_split hok).2.1; omega, hk _ (Ex.refl _)⟩
          refine ⟨_, _, rfl, .inl ⟨SqL.of hD4, fun p5 hp5 => ?_⟩⟩
          have e5 := Ex.new (o := .tup ((numsAt ws (k + 1) nf).map V.int)) hp5
          have hT5 : SqT K (upd H2 p5 (.tup ((numsAt ws (k + 1) nf).map V.int))) p5 ((numsAt ws (k + 1) nf).map V.int) := SqT.of upd_same
          have eH5 := (((e0.trans e1).trans e3).trans e4).trans e5
          have hS5 := ex_l ((e3.trans e4).trans e5) hS1
          refine ⟨_, rfl, rfl, _, rfl, iteNB0 (decide_eq_false fun z => c4 (V.str.inj z)) ?_⟩
          refine ⟨_, rfl, _, rfl, szc rfl, fun p6 hp6 => ⟨_, rfl, _, _, rfl, rfl, _, rfl, _, _, rfl, rfl, _, rfl, szc rfl, fun p7 hp7 => ?_⟩⟩
          have dw : Dp K (upd (upd H2 p5 (.tup ((numsAt ws (k + 1) nf).map V.int))) p6 (.tup [.str w, .ref p5])) (.ref p6) (Rl.pl w (numsAt ws (k + 1) nf)).d := tup_new hp6 (.cons (.str _) (.cons (ints_dp hT5) .nil))
          exact q _ _ ((eH5.trans (Ex.new hp6)).trans (Ex.new hp7)) (tup_new hp7 (.cons dw (.cons (.int _) (.cons (.int _) .nil))))
end
end K95

set_option Elab.async false
set_option linter.all false
set_option maxRecDepth 100000
set_option maxHeartbeats 4000000
namespace K95
open PySem PySem.Spec PyProof.Rows L2
open Evl (Ex ex_l ex_t fresh_back)
open TL (tl)
def readEnd (K : PySem.W.Frag) (H : Hp) (Q : VK) (E : XK) : Rd → Prop
  | .ok r => ∀ H' v, Ex H H' → Dp K H' v r.d → Q v H'
  | .text l k => Err K H E "BadText" ["line", "word"] [.int l, .int k]
  | .rule p => ErrP K H E p
def spRead (K : PySem.W.Frag) : Sp := fun vs H Q E => ∃ hv v, vs = [hv, v] ∧
  ((∃ (s : Int) (fs : List Int) (x : Str), HallOk s fs ∧ Dp K H hv (hallD s fs) ∧ v = .str x ∧ x.length ≤ 900000 ∧ readEnd K H Q E (due s fs.length x)) ∨
    (∃ (s : Int) (fs : List Int), HallOk s fs ∧ Dp K H hv (hallD s fs) ∧ Odd K H v ∧ Err K H E "BadText" ["line", "word"] [.non, .non]) ∨ (Odd K H hv ∧ Err K H E "BadHall" ["part"] [.str "form"]))
theorem ErrP.ex {K : PySem.W.Frag} {H H' : Hp} {E : XK} {p : List Int} (h : ErrP K H E p) (e : Ex H H') : ErrP K H' E p := fun H1 d pa e1 h1 h2 => h H1 d pa (e.trans e1) h1 h2
theorem row0_cons (x : Str) : ∃ r, rowsOf x = row0 x :: r := by
  unfold row0
  cases h : rowsOf x with
  | nil =>
    unfold rowsOf at h
    exact absurd (List.map_eq_nil_iff.mp h) (split_ne cut_nl x)
  | cons a r => exact ⟨r, rfl⟩
theorem row0_b {x : Str} {n : Nat} (h : x.length ≤ n) : (row0 x).length ≤ n + 1 ∧ ∀ w ∈ row0 x, w.length ≤ n := by
  obtain ⟨r, e⟩ := row0_cons x
  have hm : row0 x ∈ rowsOf x := by rw [e]; exact List.mem_cons_self
  unfold rowsOf at hm
  obtain ⟨l, hl, he⟩ := List.mem_map.mp hm
  have h1 := split_part cut_nl hl
  have h2 := split_cnt cut_sp l
  rw [← he]
  exact ⟨by omega, fun w hw => by have := split_part cut_sp hw; omega⟩
section
variable {w : World} {K : PySem.W.Frag} {mg : Str → Option Value} {base : Heap}
abbrev nRead_rule : List Str := ["hall", "text", "rows", "rule", "spot", "many"]
theorem scRead_rule : FnScope nRead_rule ["hall", "text"] (defScope (top 43)) := ⟨rfl, rfl, rfl, by decide +kernel, rfl, by decide +kernel, by decide +kernel⟩
theorem ok_read_rule (T : Txt K mg) : FnOk PR w K mg base (L2.CX PR w) 14 (ga K "read_rule") (fdOf K "read_rule") ["hall", "text"] (spRead K) := by
  refine T.dread_rule.F.ok scRead_rule (fun vs H Q E h => ?_) (fun cdv A outer s H vs Q E hr h => ?_)
  · obtain ⟨hv, v, rfl, _⟩ := h
    rfl
  refine ⟨_, (pss_cons (ps_expr (pe_call (ok_need_hall T) (hr.mono (by decide)) rfl T.dneed_hall.g T.dneed_hall.kp (bdneed_hall T) .nil (passes_call (takes_of rfl rfl rfl rfl) (fun _ _ _ _ h => h)) (pa_cons (pv 0) pa_nil)))
    (pss_cons (ps_set (i := 2) scRead_rule.nd rfl (Or.inl rfl) (pe_call (ok_lines_of T) (hr.mono (by decide)) rfl T.dlines_of.g T.dlines_of.kp (bdlines_of T) .nil (passes_call (takes_of rfl rfl rfl rfl) (fun _ _ _ _ h => h)) (pa_cons (pv 1) pa_nil)))
    (pss_cons (ps_asg (pe_call (ok_rule_at T 8) (hr.mono (by decide)) rfl T.drule_at.g T.drule_at.kp (bdrule_at T) .nil (passes_call (takes_of rfl rfl rfl rfl) (fun _ _ _ _ h => h)) (pa_cons (pe_ix ix_list (pv 2) pe_int (fun _ _ => rfl)) (pa_cons pe_int (pa_cons (pe_callB call_len rfl T.f_len (by decide +kernel) (pa_cons (pe_ix ix_tup (pv 0) pe_int (fun _ _ => rfl)) pa_nil)) (pa_cons pe_int pa_nil))))) (pg_tup rfl (pgs_cons (pg_name (i := 3) scRead_rule.nd rfl (Or.inl rfl)) (pgs_cons (pg_name (i := 4) scRead_rule.nd rfl (Or.inl rfl)) (pgs_cons (pg_name (i := 5) scRead_rule.nd rfl (Or.inl rfl)) pgs_nil)))))
    (pss_cons (ps_if (pt_cmpR op_lt (pv 4) (pe_callB call_len rfl T.f_len (by decide +kernel) (pa_cons (pe_ix ix_list (pv 2) pe_int (fun _ _ => rfl)) pa_nil)) (nomark _))
      (pss_one (ps_raise rfl (takes_of rfl rfl rfl rfl) (pmk_BadText T.xText hr (pa_cons pe_int (pa_cons (pv 4) pa_nil)))))
      pss_nil)
    (pss_cons (ps_expr (pe_call (ok_needed_end T) (hr.mono (by decide)) rfl T.dneeded_end.g T.dneeded_end.kp (bdneeded_end T) .nil (passes_call (takes_of rfl rfl rfl rfl) (fun _ _ _ _ h => h)) (pa_cons (pv 2) (pa_cons pe_int pa_nil))))
    (pss_one (ps_ret (pe_call (ok_need_rule T) (hr.mono (by decide)) rfl T.dneed_rule.g T.dneed_rule.kp (bdneed_rule T) .nil (passes_call (takes_of rfl rfl rfl rfl) (fun _ _ _ _ h => h)) (pa_cons (pv 0) (pa_cons (pv 3) pa_nil)))))))))), ?_⟩
  obtain ⟨hv, v, rfl, h⟩ := h
  rcases h with ⟨sz, fs, x, ok, dh, rfl, hl, q⟩ | ⟨sz, fs, ok, dh, odd, er⟩ | ⟨odd, er⟩
  · refine ⟨_, rfl, _, rfl, .inl ⟨sz, fs, ok, dh, fun H1 e1 => ?_⟩⟩
    refine ⟨_, rfl, _, rfl, .inl ⟨x, rfl, by omega, fun H2 u e2 du => ?_⟩⟩
    obtain ⟨ra, xs, rfl, hR, hA⟩ := dp_lst du
    obtain ⟨rest, hrows⟩ := row0_cons x
    have hA0 := hA
    rw [hrows] at hA
    obtain ⟨v0, xr, rfl, d0, hA⟩ := da_cons hA
    obtain ⟨p0, ys, rfl, hS0, hA2⟩ := dp_lst d0
    obtain rfl := strs_da hA2
    obtain ⟨b1, b2⟩ := row0_b hl
    have e12 := e1.trans e2
    obtain ⟨ha, hb, rfl, hH, hF⟩ := hall_in (Dp.ex e12 dh)
    have dh2 := hall_out hH hF
    have hl4 := ok.f4
    unfold due at q
    refine ⟨_, rfl, _, _, _, _, rfl, rfl, hR, atI_nat (j := 0) rfl, _, rfl, _, _, _, _, rfl, rfl, hH, rfl, _, _, rfl, .inr ⟨_, hF, rfl⟩, p0, row0 x, 0, fs.length, 0, by rw [List.length_map] <;> rfl, hS0, by omega, by omega, fun w hw => by have := b2 w hw; omega, by omega, by omega, by omega, by omega, ?_⟩
    cases ep : parse 8 (row0 x) 0 fs.length 0 with
    | error e =>
      rw [ep] at q
      exact Err.ex (show Err K H E "BadText" ["line", "word"] [.int 0, .int e] from q) e12
    | ok rr =>
      obtain ⟨r, k1, m1⟩ := rr
      rw [ep] at q
      dsimp only at q
      obtain ⟨a1, a2, a3, a4, a5⟩ := parse_ok (by omega) ep
      intro H3 v3 e3 d3
      obtain ⟨t1, ys, rfl, hT, dA⟩ := dp_tup d3
      obtain ⟨y1, r1, rfl, dy1, dA⟩ := da_cons dA
      obtain ⟨y2, r2, rfl, dy2, dA⟩ := da_cons dA
      obtain ⟨y3, r3, rfl, dy3, dA⟩ := da_cons dA
      obtain rfl := da_nil dA
      obtain rfl := dp_int dy2
      obtain rfl := dp_int dy3
      have e13 := e12.trans e3
      have hR3 := ex_l e3 hR
      refine ⟨_, _, rfl, hT, rfl, _, _, rfl, _, _, rfl, _, _, rfl, rfl, ?_⟩
      refine ⟨_, rfl, _, rfl, _, _, _, _, rfl, rfl, hR3, atI_nat (j := 0) rfl, _, _, rfl, .inl ⟨_, ex_l e3 hS0, rfl⟩, _, _, rfl, rfl, _, rfl, ?_⟩
      by_cases c1 : k1 < (row0 x).length
      · rw [if_pos c1] at q
        exact iteB (decide_eq_true (by rw [List.length_map]; omega)) ⟨_, rfl, rfl, Err.go (Err.ex (show Err K H E "BadText" ["line", "word"] [.int 0, .int k1] from q) e13)⟩
      rw [if_neg c1] at q
      refine iteB0 (decide_eq_false (by rw [List.length_map]; omega)) ?_
      have hxl := da_len hA0
      rw [List.length_map] at hxl
      refine ⟨_, rfl, _, _, rfl, hR3, by rw [List.length_cons]; omega, ?_⟩
      by_cases c2 : 1 < (rowsOf x).length
      · rw [if_pos c2] at q
        rw [if_pos (by omega)]
        exact Err.ex (show Err K H E "BadText" ["line", "word"] [.int 1, .int 0] from q) e13
      rw [if_neg c2] at q
      rw [if_neg (by omega)]
      refine ⟨_, rfl, _, rfl, _, _, rfl, .inl ⟨sz, fs, r, ok, Dp.ex e3 dh2, dy1, a3, by omega, ?_⟩⟩
      cases hb : bad sz r with
      | none =>
        rw [hb] at q
        exact fun H4 e4 => q _ _ (e13.trans e4) (Dp.ex e4 dy1)
      | some pp =>
        rw [hb] at q
        exact ErrP.ex (show ErrP K H E pp from q) e13
  · exact ⟨_, rfl, _, rfl, .inl ⟨sz, fs, ok, dh, fun H1 e1 => ⟨_, rfl, _, rfl, .inr ⟨Odd.ex e1 odd, er.ex e1⟩⟩⟩⟩
  · exact ⟨_, rfl, _, rfl, .inr ⟨odd, er⟩⟩
end
end K95

set_option Elab.async false
set_option linter.all false
set_option maxRecDepth 100000
set_option maxHeartbeats 4000000
/-! The law's draws. -/
namespace K95
open PySem PySem.Spec PyProof.Rows L2
open Evl (Ex ex_l ex_t fresh_back)
open TL (tl)
def spMixed : Sp := fun vs H Q _ => ∃ c n : Int, vs = [.int c, .int n] ∧ 0 ≤ n ∧ n < 2 ^ 25 ∧ ∀ r : Int, 0 ≤ r → r < 2147483629 → Q (.int r) H
def spFolded (K : PySem.W.Frag) : Sp := fun vs H Q _ => ∃ (a : Addr) (ns : List Int), vs = [.ref a] ∧ SqL K H a (ns.map V.int) ∧ ns.length ≤ 1000000 ∧
  ∀ H' p (cs : List Int), Ex H H' → H p = none → H' p = some (.lst (cs.map V.int)) → cs.length = 64 → (∀ c ∈ cs, 0 ≤ c ∧ c < 2147483647) → Q (.ref p) H'
theorem ixN_of {n j : Nat} (h : j < n) : ixN n (j : Int) = some j := by
  unfold ixN
  rw [if_pos (by omega), if_pos (by omega), Int.toNat_natCast]
/-- the j-th of ints -/
theorem int_at {cs : List Int} {j : Nat} {i : Int} (e : i = (j : Int)) (h : j < cs.length) : ∃ c, c ∈ cs ∧ atI (cs.map V.int) i = some (.int c) := by
  subst e
  exact ⟨cs[j], List.getElem_mem h, atI_nat (by rw [List.getElem?_map, List.getElem?_eq_getElem h] <;> rfl)⟩
theorem mod64 (i : Nat) : (i : Int) % 64 = ((i % 64 : Nat) : Int) := by omega
theorem set_ints (cs : List Int) (j : Nat) (v : Int) : (cs.map V.int).set j (.int v) = (cs.set j v).map V.int := by rw [List.map_set]
theorem mem_set {cs : List Int} {j : Nat} {v : Int} {P : Int → Prop} (h : ∀ c ∈ cs, P c) (hv : P v) : ∀ c ∈ cs.set j v, P c := fun c hc => by
  rcases List.mem_or_eq_of_mem_set hc with hc | rfl
  · exact h c hc
  · exact hv
theorem emod_b (z : Int) : 0 ≤ z % 2147483647 ∧ z % 2147483647 < 2147483647 := ⟨Int.emod_nonneg z (by decide), Int.emod_lt_of_pos z (by decide)⟩
section
variable {w : World} {K : PySem.W.Frag} {mg : Str → Option Value} {base : Heap}
abbrev nLaw_mixed : List Str := ["_law_cell", "_law_n", "_law_blend"]
theorem scLaw_mixed : FnScope nLaw_mixed ["_law_cell", "_law_n"] (defScope (top 45)) := ⟨rfl, rfl, rfl, by decide +kernel, rfl, by decide +kernel, by decide +kernel⟩
theorem ok_law_mixed (T : Txt K mg) : FnOk PR w K mg base CX0 1 (ga K "_law_mixed") (fdOf K "_law_mixed") ["_law_cell", "_law_n"] spMixed := by
  refine T.d_law_mixed.F.ok scLaw_mixed (fun vs H Q E h => ?_) (fun cdv A outer s H vs Q E hr h => ?_)
  · obtain ⟨c, n, rfl, _⟩ := h
    rfl
  refine ⟨_, (pss_cons (ps_set (i := 2) scLaw_mixed.nd rfl (Or.inl rfl) (pe_op op_add (pe_op op_add (pe_op op_mod (pe_callTy call_int1 rfl T.f_int (by decide +kernel) (pa_cons (pe_op op_mul (pe_op op_mul (pv 0) (pe_op op_add pe_int (pe_op op_mul pe_int (pv 1)))) pe_int) pa_nil)) pe_int) (pe_op op_mul (pe_op op_mul pe_int (pv 1)) (pv 1))) (pe_op op_mul pe_int (pv 1))))
    (pss_one (ps_ret (pe_op op_fdiv (pe_op op_mod (pe_callTy call_int1 rfl T.f_int (by decide +kernel) (pa_cons (pe_op op_mul (pv 2) pe_int) pa_nil)) pe_int) pe_int)))), ?_⟩
  obtain ⟨c, n, rfl, n0, n1, q⟩ := h
  refine ⟨_, rfl, _, rfl, _, _, rfl, rfl, .inl ⟨by decide, by decide⟩, _, _, rfl, rfl, _, _, rfl, rfl, .inr ⟨by omega, by omega⟩, _, _, rfl, rfl, .inr ⟨by decide, by decide⟩, .inl ⟨_, rfl, _, _, rfl, rfl, show (0 : Int) < 2147483647 by decide, ?_⟩⟩
  refine ⟨_, rfl, _, _, rfl, rfl, .inl ⟨by decide, by decide⟩, _, rfl, _, _, rfl, rfl, .inr ⟨by omega, by omega⟩, _, _, rfl, rfl, ?_⟩
  refine ⟨_, rfl, _, _, rfl, rfl, .inl ⟨by decide, by decide⟩, _, _, rfl, rfl, ?_⟩
  refine ⟨_, rfl, _, _, rfl, rfl, .inr ⟨by decide, by decide⟩, .inl ⟨_, rfl, _, _, rfl, rfl, show (0 : Int) < 2147483629 by decide, _, _, rfl, rfl, ⟨by decide, by decide⟩, ?_⟩⟩
  generalize _ * (69621 : Int) = z
  have h1 : 0 ≤ z % 2147483629 := Int.emod_nonneg z (by decide)
  have h2 : z % 2147483629 < 2147483629 := Int.emod_lt_of_pos z (by decide)
  exact q _ (by omega) (by omega)
abbrev nLaw_folded : List Str := ["_law_script", "_law_found", "_law_n", "_law_cell"]
theorem scLaw_folded : FnScope nLaw_folded ["_law_script"] (defScope (top 46)) := ⟨rfl, rfl, rfl, by decide +kernel, rfl, by decide +kernel, by decide +kernel⟩
theorem ok_law_folded (T : Txt K mg) : FnOk PR w K mg base CX0 1 (ga K "_law_folded") (fdOf K "_law_folded") ["_law_script"] (spFolded K) := by
  refine T.d_law_folded.F.ok scLaw_folded (fun vs H Q E h => ?_) (fun cdv A outer s H vs Q E hr h => ?_)
  · obtain ⟨a, ns, rfl, _⟩ := h
    rfl
  refine ⟨_, (pss_cons (ps_setLc (i := 1) (own := [("_law_n", 2)]) (g := gName 2) (tt := tYes) rfl scLaw_folded.nd rfl rfl (sw_true rfl rfl rfl (by decide +kernel)) (pi_range1 rfl T.f_range (pa_cons pe_int pa_nil)) (blkOk_by (N := nLaw_folded) (sc := defScope (top 46)) (by decide +kernel)) (fun _ _ _ _ _ => pg_name (i := 2) scLaw_folded.nd rfl (Or.inl rfl)) (fun _ _ _ _ _ => pts_nil) (fun _ _ _ _ _ => (pe_op op_add pe_int (pv 2))))
    (pss_cons (ps_for (passes_of rfl) rfl (pi_enum rfl T.f_enumerate (pa_cons (pv 0) pa_nil)) (pg_tup rfl (pgs_cons (pg_name (i := 2) scLaw_folded.nd rfl (Or.inl rfl)) (pgs_cons (pg_name (i := 3) scLaw_folded.nd rfl (Or.inl rfl)) pgs_nil)))
      (pss_one (ps_asg (pe_op op_mod (pe_callTy call_int1 rfl T.f_int (by decide +kernel) (pa_cons (pe_op op_add (pe_op op_mul (pe_ix ix_list (pv 1) (pe_op op_mod (pe_callTy call_int1 rfl T.f_int (by decide +kernel) (pa_cons (pv 2) pa_nil)) pe_int) (fun _ _ => rfl)) pe_int) (pv 3)) pa_nil)) pe_int) (pg_sub (pv 1) (pe_op op_mod (pe_callTy call_int1 rfl T.f_int (by decide +kernel) (pa_cons (pv 2) pa_nil)) pe_int) set_list))))
    (pss_cons (ps_for (passes_of rfl) rfl (pi_range2 rfl T.f_range (pa_cons pe_int (pa_cons pe_int pa_nil))) (pg_name (i := 2) scLaw_folded.nd rfl (Or.inl rfl))
      (pss_one (ps_asg (pe_op op_mod (pe_callTy call_int1 rfl T.f_int (by decide +kernel) (pa_cons (pe_op op_add (pe_ix ix_list (pv 1) (pv 2) (fun _ _ => rfl)) (pe_op op_mul (pe_ix ix_list (pv 1) (pe_op op_sub (pv 2) pe_int) (fun _ _ => rfl)) pe_int)) pa_nil)) pe_int) (pg_sub (pv 1) (pv 2) set_list))))
    (pss_one (ps_ret (pv 1)))))), ?_⟩
  obtain ⟨a, ns, rfl, hS, hl, q⟩ := h
  refine ⟨64, rfl, by decide, by decide, fun D hD => lc_map walk_range ((List.range 64).map fun i : Nat => V.int (17 + (i : Int))) (by simp) (by decide) hD (fun _ _ => trivial) (fun i x H1 H2 y k hy e hY hk => ?_) (fun H1 e1 hD1 => ?_)⟩
  · obtain ⟨rfl, rfl⟩ := hY
    have hi : i < 64 := by
      have := (List.getElem?_eq_some_iff.mp hy).1
      simpa using this
    have hz : (List.range 64)[i]? = some i := by rw [List.getElem?_range hi]
    obtain rfl := get_map hz hy
    have e0 : (17 : Int) + (0 + (i : Int)) = 17 + (i : Int) := by omega
    refine ⟨rfl, _, rfl, _, _, rfl, rfl, ?_⟩
    show k (.int (17 + (0 + (i : Int)))) _
    rw [e0]
    exact hk _ (Ex.refl _)
  obtain ⟨cs, hcs, hlen, hb⟩ : ∃ cs : List Int, H1 D = some (.lst (cs.map V.int)) ∧ cs.length = 64 ∧ ∀ c ∈ cs, 0 ≤ c ∧ c < 2147483647 := by
    refine ⟨(List.range 64).map fun i : Nat => 17 + (i : Int), by rw [hD1, List.map_map] <;> rfl, by simp, fun c hc => ?_⟩
    obtain ⟨i, hi, rfl⟩ := List.mem_map.mp hc
    have := List.mem_range.mp hi
    omega
  have hS1 := ex_l e1 hS
  have sH : ∀ H', ExD D H1 H' → SqL K H' a (ns.map V.int) := fun H' ed => ex_l (ExD.ex hD ((ExD.of e1).trans ed)) hS
  refine ⟨_, rfl, _, _, rfl, hS1, for_it walk_enum (fun i σ H' => ∃ (c2 c3 : Option V) (cs : List Int), σ = [some (.ref a), some (.ref D), c2, c3] ∧ ExD D H1 H' ∧ H' D = some (.lst (cs.map V.int)) ∧ cs.length = 64 ∧ ∀ c ∈ cs, 0 ≤ c ∧ c < 2147483647)
    ⟨_, _, cs, rfl, ExD.refl _, hcs, hlen, hb⟩ (fun i σ H' _ p => by obtain ⟨_, _, _, _, ed, _⟩ := p; exact sH _ ed) (fun i x σ H2 H3 hi p hY => ?_) (fun σ H2 p => ?_)⟩
  · obtain ⟨c2, c3, cs, rfl, ed, hc, hl64, hbb⟩ := p
    obtain ⟨T2, u1, u2, rfl, hT, rfl, hu1, hu2⟩ := hY
    obtain rfl := Option.some.inj hu1
    obtain ⟨cell, hcell, rfl⟩ := get_int hu2
    have eT := Ex.new (o := .tup [.int (i : Nat), .int cell]) hT
    have hc3 := eT _ _ hc
    obtain ⟨c, hcm, hat⟩ := int_at (cs := cs) (mod64 i) (by rw [hl64]; exact Nat.mod_lt _ (by decide))
    refine ⟨_, _, rfl, SqT.of upd_same, rfl, _, _, rfl, _, _, rfl, rfl, ?_⟩
    refine ⟨_, rfl, _, rfl, .inl ⟨_, rfl, _, _, rfl, rfl, show (0 : Int) < 64 by decide, _, _, _, _, rfl, rfl, SqL.of hc3, hat, _, _, rfl, rfl, .inr ⟨by decide, by decide⟩, _, rfl, _, _, rfl, rfl, .inl ⟨_, rfl, _, _, rfl, rfl, show (0 : Int) < 2147483647 by decide, ?_⟩⟩⟩
    refine ⟨_, rfl, _, rfl, .inl ⟨_, rfl, _, _, rfl, rfl, show (0 : Int) < 64 by decide, _, _, _, i % 64, rfl, rfl, hc3, by rw [List.length_map, hl64, mod64]; exact ixN_of (Nat.mod_lt _ (by decide)), ?_⟩⟩
    refine ⟨_, _, cs.set (i % 64) _, rfl, (ed.trans (ExD.of eT)).trans ExD.upd, by rw [upd_same, set_ints], by rw [List.length_set, hl64], mem_set hbb (emod_b _)⟩
  · obtain ⟨c2, c3, cs, rfl, ed, hc, hl64, hbb⟩ := p
    refine ⟨1, 64, rfl, ⟨by decide, by decide, by decide, by decide⟩, for_it (n := 63) walk_range (fun i σ H' => ∃ (c2 c3 : Option V) (cs : List Int), σ = [some (.ref a), some (.ref D), c2, c3] ∧ ExD D H1 H' ∧ H' D = some (.lst (cs.map V.int)) ∧ cs.length = 64 ∧ ∀ c ∈ cs, 0 ≤ c ∧ c < 2147483647)
      ⟨_, _, cs, rfl, ed, hc, hl64, hbb⟩ (fun _ _ _ _ _ => trivial) (fun i x σ H2 H3 hi p hY => ?_) (fun σ H2 p => ?_)⟩
    · obtain ⟨c2, c3, cs, rfl, ed, hc, hl64, hbb⟩ := p
      obtain ⟨rfl, rfl⟩ := hY
      obtain ⟨c, hcm, hat⟩ := int_at (cs := cs) (j := 1 + i) (i := (1 : Int) + (i : Int)) (by omega) (by omega)
      obtain ⟨c', hcm', hat'⟩ := int_at (cs := cs) (j := i) (i := (1 : Int) + (i : Int) - 1) (by omega) (by omega)
      refine ⟨_, rfl, _, rfl, _, _, _, _, rfl, rfl, SqL.of hc, hat, ?_⟩
      refine ⟨_, rfl, _, rfl, _, _, rfl, rfl, _, _, _, _, rfl, rfl, SqL.of hc, hat', _, _, rfl, rfl, .inr ⟨by decide, by decide⟩, _, _, rfl, rfl, .inl ⟨_, rfl, _, _, rfl, rfl, show (0 : Int) < 2147483647 by decide, ?_⟩⟩
      refine ⟨_, rfl, _, rfl, _, _, _, 1 + i, rfl, rfl, hc, by rw [List.length_map, hl64, show (1 : Int) + (i : Int) = ((1 + i : Nat) : Int) by omega]; exact ixN_of (by omega), ?_⟩
      exact ⟨_, _, cs.set (1 + i) _, rfl, ed.trans ExD.upd, by rw [upd_same, set_ints], by rw [List.length_set, hl64], mem_set hbb (emod_b _)⟩
    · obtain ⟨c2, c3, cs, rfl, ed, hc, hl64, hbb⟩ := p
      exact ⟨_, rfl, q _ D cs (ExD.ex hD ((ExD.of e1).trans ed)) hD hc hl64 hbb⟩
end
end K95

set_option Elab.async false
set_option linter.all false
set_option maxRecDepth 100000
set_option maxHeartbeats 4000000
/-! The law's draws: the machine. -/
namespace K95
open PySem PySem.Spec PyProof.Rows L2
open Evl (Ex ex_l ex_t fresh_back)
open TL (tl)
abbrev kC : Key := .inr "cells"
abbrev kG : Key := .inr "great"
abbrev kS : Key := .inr "spot"
abbrev mD (x y z : V) : List (Key × V) := [(kC, x), (kG, y), (kS, z)]
theorem ne_CG : ¬ (Str.ofString "cells" = Str.ofString "great") := by decide +kernel
theorem ne_CS : ¬ (Str.ofString "cells" = Str.ofString "spot") := by decide +kernel
theorem ne_GS : ¬ (Str.ofString "great" = Str.ofString "spot") := by decide +kernel
theorem ne_SG : ¬ (Str.ofString "spot" = Str.ofString "great") := by decide +kernel
theorem val_C (x y z : V) : valV (mD x y z) kC = some x := by simp [valV]
theorem val_G (x y z : V) : valV (mD x y z) kG = some y := by simp [valV, List.find?, decide_eq_false ne_CG]
theorem val_S (x y z : V) : valV (mD x y z) kS = some z := by simp [valV, List.find?, decide_eq_false ne_CS, decide_eq_false ne_GS]
theorem put_S (x y z v : V) : putK (mD x y z) kS v = mD x y v := by simp [putK, ne_CS, ne_GS]
theorem put_G (x y z v : V) : putK (mD x y z) kG v = mD x v z := by simp [putK, ne_CG, ne_SG]
theorem merge_m (x y z : V) : mergeK [] (mD x y z) = mD x y z := by simp [mergeK, putK, ne_CG, ne_CS, ne_GS]
/-- the draws' machine at am, its cells at ac, its great at ag; b more draws -/
structure Mach (H : Hp) (am ac ag : Addr) (b : Nat) : Prop where
  d : ∃ n : Nat, n + b ≤ 1000000 ∧ H am = some (.dK (mD (.ref ac) (.ref ag) (.int n)))
  c : ∃ cs : List Int, H ac = some (.lst (cs.map V.int)) ∧ cs.length = 64
  g : ∃ gs : List Int, H ag = some (.lst (gs.map V.int)) ∧ gs.length ≤ 1000000
  mc : am ≠ ac
  mg : am ≠ ag
  cg : ac ≠ ag
/-- all but the machine stays -/
def Dw (am ag : Addr) (H H' : Hp) : Prop := ∀ b o, b ≠ am → b ≠ ag → H b = some o → H' b = some o
section
variable {am ac ag : Addr} {H H1 H' : Hp}
theorem Dw.refl : Dw am ag H H := fun _ _ _ _ e => e
theorem Dw.trans (a : Dw am ag H H1) (b : Dw am ag H1 H') : Dw am ag H H' := fun c o h1 h2 e => b c o h1 h2 (a c o h1 h2 e)
theorem Dw.ex (e : Ex H H') : Dw am ag H H' := fun b o _ _ h => e b o h
theorem Dw.um {o : HO} : Dw am ag H (upd H am o) := fun b u h1 _ e => by rw [upd_ne h1]; exact e
theorem Dw.ug {o : HO} : Dw am ag H (upd H ag o) := fun b u _ h2 e => by rw [upd_ne h2]; exact e
theorem Mach.mono {b b' : Nat} (h : Mach H am ac ag b) (hb : b' ≤ b) : Mach H am ac ag b' := { h with d := let ⟨n, h1, h2⟩ := h.d; ⟨n, by omega, h2⟩ }
theorem Mach.ex {b : Nat} (h : Mach H am ac ag b) (e : Ex H H') : Mach H' am ac ag b :=
  ⟨let ⟨n, h1, h2⟩ := h.d; ⟨n, h1, e _ _ h2⟩, let ⟨cs, h1, h2⟩ := h.c; ⟨cs, e _ _ h1, h2⟩, let ⟨cs, h1, h2⟩ := h.g; ⟨cs, e _ _ h1, h2⟩, h.mc, h.mg, h.cg⟩
/-- a list aside changes -/
theorem Mach.aside {b : Nat} {p : Addr} {o : HO} (h : Mach H am ac ag b) (h1 : p ≠ am) (h2 : p ≠ ac) (h3 : p ≠ ag) : Mach (upd H p o) am ac ag b :=
  ⟨let ⟨n, a, b⟩ := h.d; ⟨n, a, by rw [upd_ne (Ne.symm h1)]; exact b⟩, let ⟨cs, a, b⟩ := h.c; ⟨cs, by rw [upd_ne (Ne.symm h2)]; exact a, b⟩, let ⟨cs, a, b⟩ := h.g; ⟨cs, by rw [upd_ne (Ne.symm h3)]; exact a, b⟩, h.mc, h.mg, h.cg⟩
theorem Mach.fm {b : Nat} (h : Mach H am ac ag b) {p : Addr} (hp : H p = none) : p ≠ am ∧ p ≠ ac ∧ p ≠ ag := by
  obtain ⟨n, _, h1⟩ := h.d
  obtain ⟨cs, h2, _⟩ := h.c
  obtain ⟨gs, h3, _⟩ := h.g
  exact ⟨(ne_of_none h1 hp).symm, (ne_of_none h2 hp).symm, (ne_of_none h3 hp).symm⟩
theorem Mach.great {b : Nat} {gs : List Int} (h : Mach H am ac ag b) (hl : gs.length ≤ 1000000) : Mach (upd H ag (.lst (gs.map V.int))) am ac ag b :=
  ⟨let ⟨n, a, b⟩ := h.d; ⟨n, a, by rw [upd_ne h.mg]; exact b⟩, let ⟨cs, a, b⟩ := h.c; ⟨cs, by rw [upd_ne h.cg]; exact a, b⟩, ⟨gs, upd_same, hl⟩, h.mc, h.mg, h.cg⟩
theorem Mach.spot {b n : Nat} (h : Mach H am ac ag (b + 1)) (hn : n + b ≤ 1000000) : Mach (upd H am (.dK (mD (.ref ac) (.ref ag) (.int n)))) am ac ag b :=
  ⟨⟨n, hn, upd_same⟩, let ⟨cs, a, b⟩ := h.c; ⟨cs, by rw [upd_ne (Ne.symm h.mc)]; exact a, b⟩, let ⟨cs, a, b⟩ := h.g; ⟨cs, by rw [upd_ne (Ne.symm h.mg)]; exact a, b⟩, h.mc, h.mg, h.cg⟩
/-- what is no list and no dict stays -/
theorem Dw.tx {b : Nat} (d : Dw am ag H H') (h : Mach H am ac ag b) : Tx H H' := fun p o ho e => by
  obtain ⟨n, _, h1⟩ := h.d
  obtain ⟨gs, h3, _⟩ := h.g
  refine d p o (fun z => ?_) (fun z => ?_) e
  · subst z
    rw [h1] at e
    rcases ho with ⟨_, rfl⟩ | ⟨_, _, rfl⟩ <;> cases e
  · subst z
    rw [h3] at e
    rcases ho with ⟨_, rfl⟩ | ⟨_, _, rfl⟩ <;> cases e
end
def spDraw : Sp := fun vs H Q _ => ∃ (am ac ag : Addr) (l : Int) (b : Nat), vs = [.ref am, .int l] ∧ Mach H am ac ag (b + 1) ∧ 1 ≤ l ∧ l < 1000000000 ∧ ∀ H' (r : Int), Dw am ag H H' → Mach H' am ac ag b → 0 ≤ r → r < l → Q (.int r) H'
def spBegun (K : PySem.W.Frag) : Sp := fun vs H Q _ => ∃ (a : Addr) (ns : List Int), vs = [.ref a] ∧ SqL K H a (ns.map V.int) ∧ ns.length ≤ 1000000 ∧ ∀ H' am ac ag, Ex H H' → Mach H' am ac ag 1000000 → Q (.ref am) H'
section
variable {w : World} {K : PySem.W.Frag} {mg : Str → Option Value} {base : Heap}
theorem shaped_ints (gs : List Int) : SeqAt.shaped (.list (dIs gs)) = true := by
  unfold SeqAt.shaped
  simp only [PyData.canLay0, canLay_ints, PyData.depth, depth_ints, Bool.true_and]
  decide
abbrev nLaw_draw : List Str := ["_law_m", "_law_limit", "_law_n", "_law_lot", "_law_here", "_law_cell"]
theorem scLaw_draw : FnScope nLaw_draw ["_law_m", "_law_limit"] (defScope (top 47)) := ⟨rfl, rfl, rfl, by decide +kernel, rfl, by decide +kernel, by decide +kernel⟩
theorem ok_law_draw (T : Txt K mg) : FnOk PR w K mg base CX0 2 (ga K "_law_draw") (fdOf K "_law_draw") ["_law_m", "_law_limit"] spDraw := by
  refine T.d_law_draw.F.ok scLaw_draw (fun vs H Q E h => ?_) (fun cdv A outer s H vs Q E hr h => ?_)
  · obtain ⟨am, ac, ag, l, b, rfl, _⟩ := h
    rfl
  have hu := Nat.lt_of_le_of_lt (Nat.add_le_add_left (show 1 ≤ 64 by decide) _) hr.units
  refine ⟨_, (pss_cons (ps_set (i := 2) scLaw_draw.nd rfl (Or.inl rfl) (pe_dget hu (pv 0) pe_str (fun _ _ => rfl)))
    (pss_cons (ps_dput hu (pv 0) pe_str (pe_op op_add (pv 2) pe_int) rfl)
    (pss_cons (ps_if (pt_cmpR (op_neD hr.units) (pe_dget hu (pv 0) pe_str (fun _ _ => rfl)) (pe_lst pa_nil) (nomark _))
      (pss_cons (ps_set (i := 3) scLaw_draw.nd rfl (Or.inl rfl) (pe_dget hu (pv 0) pe_str (fun _ _ => rfl)))
      (pss_cons (ps_set (i := 4) scLaw_draw.nd rfl (Or.inl rfl) (pe_op op_mod (pe_callTy call_int1 rfl T.f_int (by decide +kernel) (pa_cons (pv 2) pa_nil)) (pe_callB call_len rfl T.f_len (by decide +kernel) (pa_cons (pv 3) pa_nil))))
      (pss_cons (ps_set (i := 5) scLaw_draw.nd rfl (Or.inl rfl) (pe_ix ix_list (pv 3) (pv 4) (fun _ _ => rfl)))
      (pss_one (ps_if (pt_cmpR op_gt (pv 5) pe_int (nomark _))
        (pss_cons (ps_asg (pe_op op_fdiv (pv 5) (pv 1)) (pg_sub (pv 3) (pv 4) set_list))
        (pss_one (ps_ret (pe_op op_mod (pe_callTy call_int1 rfl T.f_int (by decide +kernel) (pa_cons (pv 5) pa_nil)) (pv 1)))))
        pss_nil)))))
      pss_nil)
    (pss_cons (ps_set (i := 3) scLaw_draw.nd rfl (Or.inl rfl) (pe_dget hu (pv 0) pe_str (fun _ _ => rfl)))
    (pss_one (ps_ret (pe_op op_mod (pe_callTy call_int1 rfl T.f_int (by decide +kernel) (pa_cons (pe_call (ok_law_mixed T) (hr.mono (by decide)) rfl T.d_law_mixed.g T.d_law_mixed.kp (bd_law_mixed T) .nil pass0 (pa_cons (pe_call (ok_law_mixed T) (hr.mono (by decide)) rfl T.d_law_mixed.g T.d_law_mixed.kp (bd_law_mixed T) .nil pass0 (pa_cons (pe_op op_add (pe_ix ix_list (pv 3) (pe_op op_mod (pe_callTy call_int1 rfl T.f_int (by decide +kernel) (pa_cons (pv 2) pa_nil)) pe_int) (fun _ _ => rfl)) (pe_op op_mul pe_int (pe_op op_fdiv (pv 2) pe_int))) (pa_cons (pv 2) pa_nil))) (pa_cons (pe_op op_add (pv 2) pe_int) pa_nil))) pa_nil)) (pv 1)))))))), ?_⟩
  obtain ⟨am, ac, ag, l, b, rfl, M, l1, l2, q⟩ := h
  obtain ⟨n, hn, hd⟩ := M.d
  refine ⟨_, rfl, am, .int n, rfl, .inl ⟨_, kS, .inl hd, rfl, (val_S _ _ _).symm⟩, ?_⟩
  refine ⟨_, rfl, _, _, rfl, rfl, _, rfl, am, _, rfl, .inl ⟨_, kS, hd, rfl, show 3 < sizeLine by decide, rfl⟩, ?_⟩
  rw [put_S]
  have M1 : Mach (upd H am (.dK (mD (.ref ac) (.ref ag) (.int ((n : Int) + 1))))) am ac ag b := M.spot (n := n + 1) (by omega)
  have w1 : Dw am ag H (upd H am (.dK (mD (.ref ac) (.ref ag) (.int ((n : Int) + 1))))) := Dw.um
  have hd1 : upd H am (.dK (mD (.ref ac) (.ref ag) (.int ((n : Int) + 1)))) am = some (.dK (mD (.ref ac) (.ref ag) (.int ((n : Int) + 1)))) := upd_same
  show tSeq _ _ _ _ (upd H am (.dK (mD (.ref ac) (.ref ag) (.int ((n : Int) + 1)))))
  generalize upd H am (.dK (mD (.ref ac) (.ref ag) (.int ((n : Int) + 1)))) = H1 at *
  obtain ⟨gs, hgs, hgl⟩ := M1.g
  refine ⟨_, rfl, am, .ref ag, rfl, .inl ⟨_, kG, .inl hd1, rfl, (val_G _ _ _).symm⟩, by decide, fun p hp => ⟨_, _, .lst (SqL.of (Ex.new hp _ _ hgs)) (da_ints gs), lst_new hp .nil, shaped_ints gs, by decide +kernel, _, rfl, ?_⟩⟩
  rw [eqv_nil]
  have e2 := Ex.new (o := .lst []) hp
  have M2 := M1.ex e2
  have W2 : Dw am ag H (upd H1 p (.lst [])) := w1.trans (Dw.ex e2)
  have HD2 := e2 _ _ hd1
  have hg2 := e2 _ _ hgs
  generalize upd H1 p (.lst []) = H2 at *
  by_cases hg0 : gs = []
  · subst hg0
    refine iteNB rfl ?_
    refine ⟨_, rfl, am, .ref ac, rfl, .inl ⟨_, kC, .inl HD2, rfl, (val_C _ _ _).symm⟩, ?_⟩
    obtain ⟨cs, hcs, hl64⟩ := M2.c
    obtain ⟨c, hcm, hat⟩ := int_at (cs := cs) (mod64 n) (by rw [hl64]; exact Nat.mod_lt _ (by decide))
    refine ⟨_, rfl, _, rfl, .inl ⟨_, rfl, _, _, rfl, rfl, show (0 : Int) < 64 by decide, _, _, _, _, rfl, rfl, SqL.of hcs, hat, _, rfl, _, _, rfl, rfl, ⟨by decide, by decide⟩, _, _, rfl, rfl, .inl ⟨by decide, by decide⟩, _, _, rfl, rfl, _, rfl, _, _, rfl, by omega, by omega, fun r r0 r1 => ?_⟩⟩
    refine ⟨_, rfl, _, _, rfl, rfl, _, _, rfl, by omega, by omega, fun r' r0' r1' => .inl ⟨_, rfl, _, rfl, _, _, rfl, rfl, show 0 < l by omega, ?_⟩⟩
    exact q H2 _ W2 M2 (Int.emod_nonneg _ (by omega)) (Int.emod_lt_of_pos _ (by omega))
  have hlen : 0 < gs.length := by
    cases gs with
    | nil => exact absurd rfl hg0
    | cons a r => exact Nat.succ_pos _
  refine iteNB0 (by cases gs with | nil => exact absurd rfl hg0 | cons a r => rfl) ?_
  refine ⟨_, rfl, am, .ref ag, rfl, .inl ⟨_, kG, .inl HD2, rfl, (val_G _ _ _).symm⟩, ?_⟩
  have hml : (gs.map V.int).length = gs.length := List.length_map _
  refine ⟨_, rfl, .inl ⟨_, rfl, _, rfl, _, _, rfl, .inl ⟨_, SqL.of hg2, rfl⟩, _, _, rfl, rfl, show (0 : Int) < ((gs.map V.int).length : Int) by rw [hml]; omega, ?_⟩⟩
  obtain ⟨j, hj, ej⟩ : ∃ j : Nat, j < gs.length ∧ (n : Int) % ((gs.map V.int).length : Int) = (j : Int) := ⟨n % gs.length, Nat.mod_lt _ hlen, by rw [hml]; exact (Int.natCast_emod n gs.length).symm⟩
  obtain ⟨cell, hcm, hat⟩ := int_at (cs := gs) ej hj
  refine ⟨_, rfl, _, rfl, _, _, _, _, rfl, rfl, SqL.of hg2, hat, ?_⟩
  refine ⟨_, rfl, _, _, rfl, rfl, _, rfl, ?_⟩
  by_cases hc : 0 < cell
  rotate_left
  · refine iteB0 (decide_eq_false hc) ?_
    refine ⟨_, rfl, am, .ref ac, rfl, .inl ⟨_, kC, .inl HD2, rfl, (val_C _ _ _).symm⟩, ?_⟩
    obtain ⟨cs, hcs, hl64⟩ := M2.c
    obtain ⟨c, hcm, hat⟩ := int_at (cs := cs) (mod64 n) (by rw [hl64]; exact Nat.mod_lt _ (by decide))
    refine ⟨_, rfl, _, rfl, .inl ⟨_, rfl, _, _, rfl, rfl, show (0 : Int) < 64 by decide, _, _, _, _, rfl, rfl, SqL.of hcs, hat, _, rfl, _, _, rfl, rfl, ⟨by decide, by decide⟩, _, _, rfl, rfl, .inl ⟨by decide, by decide⟩, _, _, rfl, rfl, _, rfl, _, _, rfl, by omega, by omega, fun r r0 r1 => ?_⟩⟩
    refine ⟨_, rfl, _, _, rfl, rfl, _, _, rfl, by omega, by omega, fun r' r0' r1' => .inl ⟨_, rfl, _, rfl, _, _, rfl, rfl, show 0 < l by omega, ?_⟩⟩
    exact q H2 _ W2 M2 (Int.emod_nonneg _ (by omega)) (Int.emod_lt_of_pos _ (by omega))
  refine iteB (decide_eq_true hc) ?_
  refine ⟨_, rfl, _, rfl, _, _, rfl, rfl, ⟨by omega, by omega⟩, _, rfl, _, rfl, _, _, _, j, rfl, rfl, hg2, by rw [ej, hml]; exact ixN_of hj, ?_⟩
  refine ⟨_, rfl, .inl ⟨_, rfl, _, rfl, _, _, rfl, rfl, show 0 < l by omega, ?_⟩⟩
  rw [set_ints]
  exact q _ _ (W2.trans Dw.ug) (M2.great (by rw [List.length_set]; exact hgl)) (Int.emod_nonneg _ (by omega)) (Int.emod_lt_of_pos _ (by omega))
abbrev nLaw_begun : List Str := ["_law_script", "_law_m", "_law_cell"]
theorem scLaw_begun : FnScope nLaw_begun ["_law_script"] (defScope (top 48)) := ⟨rfl, rfl, rfl, by decide +kernel, rfl, by decide +kernel, by decide +kernel⟩
theorem ok_law_begun (T : Txt K mg) : FnOk PR w K mg base CX0 2 (ga K "_law_begun") (fdOf K "_law_begun") ["_law_script"] (spBegun K) := by
  refine T.d_law_begun.F.ok scLaw_begun (fun vs H Q E h => ?_) (fun cdv A outer s H vs Q E hr h => ?_)
  · obtain ⟨a, ns, rfl, _⟩ := h
    rfl
  have hu := Nat.lt_of_le_of_lt (Nat.add_le_add_left (show 1 ≤ 64 by decide) _) hr.units
  refine ⟨_, (pss_cons (ps_set (i := 1) scLaw_begun.nd rfl (Or.inl rfl) (pe_disp (pps_cons pe_str (pe_call (ok_law_folded T) (hr.mono (by decide)) rfl T.d_law_folded.g T.d_law_folded.kp (bd_law_folded T) .nil pass0 (pa_cons (pv 0) pa_nil)) (pps_cons pe_str (pe_lst pa_nil) (pps_cons pe_str pe_int pps_nil))) rfl rfl (List.cons_ne_nil _ _) (by decide)))
    (pss_cons (ps_dput hu (pv 1) pe_str (pe_lc (own := [("_law_cell", 2)]) (g := gName 2) (tt := tYes) rfl scLaw_begun.nd (pi_list (pv 0)) (blkOk_by (N := nLaw_begun) (sc := defScope (top 48)) (by decide +kernel)) (fun _ _ _ _ _ => pg_name (i := 2) scLaw_begun.nd rfl (Or.inl rfl)) (fun _ _ _ _ _ => pts_nil) (fun _ _ _ _ _ => (pe_ifExp (pt_cmpR op_ge (pv 2) (pe_op op_pow pe_int pe_int) (nomark _)) (pv 2) pe_int))) rfl)
    (pss_one (ps_ret (pv 1))))), ?_⟩
  obtain ⟨a, ns, rfl, hS, hl, q⟩ := h
  intro am hm
  have e1 := Ex.new (o := .dK []) hm
  refine ⟨_, rfl, _, _, rfl, ex_l e1 hS, hl, fun H2 ac cs e2 hac hcs hl64 hb => ?_⟩
  refine ⟨by decide, fun g0 hg0 => ⟨?_, mD (.ref ac) (.ref g0) (.int 0), rfl, show 3 ≤ 15 by decide, ?_⟩⟩
  · exact Ex.new hg0 _ _ (e2 _ _ upd_same)
  rw [merge_m]
  have e12 : Ex H H2 := e1.trans e2
  have e3 := Ex.new (o := .lst []) hg0
  have e4 : Ex H (upd (upd H2 g0 (.lst [])) am (.dK (mD (.ref ac) (.ref g0) (.int 0)))) := Ex.mut (e12.trans e3) hm
  have hma : am ≠ ac := fun z => by rw [← z, upd_same] at hac; cases hac
  have hgc : ac ≠ g0 := ne_of_none hcs hg0
  have hgm : am ≠ g0 := ne_of_none (e2 _ _ upd_same) hg0
  have c4 : upd (upd H2 g0 (.lst [])) am (.dK (mD (.ref ac) (.ref g0) (.int 0))) ac = some (.lst (cs.map V.int)) := by
    rw [upd_ne (Ne.symm hma), upd_ne hgc]
    exact hcs
  have d4 : upd (upd H2 g0 (.lst [])) am (.dK (mD (.ref ac) (.ref g0) (.int 0))) am = some (.dK (mD (.ref ac) (.ref g0) (.int 0))) := upd_same
  generalize upd (upd H2 g0 (.lst [])) am (.dK (mD (.ref ac) (.ref g0) (.int 0))) = H4 at *
  have hS4 := ex_l e4 hS
  refine ⟨_, rfl, _, rfl, ⟨_, hS4⟩, fun D hD => lc_map walk_list (ns.map fun c => V.int (if (10 : Int) ^ 18 ≤ c then c else 0)) (by rw [List.length_map, List.length_map]) (by rw [List.length_map]; omega) hD (fun H' e => ex_l e hS4) (fun i x H5 H6 y k hy e hY hk => ?_) (fun H5 e5 hD5 => ?_)⟩
  · obtain ⟨rfl, hx⟩ := hY
    obtain ⟨c, hc, rfl⟩ := get_int hx
    obtain rfl := get_map hc hy
    refine ⟨rfl, _, rfl, _, _, rfl, rfl, ⟨by decide, by decide, by decide⟩, _, _, rfl, rfl, _, rfl, ?_⟩
    by_cases h : (10 : Int) ^ 18 ≤ c
    · rw [if_pos h] at hk
      exact iteB (decide_eq_true h) ⟨_, rfl, hk _ (Ex.refl _)⟩
    · rw [if_neg h] at hk
      exact iteB0 (decide_eq_false h) (hk _ (Ex.refl _))
  · refine ⟨_, rfl, am, _, rfl, .inl ⟨_, kG, e5 _ _ d4, rfl, show 3 < sizeLine by decide, rfl⟩, ?_⟩
    rw [put_G]
    have e6 : Ex H (upd H5 am (.dK (mD (.ref ac) (.ref D) (.int 0)))) := Ex.mut (e4.trans e5) hm
    have hDm : am ≠ D := ne_of_none d4 hD
    have hDc : ac ≠ D := ne_of_none c4 hD
    refine ⟨_, rfl, q _ am ac D e6 ⟨⟨0, by omega, upd_same⟩, ⟨cs, by rw [upd_ne (Ne.symm hma)]; exact e5 _ _ c4, hl64⟩, ⟨ns.map fun c => if (10 : Int) ^ 18 ≤ c then c else 0, ?_, by rw [List.length_map]; exact hl⟩, hma, hDm, hDc⟩⟩
    rw [upd_ne (Ne.symm hDm), hD5, List.map_map]
    rfl
end
end K95

set_option Elab.async false
set_option linter.all false
set_option maxRecDepth 100000
set_option maxHeartbeats 4000000
/-! The law's draws: halls and rules. -/
namespace K95
open PySem PySem.Spec PyProof.Rows L2
open Evl (Ex ex_l ex_t fresh_back)
open TL (tl)
/-! ### plain -/
theorem ascI_snoc : ∀ {fs : List Int} {x : Int}, ascI fs = true → (∀ f ∈ fs, f < x) → ascI (fs ++ [x]) = true
  | [], x, _, _ => rfl
  | [a], x, _, h => by
    show (decide (a < x) && true) = true
    rw [decide_eq_true (h a List.mem_cons_self)] <;> rfl
  | a :: b :: r, x, h, hx => by
    have h' : (decide (a < b) && ascI (b :: r)) = true := h
    obtain ⟨h1, h2⟩ := Bool.and_eq_true_iff.mp h'
    have ih := ascI_snoc (fs := b :: r) (x := x) h2 fun f hf => hx f (List.mem_cons_of_mem _ hf)
    show (decide (a < b) && ascI ((b :: r) ++ [x])) = true
    rw [h1, ih] <;> rfl
theorem leI_sorted : ∀ {ns : List Int}, ns.Pairwise (· ≤ ·) → leI ns = true
  | [], _ => rfl
  | [a], _ => rfl
  | a :: b :: r, h => by
    have h1 : a ≤ b := (List.pairwise_cons.mp h).1 b List.mem_cons_self
    have ih := leI_sorted (List.pairwise_cons.mp h).2
    show (decide (a ≤ b) && leI (b :: r)) = true
    rw [decide_eq_true h1, ih] <;> rfl
def Rl.fine (s : Int) : Rl → Bool
  | .pl w ns => plOk s w ns
  | .cb _ a b => a.fine s && b.fine s
  | .ou _ _ => false
def Rl.dep : Rl → Nat
  | .pl _ _ => 0
  | .cb _ a b => 1 + max a.dep b.dep
  | .ou a _ => 1 + a.dep
theorem badF_fine {s : Int} : ∀ (f : Nat) (st : List (Rl × List Int)), (∀ q ∈ st, q.1.fine s = true ∧ q.2.length + q.1.dep ≤ 3) → badF s f st = none
  | 0, _, _ => rfl
  | f + 1, [], _ => rfl
  | f + 1, (r, p) :: st, h => by
    obtain ⟨h1, h2⟩ := h (r, p) List.mem_cons_self
    have hst : ∀ q ∈ st, q.1.fine s = true ∧ q.2.length + q.1.dep ≤ 3 := fun q hq => h q (List.mem_cons_of_mem _ hq)
    have h1 : r.fine s = true := h1
    have h2 : p.length + r.dep ≤ 3 := h2
    have hw : r.word s (decide (p = [])) = true := by
      cases r with
      | pl w ns => exact h1
      | cb w a b => rfl
      | ou a fee => cases h1
    show (if p.length > 3 ∨ r.word s (decide (p = [])) = false then some p else badF s f (r.kids p ++ st)) = none
    rw [if_neg (fun z => z.elim (fun z => by omega) (fun z => by rw [hw] at z; cases z))]
    refine badF_fine f _ fun q hq => ?_
    rcases List.mem_append.mp hq with hq | hq
    · cases r with
      | pl w ns => cases hq
      | cb w a b =>
        obtain ⟨f1, f2⟩ := Bool.and_eq_true_iff.mp (show (a.fine s && b.fine s) = true from h1)
        have h2 : p.length + (1 + max a.dep b.dep) ≤ 3 := h2
        rcases List.mem_cons.mp hq with rfl | hq
        · refine ⟨f1, ?_⟩
          show (p ++ [1]).length + a.dep ≤ 3
          rw [List.length_append, List.length_singleton]
          omega
        · rw [List.mem_singleton.mp hq]
          refine ⟨f2, ?_⟩
          show (p ++ [2]).length + b.dep ≤ 3
          rw [List.length_append, List.length_singleton]
          omega
      | ou a fee => cases h1
    · exact hst q hq
theorem bad_fine {s : Int} {r : Rl} (h : r.fine s = true) (hd : r.dep ≤ 3) : bad s r = none :=
  badF_fine 8 _ fun q hq => by
    rw [List.mem_singleton.mp hq]
    exact ⟨h, by show 0 + r.dep ≤ 3; omega⟩
theorem bad_ou {s : Int} {r : Rl} {fee : Int} (h : r.fine s = true) (hd : r.dep ≤ 2) (h0 : 0 ≤ fee) (h1 : fee ≤ 99) : bad s (.ou r fee) = none := by
  show (if ([] : List Int).length > 3 ∨ (true && (decide (0 ≤ fee) && decide (fee ≤ 99))) = false then some [] else badF s 7 [(r, [1])]) = none
  rw [decide_eq_true h0, decide_eq_true h1, if_neg (fun z => z.elim (fun z => by simp at z) (fun z => by cases z))]
  exact badF_fine 7 _ fun q hq => by
    rw [List.mem_singleton.mp hq]
    exact ⟨h, by show 1 + r.dep ≤ 3; omega⟩
theorem noL_hall (s : Int) (fs : List Int) : noL (hallD s fs) = true := by
  have := noLs_ints fs
  simp only [hallD, noL, noLs, this, Bool.and_true]
/-- a comprehension whose turns draw once each -/
theorem lc_draws {J : It} {n : Nat} {G : Hp → Prop} {Y : Nat → Hp → V → Hp → Prop} {g : TG} {te : TE} {vs : List Nat} {σ : L2.St} {H1 : Hp} {D am ac ag : Addr} {b : Nat} {Qd : Hp → Prop} (w : Walk J n G Y) (P : Int → Prop) (M : Mach H1 am ac ag (b + n)) (hn : n ≤ 1000000) (hD : H1 D = none)
    (hG : ∀ H, Dw am ag H1 H → G H)
    (hs : ∀ i x H H' c (k : VK), i < n → Dw am ag H1 H → Mach H am ac ag (c + 1) → Y i H x H' → (∀ (y : Int) H4, Dw am ag H H4 → Mach H4 am ac ag c → P y → k (.int y) H4) → g x (wipe σ vs) H' fun σ2 H2 => wipe σ2 vs = wipe σ vs ∧ te σ2 H2 k)
    (hd : ∀ H (ys : List Int), Dw am ag H1 H → Mach H am ac ag b → H D = some (.lst (ys.map V.int)) → ys.length = n → (∀ y ∈ ys, P y) → Qd H) : LcBody J g tYes te vs σ H1 D Qd := by
  obtain ⟨d1, d2, d3⟩ := M.fm hD
  have up : ∀ {H : Hp} {o : HO}, Dw am ag H1 H → Dw am ag H1 (upd H D o) := fun {H o} d c u h1 h2 e => by
    rw [upd_ne (ne_of_none e hD)]
    exact d c u h1 h2 e
  refine lc_it w (fun i H => Dw am ag H1 H ∧ Mach H am ac ag (b + (n - i)) ∧ ∃ ys : List Int, H D = some (.lst (ys.map V.int)) ∧ ys.length = i ∧ ∀ y ∈ ys, P y) ⟨up Dw.refl, M.aside d1 d2 d3, [], upd_same, rfl, fun y hy => by cases hy⟩ (fun i H _ p => hG H p.1) (fun i x H H' hi p y => ?_) (fun H p => ?_)
  · obtain ⟨d, M1, ys, hys, hl, hP⟩ := p
    refine hs i x H H' (b + (n - (i + 1))) _ hi d (by rw [show b + (n - (i + 1)) + 1 = b + (n - i) by omega]; exact M1) y fun z H4 d4 M4 hz => ?_
    refine ⟨_, d4 D _ d1 d3 hys, by rw [List.length_map]; exact Nat.lt_of_lt_of_le (by omega : ys.length < 1000000) (by decide), up (d.trans d4), M4.aside d1 d2 d3, ys ++ [z], by rw [upd_same, List.map_append] <;> rfl, by rw [List.length_append, hl] <;> rfl, fun u hu => ?_⟩
    rcases List.mem_append.mp hu with hu | hu
    · exact hP u hu
    · rw [List.mem_singleton.mp hu]
      exact hz
  · obtain ⟨d, M1, ys, hys, hl, hP⟩ := p
    rw [Nat.sub_self] at M1
    exact hd H ys d M1 hys hl hP
/-! ### promises -/
def spOf : Sp := fun vs H Q _ => ∃ (am ac ag : Addr) (b : Nat) (p : Addr) (xs : List V), vs = [.ref am, .ref p] ∧ Mach H am ac ag (b + 1) ∧ H p = some (.lst xs) ∧ p ≠ am ∧ p ≠ ag ∧ 0 < xs.length ∧ xs.length ≤ 1000000 ∧ ∀ H' x, x ∈ xs → Dw am ag H H' → Mach H' am ac ag b → Q x H'
def spFares (K : PySem.W.Frag) : Sp := fun vs H Q _ => ∃ (am ac ag : Addr) (b : Nat), vs = [.ref am, .int 4] ∧ Mach H am ac ag (b + 9) ∧
  ∀ H' p (fs : List Int), Dw am ag H H' → Mach H' am ac ag b → SqT K H' p (fs.map V.int) → 1 ≤ fs.length → fs.length ≤ 4 → (∀ f ∈ fs, 1 ≤ f ∧ f ≤ 99) → ascI fs = true → Q (.ref p) H'
def spHallR (K : PySem.W.Frag) : Sp := fun vs H Q _ => ∃ (am ac ag : Addr) (b : Nat), vs = [.ref am, .int 6, .int 4] ∧ Mach H am ac ag (b + 10) ∧ ∀ H' v (s : Int) (fs : List Int), Dw am ag H H' → Mach H' am ac ag b → HallOk s fs → Dp K H' v (hallD s fs) → Q v H'
def spPlainR (K : PySem.W.Frag) : Sp := fun vs H Q _ => ∃ (am ac ag : Addr) (b : Nat) (hv : V) (s : Int) (fs : List Int), vs = [.ref am, hv] ∧ Mach H am ac ag (b + 5) ∧ HallOk s fs ∧ Dp K H hv (hallD s fs) ∧
  ∀ H' v (x : Str) (ns : List Int), Dw am ag H H' → Mach H' am ac ag b → (Rl.pl x ns).Wf fs.length → plOk s x ns = true → Dp K H' v (Rl.pl x ns).d → Q v H'
def spRuleR (K : PySem.W.Frag) : Sp := fun vs H Q _ => ∃ (am ac ag : Addr) (b : Nat) (hv : V) (s : Int) (fs : List Int), vs = [.ref am, hv] ∧ Mach H am ac ag (b + 20) ∧ HallOk s fs ∧ Dp K H hv (hallD s fs) ∧
  ∀ H' v (r : Rl), Dw am ag H H' → Mach H' am ac ag b → r.Wf fs.length → r.size ≤ 6 → bad s r = none → Dp K H' v r.d → Q v H'
section
variable {w : World} {K : PySem.W.Frag} {mg : Str → Option Value} {base : Heap}
abbrev nLaw_of : List Str := ["_law_m", "_law_some"]
theorem scLaw_of : FnScope nLaw_of ["_law_m", "_law_some"] (defScope (top 50)) := ⟨rfl, rfl, rfl, by decide +kernel, rfl, by decide +kernel, by decide +kernel⟩
theorem ok_law_of (T : Txt K mg) : FnOk PR w K mg base CX0 3 (ga K "_law_of") (fdOf K "_law_of") ["_law_m", "_law_some"] spOf := by
  refine T.d_law_of.F.ok scLaw_of (fun vs H Q E h => ?_) (fun cdv A outer s H vs Q E hr h => ?_)
  · obtain ⟨am, ac, ag, b, p, xs, rfl, _⟩ := h
    rfl
  refine ⟨_, (pss_one (ps_ret (pe_ix ix_list (pv 1) (pe_call (ok_law_draw T) (hr.mono (by decide)) rfl T.d_law_draw.g T.d_law_draw.kp (bd_law_draw T) .nil pass0 (pa_cons (pv 0) (pa_cons (pe_callB call_len rfl T.f_len (by decide +kernel) (pa_cons (pv 1) pa_nil)) pa_nil))) (fun _ _ => rfl)))), ?_⟩
  obtain ⟨am, ac, ag, b, p, xs, rfl, M, hp, p1, p2, l0, l1, q⟩ := h
  refine ⟨_, rfl, _, rfl, _, rfl, _, _, rfl, .inl ⟨_, SqL.of hp, rfl⟩, am, ac, ag, _, b, rfl, M, by omega, by omega, fun H' r d M' r0 r1 => ?_⟩
  obtain ⟨j, rfl⟩ := Int.eq_ofNat_of_zero_le r0
  have hj : j < xs.length := by omega
  exact ⟨_, _, _, _, rfl, rfl, SqL.of (d _ _ p1 p2 hp), atI_nat (List.getElem?_eq_getElem hj), q _ _ (List.getElem_mem hj) d M'⟩
abbrev nLaw_fares : List Str := ["_law_m", "_law_most", "_law_found", "_law_last", "_law_k"]
theorem scLaw_fares : FnScope nLaw_fares ["_law_m", "_law_most"] (defScope (top 51)) := ⟨rfl, rfl, rfl, by decide +kernel, rfl, by decide +kernel, by decide +kernel⟩
theorem ok_law_fares (T : Txt K mg) : FnOk PR w K mg base CX0 3 (ga K "_law_fares") (fdOf K "_law_fares") ["_law_m", "_law_most"] (spFares K) := by
  refine T.d_law_fares.F.ok scLaw_fares (fun vs H Q E h => ?_) (fun cdv A outer s H vs Q E hr h => ?_)
  · obtain ⟨am, ac, ag, b, rfl, _⟩ := h
    rfl
  refine ⟨_, (pss_cons (ps_asg (pe_tup (pa_cons (pe_tup pa_nil) (pa_cons pe_int pa_nil))) (pg_tup rfl (pgs_cons (pg_name (i := 2) scLaw_fares.nd rfl (Or.inl rfl)) (pgs_cons (pg_name (i := 3) scLaw_fares.nd rfl (Or.inl rfl)) pgs_nil))))
    (pss_cons (ps_for (passes_of rfl) rfl (pi_range1 rfl T.f_range (pa_cons (pe_op op_add pe_int (pe_call (ok_law_draw T) (hr.mono (by decide)) rfl T.d_law_draw.g T.d_law_draw.kp (bd_law_draw T) .nil pass0 (pa_cons (pv 0) (pa_cons (pv 1) pa_nil)))) pa_nil)) (pg_name (i := 4) scLaw_fares.nd rfl (Or.inl rfl))
      (pss_cons (ps_set (i := 3) scLaw_fares.nd rfl (Or.inl rfl) (pe_op op_add (pe_op op_add (pv 3) pe_int) (pe_call (ok_law_draw T) (hr.mono (by decide)) rfl T.d_law_draw.g T.d_law_draw.kp (bd_law_draw T) .nil pass0 (pa_cons (pv 0) (pa_cons (pe_ix ix_list (pe_lst (pa_cons pe_int (pa_cons pe_int pa_nil))) (pe_call (ok_law_draw T) (hr.mono (by decide)) rfl T.d_law_draw.g T.d_law_draw.kp (bd_law_draw T) .nil pass0 (pa_cons (pv 0) (pa_cons pe_int pa_nil))) (fun _ _ => rfl)) pa_nil)))))
      (pss_one (ps_set (i := 2) scLaw_fares.nd rfl (Or.inl rfl) (pe_op op_catA (pv 2) (pe_tup (pa_cons (pv 3) pa_nil)))))))
    (pss_one (ps_ret (pv 2))))), ?_⟩
  obtain ⟨am, ac, ag, b, rfl, M, q⟩ := h
  refine ⟨by decide, fun pe hpe => ⟨szc rfl, fun pt hpt => ?_⟩⟩
  have f1 := Ex.new (o := .tup []) hpe
  have f2 := Ex.new (o := .tup [.ref pe, .int 0]) hpt
  refine ⟨_, _, rfl, SqT.of upd_same, rfl, _, _, rfl, _, _, rfl, rfl, ?_⟩
  have f12 := f1.trans f2
  have sE : SqT K (upd (upd H pe (.tup [])) pt (.tup [.ref pe, .int 0])) pe [] := SqT.of (f2 _ _ upd_same)
  have M0 := M.ex f12
  have d0 : Dw am ag H (upd (upd H pe (.tup [])) pt (.tup [.ref pe, .int 0])) := Dw.ex f12
  generalize upd (upd H pe (.tup [])) pt (.tup [.ref pe, .int 0]) = H0 at *
  refine ⟨_, rfl, _, rfl, am, ac, ag, _, b + 8, rfl, M0, by decide, by decide, fun H1 r d1 M1 r0 r1 => ?_⟩
  obtain ⟨n, hn⟩ : ∃ n : Nat, n = (1 + r).toNat := ⟨_, rfl⟩
  refine ⟨_, _, rfl, rfl, _, rfl, by omega, by omega, ?_⟩
  rw [← hn]
  refine for_it walk_range (fun i σ H' => ∃ (p : Addr) (fs : List Int) (last : Int) (c4 : Option V), σ = [some (.ref am), some (.int 4), some (.ref p), some (.int last), c4] ∧ Dw am ag H H' ∧ Mach H' am ac ag (b + 2 * (4 - i)) ∧ SqT K H' p (fs.map V.int) ∧ fs.length = i ∧ ascI fs = true ∧ (∀ f ∈ fs, 1 ≤ f ∧ f ≤ last) ∧ 0 ≤ last ∧ last ≤ 24 * (i : Int))
    ⟨pe, [], 0, _, rfl, d0.trans d1, M1, (d1.tx M0).sq sE, rfl, rfl, fun f hf => (by cases hf), by decide, by decide⟩ (fun _ _ _ _ _ => trivial) (fun i x σ H2' H2 hi p hY => ?_) (fun σ H2 p => ?_)
  · obtain ⟨p, fs, last, c4, rfl, d2, M2, hS, hl, has, hfb, l0, l1⟩ := p
    obtain ⟨rfl, rfl⟩ := hY
    have hi4 : i < 4 := by omega
    have hb : b + 2 * (4 - i) = b + 2 * (4 - (i + 1)) + 1 + 1 := by omega
    rw [hb] at M2
    refine ⟨_, rfl, _, _, rfl, rfl, _, rfl, by decide, fun ll hll => ?_⟩
    have e3 := Ex.new (o := .lst [.int 3, .int 24]) hll
    obtain ⟨k1, k2, k3⟩ := M2.fm hll
    refine ⟨_, rfl, am, ac, ag, _, _, rfl, M2.ex e3, by decide, by decide, fun H3 r3 d3 M3 r30 r31 => ?_⟩
    have hat : ∃ z : Int, atI [V.int 3, V.int 24] r3 = some (.int z) ∧ 1 ≤ z ∧ z ≤ 24 := by
      have : r3 = 0 ∨ r3 = 1 := by omega
      rcases this with rfl | rfl
      · exact ⟨3, rfl, by decide, by decide⟩
      · exact ⟨24, rfl, by decide, by decide⟩
    obtain ⟨z, hz, z1, z2⟩ := hat
    refine ⟨_, _, _, _, rfl, rfl, SqL.of (d3 _ _ k1 k3 upd_same), hz, am, ac, ag, _, _, rfl, M3, z1, by omega, fun H4 r4 d4 M4 r40 r41 => ?_⟩
    have d24 : Dw am ag H2 H4 := ((Dw.ex e3).trans d3).trans d4
    have hS4 := (d24.tx M2).sq hS
    refine ⟨_, _, rfl, rfl, ?_⟩
    refine ⟨_, rfl, _, rfl, szc rfl, fun pn hpn => ?_⟩
    have e5 := Ex.new (o := .tup [.int (last + 1 + r4)]) hpn
    have hn5 : SqT K (upd H4 pn (.tup [.int (last + 1 + r4)])) pn [.int (last + 1 + r4)] := SqT.of upd_same
    have fin : ∀ H5 p', Ex H4 H5 → SqT K H5 p' ((fs ++ [last + 1 + r4]).map V.int) → ∃ (p : Addr) (fs : List Int) (last' : Int) (c4 : Option V), [some (.ref am), some (.int 4), some (.ref p'), some (.int (last + 1 + r4)), some (.int (0 + (i : Int)))] = [some (V.ref am), some (.int 4), some (.ref p), some (.int last'), c4] ∧ Dw am ag H H5 ∧ Mach H5 am ac ag (b + 2 * (4 - (i + 1))) ∧ SqT K H5 p (fs.map V.int) ∧ fs.length = i + 1 ∧ ascI fs = true ∧ (∀ f ∈ fs, 1 ≤ f ∧ f ≤ last') ∧ 0 ≤ last' ∧ last' ≤ 24 * ((i + 1 : Nat) : Int) := fun H5 p' e hS' =>
      ⟨p', fs ++ [last + 1 + r4], _, _, rfl, (d2.trans d24).trans (Dw.ex e), M4.ex e, hS', by rw [List.length_append, hl] <;> rfl, ascI_snoc has fun f hf => by have := hfb f hf; omega, fun f hf => by
        rcases List.mem_append.mp hf with hf | hf
        · have := hfb f hf; omega
        · rw [List.mem_singleton.mp hf]; omega, by omega, by omega⟩
    refine ⟨_, _, _, _, rfl, rfl, (Tx.of e5).sq hS4, hn5, Nat.le_trans (show (fs.map V.int).length + 1 ≤ 100 by rw [List.length_map]; omega) (by decide), fun h0 => ?_, fun _ h => (by cases h), fun _ _ p6 hp6 => ?_⟩
    · have h00 : fs = [] := List.map_eq_nil_iff.mp h0
      subst h00
      exact fin _ pn e5 hn5
    · exact fin _ p6 (e5.trans (Ex.new hp6)) (SqT.of (by rw [upd_same, List.map_append] <;> rfl))
  · obtain ⟨p, fs, last, c4, rfl, d2, M2, hS, hl, has, hfb, l0, l1⟩ := p
    exact ⟨_, rfl, q _ p fs d2 (M2.mono (by omega)) hS (by omega) (by omega) (fun f hf => by have := hfb f hf; omega) has⟩
abbrev nLaw_hall : List Str := ["_law_m", "_law_seats", "_law_fares_here"]
theorem scLaw_hall : FnScope nLaw_hall ["_law_m", "_law_seats", "_law_fares_here"] (defScope (top 52)) := ⟨rfl, rfl, rfl, by decide +kernel, rfl, by decide +kernel, by decide +kernel⟩
theorem ok_law_hall (T : Txt K mg) : FnOk PR w K mg base CX0 4 (ga K "_law_hall") (fdOf K "_law_hall") ["_law_m", "_law_seats", "_law_fares_here"] (spHallR K) := by
  refine T.d_law_hall.F.ok scLaw_hall (fun vs H Q E h => ?_) (fun cdv A outer s H vs Q E hr h => ?_)
  · obtain ⟨am, ac, ag, b, rfl, _⟩ := h
    rfl
  refine ⟨_, (pss_one (ps_ret (pe_tup (pa_cons (pe_op op_add pe_int (pe_call (ok_law_draw T) (hr.mono (by decide)) rfl T.d_law_draw.g T.d_law_draw.kp (bd_law_draw T) .nil pass0 (pa_cons (pv 0) (pa_cons (pv 1) pa_nil)))) (pa_cons (pe_call (ok_law_fares T) (hr.mono (by decide)) rfl T.d_law_fares.g T.d_law_fares.kp (bd_law_fares T) .nil pass0 (pa_cons (pv 0) (pa_cons (pv 2) pa_nil))) pa_nil))))), ?_⟩
  obtain ⟨am, ac, ag, b, rfl, M, q⟩ := h
  refine ⟨_, rfl, _, rfl, am, ac, ag, _, b + 9, rfl, M, by decide, by decide, fun H1 r d1 M1 r0 r1 => ?_⟩
  refine ⟨_, _, rfl, rfl, _, rfl, _, rfl, am, ac, ag, b, rfl, M1, fun H2 p fs d2 M2 hp f1 f4 fb as => ?_⟩
  refine ⟨szc rfl, fun t ht => q _ _ (1 + r) fs ((d1.trans d2).trans (Dw.ex (Ex.new ht))) (M2.ex (Ex.new ht)) ⟨by omega, by omega, f1, f4, fb, as⟩ (tup_new ht (.cons (.int _) (.cons (ints_dp hp) .nil)))⟩
abbrev nLaw_plain : List Str := ["_law_m", "_law_hall_so", "_law_word", "_law_limits", "_law_k"]
theorem scLaw_plain : FnScope nLaw_plain ["_law_m", "_law_hall_so"] (defScope (top 53)) := ⟨rfl, rfl, rfl, by decide +kernel, rfl, by decide +kernel, by decide +kernel⟩
theorem ok_law_plain (T : Txt K mg) : FnOk PR w K mg base CX0 4 (ga K "_law_plain") (fdOf K "_law_plain") ["_law_m", "_law_hall_so"] (spPlainR K) := by
  refine T.d_law_plain.F.ok scLaw_plain (fun vs H Q E h => ?_) (fun cdv A outer s H vs Q E hr h => ?_)
  · obtain ⟨am, ac, ag, b, hv, sz, fs, rfl, _⟩ := h
    rfl
  refine ⟨_, (pss_cons (ps_set (i := 2) scLaw_plain.nd rfl (Or.inl rfl) (pe_call (ok_law_of T) (hr.mono (by decide)) rfl T.d_law_of.g T.d_law_of.kp (bd_law_of T) .nil pass0 (pa_cons (pv 0) (pa_cons (pe_lst (pa_cons pe_str (pa_cons pe_str (pa_cons pe_str (pa_cons pe_str pa_nil))))) pa_nil))))
    (pss_cons (ps_setLc (i := 3) (own := [("_law_k", 4)]) (g := gName 4) (tt := tYes) rfl scLaw_plain.nd rfl rfl (sw_true rfl rfl rfl (by decide +kernel)) (pi_tup (pe_ix ix_tup (pv 1) pe_int (fun _ _ => rfl))) (blkOk_by (N := nLaw_plain) (sc := defScope (top 53)) (by decide +kernel)) (fun _ _ _ _ _ => pg_name (i := 4) scLaw_plain.nd rfl (Or.inl rfl)) (fun _ _ _ _ _ => pts_nil) (fun _ _ _ _ _ => (pe_call (ok_law_draw T) (hr.mono (by decide)) rfl T.d_law_draw.g T.d_law_draw.kp (bd_law_draw T) .nil pass0 (pa_cons (pv 0) (pa_cons (pe_op op_add (pe_ix (r := rIxT K) ix_tup (pv 1) pe_int (fun _ _ => rfl)) pe_int) pa_nil)))))
    (pss_one (ps_ret (pe_tup (pa_cons (pv 2) (pa_cons (pe_callTy call_tuple_of rfl T.f_tuple (by decide +kernel) (pa_cons (pe_ifExp (pt_cmpR op_eq (pv 2) pe_str (nomark _)) (pe_callB cr_sortedI rfl T.f_sorted (by decide +kernel) (pa_cons (pv 3) pa_nil)) (pv 3)) pa_nil)) pa_nil))))))), ?_⟩
  obtain ⟨am, ac, ag, b, hv, sz, fs, rfl, M, ok, dh, q⟩ := h
  have h4 := ok.f4
  refine ⟨_, rfl, by decide, fun pl hpl => ?_⟩
  have e1 := Ex.new (o := .lst [.str "nested", .str "nested", .str "apart", .str "kept"]) hpl
  obtain ⟨k1, k2, k3⟩ := M.fm hpl
  refine ⟨am, ac, ag, b + 4, pl, _, rfl, M.ex e1, upd_same, k1, k3, by decide, by decide, fun H1 x0 hx0 d1 M1 => ?_⟩
  obtain ⟨x, rfl, hx⟩ : ∃ x : Str, x0 = .str x ∧ x ∈ plW := by
    have hm : x0 ∈ ((["nested", "nested", "apart", "kept"] : List Str).map V.str) := hx0
    obtain ⟨x, hx, rfl⟩ := List.mem_map.mp hm
    have : ∀ x ∈ (["nested", "nested", "apart", "kept"] : List Str), x ∈ plW := by decide +kernel
    exact ⟨x, rfl, this x hx⟩
  have d01 : Dw am ag H H1 := (Dw.ex e1).trans d1
  have dh1 := Dp.tx (d01.tx M) (noL_hall sz fs) dh
  obtain ⟨ha, hb, rfl, hH, hF⟩ := hall_in dh1
  have M1' : Mach H1 am ac ag (b + (4 - fs.length) + (fs.map V.int).length) := M1.mono (by rw [List.length_map]; omega)
  refine ⟨_, rfl, _, _, _, _, rfl, rfl, hH, rfl, _, rfl, ⟨_, hF⟩, fun D hD => lc_draws walk_tup (fun n => 0 ≤ n ∧ n ≤ sz) M1' (by rw [List.length_map]; omega) hD (fun H' d => (d.tx M1).sq hF) (fun i x H2 H3 c k hi d M2 hY hk => ?_) (fun H2 ys d2 M2 hys hyl hyP => ?_)⟩
  · obtain ⟨rfl, hx⟩ := hY
    refine ⟨rfl, _, rfl, _, rfl, _, _, _, _, rfl, rfl, (d.tx M1).sq hH, rfl, _, _, rfl, rfl, am, ac, ag, _, c, rfl, M2, by have := ok.s1; omega, by have := ok.s6; omega, fun H4 r d4 M4 r0 r1 => hk r H4 d4 M4 ⟨r0, by omega⟩⟩
  rw [List.length_map] at hyl
  have M2' : Mach H2 am ac ag b := M2.mono (by omega)
  have fin : ∀ H5 p (ns : List Int), Ex H2 H5 → SqT K H5 p (ns.map V.int) → ns.length = fs.length → (∀ n ∈ ns, 0 ≤ n ∧ n ≤ sz) → (x = "nested" → leI ns = true) → ∀ t, H5 t = none → Q (.ref t) (upd H5 t (.tup [.str x, .ref p])) := fun H5 p ns e hp hl hn hle t ht => by
    refine q _ _ x ns ((d01.trans d2).trans (Dw.ex (e.trans (Ex.new ht)))) (M2'.ex (e.trans (Ex.new ht))) ⟨hx, hl, fun n h => by have := hn n h; have := ok.s6; omega⟩ ?_ (tup_new ht (.cons (.str _) (.cons (ints_dp hp) .nil)))
    unfold plOk limOk
    rw [Bool.and_eq_true_iff]
    refine ⟨List.all_eq_true.mpr fun n h => by have := hn n h; rw [decide_eq_true this.1, decide_eq_true this.2] <;> rfl, ?_⟩
    by_cases hx : x = "nested"
    · rw [hle hx, Bool.or_true]
    · rw [decide_eq_false hx] <;> rfl
  refine ⟨_, rfl, ?_⟩
  refine ⟨_, rfl, rfl, _, rfl, ?_⟩
  by_cases hx : x = "nested"
  · refine iteB (decide_eq_true (congrArg V.str hx)) ⟨_, rfl, _, ys, rfl, SqL.of hys, fun ns' p hperm hpw hp => ?_⟩
    refine ⟨_, _, rfl, .inl ⟨SqL.of upd_same, fun l hl => ⟨szc rfl, fin _ l ns' ((Ex.new hp).trans (Ex.new hl)) (SqT.of upd_same) (by rw [hperm.length_eq, hyl]) (fun n h => hyP n (hperm.mem_iff.mp h)) (fun _ => leI_sorted hpw)⟩⟩⟩
  · refine iteB0 (decide_eq_false fun z => hx (V.str.inj z)) ⟨_, rfl, _, _, rfl, .inl ⟨SqL.of hys, fun l hl => ⟨szc rfl, fin _ l ys (Ex.new hl) (SqT.of upd_same) hyl hyP (fun h => absurd h hx)⟩⟩⟩
abbrev nLaw_rule : List Str := ["_law_m", "_law_hall_so", "_law_some", "_law_k", "_law_other"]
theorem scLaw_rule : FnScope nLaw_rule ["_law_m", "_law_hall_so"] (defScope (top 54)) := ⟨rfl, rfl, rfl, by decide +kernel, rfl, by decide +kernel, by decide +kernel⟩
theorem ok_law_rule (T : Txt K mg) : FnOk PR w K mg base CX0 5 (ga K "_law_rule") (fdOf K "_law_rule") ["_law_m", "_law_hall_so"] (spRuleR K) := by
  refine T.d_law_rule.F.ok scLaw_rule (fun vs H Q E h => ?_) (fun cdv A outer s H vs Q E hr h => ?_)
  · obtain ⟨am, ac, ag, b, hv, sz, fs, rfl, _⟩ := h
    rfl
  refine ⟨_, (pss_cons (ps_set (i := 2) scLaw_rule.nd rfl (Or.inl rfl) (pe_call (ok_law_plain T) (hr.mono (by decide)) rfl T.d_law_plain.g T.d_law_plain.kp (bd_law_plain T) .nil pass0 (pa_cons (pv 0) (pa_cons (pv 1) pa_nil))))
    (pss_cons (ps_for (passes_of rfl) rfl (pi_range1 rfl T.f_range (pa_cons (pe_call (ok_law_draw T) (hr.mono (by decide)) rfl T.d_law_draw.g T.d_law_draw.kp (bd_law_draw T) .nil pass0 (pa_cons (pv 0) (pa_cons pe_int pa_nil))) pa_nil)) (pg_name (i := 3) scLaw_rule.nd rfl (Or.inl rfl))
      (pss_cons (ps_set (i := 4) scLaw_rule.nd rfl (Or.inl rfl) (pe_call (ok_law_plain T) (hr.mono (by decide)) rfl T.d_law_plain.g T.d_law_plain.kp (bd_law_plain T) .nil pass0 (pa_cons (pv 0) (pa_cons (pv 1) pa_nil))))
      (pss_one (ps_set (i := 2) scLaw_rule.nd rfl (Or.inl rfl) (pe_call (ok_law_of T) (hr.mono (by decide)) rfl T.d_law_of.g T.d_law_of.kp (bd_law_of T) .nil pass0 (pa_cons (pv 0) (pa_cons (pe_lst (pa_cons (pe_tup (pa_cons pe_str (pa_cons (pv 2) (pa_cons (pv 4) pa_nil)))) (pa_cons (pe_tup (pa_cons pe_str (pa_cons (pv 2) (pa_cons (pv 4) pa_nil)))) (pa_cons (pe_tup (pa_cons pe_str (pa_cons (pv 4) (pa_cons (pv 2) pa_nil)))) pa_nil)))) pa_nil)))))))
    (pss_one (ps_ret (pe_ifExp (pt_cmpR op_eq (pe_call (ok_law_draw T) (hr.mono (by decide)) rfl T.d_law_draw.g T.d_law_draw.kp (bd_law_draw T) .nil pass0 (pa_cons (pv 0) (pa_cons pe_int pa_nil))) pe_int (nomark _)) (pe_tup (pa_cons pe_str (pa_cons (pv 2) (pa_cons (pe_call (ok_law_of T) (hr.mono (by decide)) rfl T.d_law_of.g T.d_law_of.kp (bd_law_of T) .nil pass0 (pa_cons (pv 0) (pa_cons (pe_lst (pa_cons pe_int (pa_cons pe_int (pa_cons pe_int (pa_cons pe_int pa_nil))))) pa_nil))) pa_nil)))) (pv 2)))))), ?_⟩
  obtain ⟨am, ac, ag, b, hv, sz, fs, rfl, M, ok, dh, q⟩ := h
  have nh := noL_hall sz fs
  refine ⟨_, rfl, _, rfl, am, ac, ag, b + 15, hv, sz, fs, rfl, M, ok, dh, fun H1 v1 x1 ns1 d1 M1 wf1 pk1 dv1 => ?_⟩
  refine ⟨_, rfl, am, ac, ag, _, b + 14, rfl, M1, by decide, by decide, fun H2 r2 d2 M2 r20 r21 => ⟨_, rfl, by omega, by omega, ?_⟩⟩
  obtain ⟨n, rfl⟩ := Int.eq_ofNat_of_zero_le r20
  rw [Int.toNat_natCast]
  have hn3 : n < 3 := by omega
  refine for_it walk_range (fun i σ H' => ∃ (v : V) (r : Rl) (c3 c4 : Option V), σ = [some (.ref am), some hv, some v, c3, c4] ∧ Dw am ag H H' ∧ Mach H' am ac ag (b + 2 + 6 * (2 - i)) ∧ Dp K H' v r.d ∧ r.Wf fs.length ∧ r.fine sz = true ∧ r.dep ≤ i ∧ r.size ≤ 2 * i + 1)
    ⟨v1, .pl x1 ns1, _, _, rfl, d1.trans d2, M2, Dp.tx (d2.tx M1) (Rl.noL _) dv1, wf1, pk1, Nat.le_refl _, Nat.le_refl _⟩ (fun _ _ _ _ _ => trivial) (fun i x σ H3' H3 hi p hY => ?_) (fun σ H3 p => ?_)
  · obtain ⟨v, r, c3, c4, rfl, d3, M3, dv, wf, fi, de, sz3⟩ := p
    obtain ⟨rfl, rfl⟩ := hY
    have hb : b + 2 + 6 * (2 - i) = b + 2 + 6 * (2 - (i + 1)) + 1 + 5 := by omega
    rw [hb] at M3
    refine ⟨_, rfl, _, rfl, am, ac, ag, _, hv, sz, fs, rfl, M3, ok, Dp.tx (d3.tx M) nh dh, fun H4 v4 x4 ns4 d4 M4 wf4 pk4 dv4 => ?_⟩
    have dv' := Dp.tx (d4.tx M3) (Rl.noL r) dv
    refine ⟨_, rfl, _, rfl, _, rfl, szc rfl, fun t1 ht1 => ⟨_, rfl, _, rfl, szc rfl, fun t2 ht2 => ⟨_, rfl, _, rfl, szc rfl, fun t3 ht3 => ⟨szc rfl, fun pl hpl => ?_⟩⟩⟩⟩
    have e1 := Ex.new (o := .tup [.str "all", v, v4]) ht1
    have e2 := Ex.new (o := .tup [.str "any", v, v4]) ht2
    have e3 := Ex.new (o := .tup [.str "any", v4, v]) ht3
    have e4 := Ex.new (o := .lst [.ref t1, .ref t2, .ref t3]) hpl
    have eA := ((e1.trans e2).trans e3).trans e4
    have D1 : Dp K (upd (upd (upd (upd H4 t1 (.tup [.str "all", v, v4])) t2 (.tup [.str "any", v, v4])) t3 (.tup [.str "any", v4, v])) pl (.lst [.ref t1, .ref t2, .ref t3])) (.ref t1) (Rl.cb "all" r (.pl x4 ns4)).d :=
      Dp.ex ((e2.trans e3).trans e4) (tup_new ht1 (.cons (.str _) (.cons dv' (.cons dv4 .nil))))
    have D2 : Dp K (upd (upd (upd (upd H4 t1 (.tup [.str "all", v, v4])) t2 (.tup [.str "any", v, v4])) t3 (.tup [.str "any", v4, v])) pl (.lst [.ref t1, .ref t2, .ref t3])) (.ref t2) (Rl.cb "any" r (.pl x4 ns4)).d :=
      Dp.ex (e3.trans e4) (tup_new ht2 (.cons (.str _) (.cons (Dp.ex e1 dv') (.cons (Dp.ex e1 dv4) .nil))))
    have D3 : Dp K (upd (upd (upd (upd H4 t1 (.tup [.str "all", v, v4])) t2 (.tup [.str "any", v, v4])) t3 (.tup [.str "any", v4, v])) pl (.lst [.ref t1, .ref t2, .ref t3])) (.ref t3) (Rl.cb "any" (.pl x4 ns4) r).d :=
      Dp.ex e4 (tup_new ht3 (.cons (.str _) (.cons (Dp.ex (e1.trans e2) dv4) (.cons (Dp.ex (e1.trans e2) dv') .nil))))
    have hpl4 : (upd (upd (upd (upd H4 t1 (.tup [.str "all", v, v4])) t2 (.tup [.str "any", v, v4])) t3 (.tup [.str "any", v4, v])) pl (.lst [.ref t1, .ref t2, .ref t3])) pl = some (.lst [.ref t1, .ref t2, .ref t3]) := upd_same
    obtain ⟨k1, k2, k3⟩ := (M4.ex ((e1.trans e2).trans e3)).fm hpl
    have M5 := M4.ex eA
    have d5 : Dw am ag H _ := (d3.trans d4).trans (Dw.ex eA)
    generalize upd (upd (upd (upd H4 t1 (.tup [.str "all", v, v4])) t2 (.tup [.str "any", v, v4])) t3 (.tup [.str "any", v4, v])) pl (.lst [.ref t1, .ref t2, .ref t3]) = H5 at *
    refine ⟨am, ac, ag, _, pl, _, rfl, M5, hpl4, k1, k3, Nat.succ_pos _, show 3 ≤ 1000000 by decide, fun H6 y hy d6 M6 => ?_⟩
    have t6 := d6.tx M5
    have wfc : ∀ w, w ∈ cbW → (Rl.cb w r (.pl x4 ns4)).Wf fs.length ∧ (Rl.cb w (.pl x4 ns4) r).Wf fs.length := fun w hw => ⟨⟨hw, wf, wf4⟩, ⟨hw, wf4, wf⟩⟩
    have hall : ("all" : Str) ∈ cbW := by decide +kernel
    have hany : ("any" : Str) ∈ cbW := by decide +kernel
    have fin : ∀ r' : Rl, Dp K H5 y r'.d → r'.Wf fs.length → r'.fine sz = true → r'.dep ≤ i + 1 → r'.size ≤ 2 * (i + 1) + 1 → ∃ (v' : V) (r : Rl) (c3 c4 : Option V), [some (.ref am), some hv, some y, some (.int (0 + (i : Int))), some v4] = [some (V.ref am), some hv, some v', c3, c4] ∧ Dw am ag H H6 ∧ Mach H6 am ac ag (b + 2 + 6 * (2 - (i + 1))) ∧ Dp K H6 v' r.d ∧ r.Wf fs.length ∧ r.fine sz = true ∧ r.dep ≤ i + 1 ∧ r.size ≤ 2 * (i + 1) + 1 :=
      fun r' h1 h2 h3 h4 h5 => ⟨y, r', _, _, rfl, d5.trans d6, M6, Dp.tx t6 (Rl.noL _) h1, h2, h3, h4, h5⟩
    have fA : ∀ w, (Rl.cb w r (.pl x4 ns4)).fine sz = true := fun w => by
      show (r.fine sz && plOk sz x4 ns4) = true
      rw [fi, pk4] <;> rfl
    have fB : ∀ w, (Rl.cb w (.pl x4 ns4) r).fine sz = true := fun w => by
      show (plOk sz x4 ns4 && r.fine sz) = true
      rw [fi, pk4] <;> rfl
    have zA : ∀ w, (Rl.cb w r (.pl x4 ns4)).dep ≤ i + 1 ∧ (Rl.cb w r (.pl x4 ns4)).size ≤ 2 * (i + 1) + 1 := fun w => by
      show 1 + max r.dep 0 ≤ i + 1 ∧ 1 + r.size + 1 ≤ 2 * (i + 1) + 1
      omega
    have zB : ∀ w, (Rl.cb w (.pl x4 ns4) r).dep ≤ i + 1 ∧ (Rl.cb w (.pl x4 ns4) r).size ≤ 2 * (i + 1) + 1 := fun w => by
      show 1 + max 0 r.dep ≤ i + 1 ∧ 1 + 1 + r.size ≤ 2 * (i + 1) + 1
      omega
    rcases List.mem_cons.mp hy with rfl | hy
    · exact fin _ D1 (wfc _ hall).1 (fA _) (zA _).1 (zA _).2
    rcases List.mem_cons.mp hy with rfl | hy
    · exact fin _ D2 (wfc _ hany).1 (fA _) (zA _).1 (zA _).2
    obtain rfl := List.mem_singleton.mp hy
    exact fin _ D3 (wfc _ hany).2 (fB _) (zB _).1 (zB _).2
  · obtain ⟨v, r, c3, c4, rfl, d3, M3, dv, wf, fi, de, sz3⟩ := p
    have M3 : Mach H3 am ac ag (b + 1 + 1) := M3.mono (by omega)
    refine ⟨_, rfl, am, ac, ag, _, b + 1, rfl, M3, by decide, by decide, fun H4 r4 d4 M4 r40 r41 => ?_⟩
    refine ⟨rfl, _, rfl, ?_⟩
    have dv' := Dp.tx (d4.tx M3) (Rl.noL r) dv
    have sz1 := r.size_pos
    refine ite2B (fun _ => ?_) (fun _ => ?_)
    · refine ⟨_, rfl, _, rfl, szc rfl, fun pl hpl => ?_⟩
      have e1 := Ex.new (o := .lst [.int 0, .int 1, .int 5, .int 99]) hpl
      obtain ⟨k1, k2, k3⟩ := M4.fm hpl
      refine ⟨am, ac, ag, b, pl, _, rfl, M4.ex e1, upd_same, k1, k3, Nat.succ_pos _, show 4 ≤ 1000000 by decide, fun H5 y hy d5 M5 => ?_⟩
      obtain ⟨fee, rfl, hf0, hf1⟩ : ∃ fee : Int, y = .int fee ∧ 0 ≤ fee ∧ fee ≤ 99 := by
        rcases List.mem_cons.mp hy with rfl | hy
        · exact ⟨0, rfl, by decide, by decide⟩
        rcases List.mem_cons.mp hy with rfl | hy
        · exact ⟨1, rfl, by decide, by decide⟩
        rcases List.mem_cons.mp hy with rfl | hy
        · exact ⟨5, rfl, by decide, by decide⟩
        obtain rfl := List.mem_singleton.mp hy
        exact ⟨99, rfl, by decide, by decide⟩
      have d45 := (Dw.ex e1).trans d5
      have dv5 := Dp.tx (d45.tx M4) (Rl.noL r) dv'
      refine ⟨szc rfl, fun t ht => q _ _ (.ou r fee) (((d3.trans d4).trans d45).trans (Dw.ex (Ex.new ht))) (M5.ex (Ex.new ht)) ⟨wf, hf0, by omega⟩ ?_ (bad_ou fi (by omega) hf0 hf1) (tup_new ht (.cons (.str _) (.cons dv5 (.cons (.int _) .nil))))⟩
      show 1 + r.size ≤ 6
      omega
    · exact ⟨_, rfl, q _ v r (d3.trans d4) (M4.mono (by omega)) wf (by omega) (bad_fine fi (by omega)) dv'⟩
end
end K95

set_option Elab.async false
set_option linter.all false
set_option maxRecDepth 100000
set_option maxHeartbeats 4000000
/-! sorted(t) of a tuple of ints. -/
namespace K95
open PySem PySem.Spec PyProof.Rows L2 Srt SrtO
section
variable {prog : Program} {w : World} {A : Around} {E : Value → Shared → Prop} {s : Shared}
theorem collect_tup {Q : List Value → Shared → Prop} (it : Addr) {o : Obj} {items : Array Value} {n : Nat} (ho : s.heap.get? it = some o) (hc : o.cls = .type "tuple") (hd : o.data = .seq items n)
    (hQ : Q items.toList { s with heap := (s.heap.push (seqObj "list" #[] 0)).update s.heap.objs.size (Obj.mapSeq (· ++ items)) }) (hsz : items.size ≤ sizeLine) :
    wpAny (model prog w) A (collect (.ref it)) Q E s := by
  unfold collect
  refine wpAny_bind (wpAny_runValue (codeAny_builtin PySem.F.entry_proto_collect ?_))
  rw [Around.under_plainId PySem.F.plain_proto_collect _]
  show wpAny _ A.in1 (newList [] >>= fun l => again (.builtin "list.__iadd__" ⟨[l, .ref it], []⟩)) _ _ s
  refine wpAny_bind (wpAny_newObj_type ?_)
  refine wpAny_pure ⟨plainId_quiet PySem.F.plain_list_iadd _, codeAny_builtin PySem.F.entry_list_iadd ?_⟩
  rw [Around.under_plainId PySem.F.plain_list_iadd _]
  show wpAny _ A.in1 (Builtin.List.listExtendWith (.ref s.heap.objs.size) (.ref it) (.ref s.heap.objs.size)) _ _ _
  have hS : (s.heap.push { cls := .type "list", data := .seq ([] : List Value).toArray }).get? s.heap.objs.size = some { cls := .type "list", data := .seq #[] 0 } := Heap.get?_push_size _ rfl
  have hS₂ := Heap.get?_update_self (Obj.mapSeq (· ++ items)) hS rfl
  have fin' : wpAny (model prog w) A (match Value.ref s.heap.objs.size with
      | Value.ref a => do
        match (← load a).data with
          | Data.seq xs _ => pure xs.toList
          | _ => unsupported "internal:collect"
      | _ => unsupported "internal:collect") Q E { s with heap := (s.heap.push { cls := .type "list", data := .seq ([] : List Value).toArray }).update s.heap.objs.size (Obj.mapSeq (· ++ items)) } := by
    show wpAny _ A (load s.heap.objs.size >>= _) _ _ _
    refine wpAny_bind (wpAny_load hS₂ ?_)
    refine wpAny_pure ?_
    have e : ((#[] : Array Value) ++ items).toList = items.toList := by simp
    show Q ((#[] : Array Value) ++ items).toList _
    rw [e]
    exact hQ
  refine wpAny_mono (wpAny_extend_seq (hsz := hsz) (A := A) (R := fun r s' => r = .ok (.ret (.ref s.heap.objs.size)) ∧ s' = { s with heap := (s.heap.push { cls := .type "list", data := .seq ([] : List Value).toArray }).update s.heap.objs.size (Obj.mapSeq (· ++ items)) })
    (s := { s with heap := s.heap.push { cls := .type "list", data := .seq ([] : List Value).toArray } }) _ it _ 0 (.inr rfl) hS (Heap.get?_push_of_some _ ho) hc hd ⟨rfl, rfl⟩) (fun fin s' h => ?_) (fun e s' h => ?_)
  · cases fin with
    | done f =>
      obtain ⟨e, rfl⟩ := h
      cases e
      exact fin'
    | again c' => exact ⟨h.1, codeAny_mono h.2 fun r s'' hr => by obtain ⟨rfl, rfl⟩ := hr; exact fin'⟩
  · exact absurd h.1 (by simp)
theorem sorted_tup {l : Addr} {o : Obj} {n : Nat} {vs : List Value} {ns : List Int} {Q : Value → Shared → Prop} (ho : s.heap.get? l = some o) (hc : o.cls = .type "tuple") (hd : o.data = .seq vs.toArray n) (hI : IntsAre vs ns) (hz : vs.length ≤ sizeLine)
    (h : ∀ out : List Value, Srtd ltIv out → Stb ltIv out vs → Q (.ref (s.heap.objs.size + 1)) { s with heap := sortedAll s.heap vs out.toArray }) :
    wpAny (model prog w) A (call (.builtin "sorted") [.ref l]) Q E s := by
  refine Calls.call_function_entry kind_sorted plain_sorted entry_sorted (args_sorted1 _) ?_
  unfold Builtin.«sorted»
  refine wpAny_bind (m := checkCount "sorted" 1 1 _) (wpAny_pure ?_)
  refine wpAny_bind (collect_tup l ho hc hd ?_ (by simpa using hz))
  rw [List.toList_toArray]
  refine wpAny_bind (wpAny_newList ?_ hz)
  have hsz : ((s.heap.push (seqObj "list" #[] 0)).update s.heap.objs.size (Obj.mapSeq (· ++ vs.toArray))).objs.size = s.heap.objs.size + 1 := by
    rw [Heap.size_update, size_push']
  have hoL : (((s.heap.push (seqObj "list" #[] 0)).update s.heap.objs.size (Obj.mapSeq (· ++ vs.toArray))).push (seqObj "list" vs.toArray 0)).get? (s.heap.objs.size + 1) = some (seqObj "list" vs.toArray 0) := by
    rw [← hsz]; exact Heap.get?_push_size _ rfl
  show wpAny _ _ _ _ _ { s with heap := ((s.heap.push (seqObj "list" #[] 0)).update s.heap.objs.size (Obj.mapSeq (· ++ vs.toArray))).push (seqObj "list" vs.toArray 0) }
  rw [hsz]
  refine wpAny_bind (wpAny_holding (wpAny_call_entry slot_list_sort ⟨_, hoL, rfl⟩ entry_list_sort (list_sort_ord swo_int hoL hz (fun h2 => ints_sortable hI h2) fun out hs hb => ⟨_, rfl, ?_⟩) (args_list_sort _)))
  exact wpAny_pure ⟨_, rfl, h out hs hb⟩
end
/-- sorted(t), a tuple of ints -/
def rSortedTup (K : PySem.W.Frag) : List V → Hp → VK → Prop := fun vs H Q => ∃ (a : Addr) (ns : List Int), vs = [V.ref a] ∧ SqT K H a (ns.map V.int) ∧
  ∀ (ns' : List Int) (p : Addr), ns'.Perm ns → ns'.Pairwise (· ≤ ·) → H p = none → Q (.ref p) (upd H p (.lst (ns'.map V.int)))
theorem cr_sortedTup {X : Cx} : CallR X (.builtin "sorted") (rSortedTup X.K) := by
  intro pins s σ H vs us Q I r h
  obtain ⟨a, ns, rfl, hs, q⟩ := h
  obtain ⟨its, rv, ⟨o, ho, hc, n, hd⟩, hz⟩ := I.tuple hs
  rw [Vals.ref1 r]
  have hi := rv.ints
  refine sorted_tup ho hc hd hi (by rw [← rv.length]; exact hz) fun out h1 h2 => ?_
  obtain ⟨k1, k2, k3⟩ := SrtO.ints_out hi h1 h2
  obtain ⟨ep, he'⟩ := PyProof.Rows.sortedAll_at s.heap its out.toArray
  have hlen : ((out.map SrtO.iv).map V.int).length ≤ sizeLine := by
    rw [List.length_map, k2.length_eq]
    rw [List.length_map] at hz
    exact hz
  exact ⟨.ref _, upd H (s.heap.objs.size + 1) (.lst ((out.map SrtO.iv).map V.int)), I.laid (t' := s.toks) (fun _ _ => PyProof.Rows.sortedAll_old) (Nat.le_succ _) ⟨hlen, out, ep, vals_of_ints k1, he'⟩, rfl, q _ _ k2 k3 (I.hok.fresh (Nat.le_succ _))⟩
end K95

set_option Elab.async false
set_option linter.all false
set_option maxRecDepth 100000
set_option maxHeartbeats 4000000
/-! What the law itself makes of a rule and of a text. -/
namespace K95
open PySem PySem.Spec PyProof.Rows L2
open Evl (Ex ex_l ex_t fresh_back)
open TL (tl)
/-- a text whose signs are signs -/
def Sg (x : Str) : Prop := ∀ c ∈ tl x, c < 0x110000
theorem Sg.lay {x : Str} (h : Sg x) : PyData.canLay0 (.str x) = true := by
  simp only [PyData.canLay0]
  unfold PyData.strOk
  rw [← Array.all_toList, List.all_eq_true]
  exact fun c hc => decide_eq_true (h c hc)
theorem eqv_strs (xs : List Str) : PyData.eqv (.list (dSs xs)) (.list []) = xs.isEmpty := by
  rw [eqv_nil]
  cases xs <;> rfl
theorem shaped_strs {xs : List Str} (h : ∀ x ∈ xs, Sg x) : SeqAt.shaped (.list (dSs xs)) = true := by
  have h1 : PyData.canLayAll0 (dSs xs) = true := by
    induction xs with
    | nil => rfl
    | cons x xs ih =>
      have a := (h x List.mem_cons_self).lay
      have b := ih fun y hy => h y (List.mem_cons_of_mem _ hy)
      simp only [List.map_cons, PyData.canLayAll0, a, b, Bool.and_self]
  have h2 : ∀ ys : List Str, PyData.depthAll (dSs ys) = 0 := fun ys => by
    induction ys with
    | nil => rfl
    | cons y ys ih => simp only [List.map_cons, PyData.depthAll, PyData.depth, ih, Nat.max_self]
  unfold SeqAt.shaped
  simp only [PyData.canLay0, h1, PyData.depth, h2, Bool.true_and]
  decide
theorem eqv_intsL : ∀ (a b : List Int), PyData.eqv (.list (dIs a)) (.list (dIs b)) = decide (a = b) := by
  have h : ∀ (a b : List Int), PyData.eqvAll (dIs a) (dIs b) = decide (a = b) := by
    intro a
    induction a with
    | nil => intro b; cases b <;> simp [PyData.eqvAll]
    | cons x a ih =>
      intro b
      cases b with
      | nil => simp [PyData.eqvAll]
      | cons y b =>
        simp only [List.map_cons, PyData.eqvAll, PyData.eqv, ih]
        by_cases h1 : x = y
        · subst h1
          simp
        · simp [h1]
  intro a b
  simp only [PyData.eqv]
  exact h a b
theorem psort : ∀ {a b : List Int}, a.Perm b → a.Pairwise (· ≤ ·) → b.Pairwise (· ≤ ·) → a = b
  | [], [], _, _, _ => rfl
  | [], y :: b, h, _, _ => by have := h.length_eq; simp at this
  | x :: a, [], h, _, _ => by have := h.length_eq; simp at this
  | x :: a, y :: b, h, ha, hb => by
    have hx : x ∈ y :: b := h.mem_iff.mp List.mem_cons_self
    have hy : y ∈ x :: a := h.mem_iff.mpr List.mem_cons_self
    have e : x = y := by
      rcases List.mem_cons.mp hx with h1 | h1
      · exact h1
      · rcases List.mem_cons.mp hy with h2 | h2
        · exact h2.symm
        · have := (List.pairwise_cons.mp hb).1 x h1
          have := (List.pairwise_cons.mp ha).1 y h2
          omega
    subst e
    rw [psort (h.cons_inv) (List.pairwise_cons.mp ha).2 (List.pairwise_cons.mp hb).2]
theorem leI_pair : ∀ {ns : List Int}, leI ns = true → ns.Pairwise (· ≤ ·)
  | [], _ => .nil
  | [a], _ => List.pairwise_singleton _ _
  | a :: b :: r, h => by
    have h' : (decide (a ≤ b) && leI (b :: r)) = true := h
    obtain ⟨h1, h2⟩ := Bool.and_eq_true_iff.mp h'
    have h1 := of_decide_eq_true h1
    have ih := leI_pair h2
    refine List.pairwise_cons.mpr ⟨fun x hx => ?_, ih⟩
    rcases List.mem_cons.mp hx with rfl | hx
    · exact h1
    · have := (List.pairwise_cons.mp ih).1 x hx
      omega
/-- list(t) != sorted(t) -/
theorem sorted_ne {ns ns' : List Int} (hp : ns'.Perm ns) (hs : ns'.Pairwise (· ≤ ·)) : PyData.eqv (.list (dIs ns)) (.list (dIs ns')) = leI ns := by
  rw [eqv_intsL]
  cases h : leI ns with
  | true => exact decide_eq_true (psort hp hs (leI_pair h)).symm
  | false =>
    refine decide_eq_false fun e => ?_
    rw [e, leI_sorted hs] at h
    cases h
theorem joinL_len (S : List Nat) (hS : S.length = 1) : ∀ {ps : List (List Nat)}, (TL.joinL S ps).length ≤ (ps.map (fun p => p.length + 1)).sum
  | [] => Nat.le_refl _
  | [p] => by simp [TL.joinL]
  | p :: q :: r => by
    have ih := joinL_len S hS (ps := q :: r)
    show (p ++ (S ++ TL.joinL S (q :: r))).length ≤ _
    rw [List.length_append, List.length_append, hS, List.map_cons, List.sum_cons]
    omega
theorem join_len {y : Str} (hy : y.length = 1) (ps : List Str) : (Txt.join y ps).length ≤ (ps.map (fun p => p.length + 1)).sum := by
  rw [TL.join_eq, TL.len_tl, TL.tl_join]
  have h := joinL_len (tl y) (by rw [← TL.len_tl]; exact hy) (ps := ps.map tl)
  rw [List.map_map] at h
  have e : ((fun p : List Nat => p.length + 1) ∘ tl) = fun p : Str => p.length + 1 := funext fun p => congrArg (· + 1) (TL.len_tl p).symm
  rw [e] at h
  exact h
theorem txt_len {nf : Nat} {r : Rl} (h : r.Wf nf) : r.txt.length ≤ 8 * (r.size * (nf + 2)) := by
  have h1 := join_len (y := " ") rfl r.ws
  rw [txt_join] at h1
  have h2 := (vts_ws h).short
  have h3 := ws_len h
  have h4 : ∀ l : List Str, (l.map (fun p => p.length + 1)).sum = (l.map (·.length)).sum + l.length := fun l => by
    induction l with
    | nil => rfl
    | cons a l ih => simp only [List.map_cons, List.sum_cons, List.length_cons, ih]; omega
  rw [h4] at h1
  omega
theorem addN_snoc : ∀ (ns : List Int) (t : Str) (n : Int), addN t (ns ++ [n]) = addN t ns ++ " " ++ numS n
  | [], _, _ => rfl
  | m :: ns, t, n => addN_snoc ns (t ++ " " ++ numS m) n
theorem addN_len : ∀ (ns : List Int) (t : Str), (∀ n ∈ ns, 0 ≤ n ∧ n < 10000000) → (addN t ns).length ≤ t.length + 8 * ns.length
  | [], _, _ => Nat.le_refl _
  | n :: ns, t, h => by
    have ih := addN_len ns (t ++ " " ++ numS n) fun m hm => h m (List.mem_cons_of_mem _ hm)
    have h1 := (vt_num (h n List.mem_cons_self)).1
    have e : (t ++ " " ++ numS n).length = t.length + 1 + (numS n).length := by
      rw [TL.len_tl, TL.tl_append, TL.tl_append, tl_sp, List.length_append, List.length_append, ← TL.len_tl, ← TL.len_tl] <;> rfl
    rw [e] at ih
    rw [List.length_cons]
    show (addN (t ++ " " ++ numS n) ns).length ≤ _
    omega
def pSign : V → Bool
  | .str z => !(tl z).all fun c => decide (c ∈ tl "0123456789")
  | _ => false
def spNumL : Sp := fun vs H Q _ => ∃ x : Str, vs = [.str x] ∧ x.length ≤ 1000000 ∧ Sg x ∧ ∀ H', Ex H H' → Q (.bl (numOk x)) H'
def spTextL (K : PySem.W.Frag) (f : Nat) : Sp := fun vs H Q _ => ∃ (v : V) (r : Rl) (nf : Nat), vs = [v] ∧ Dp K H v r.d ∧ r.Wf nf ∧ nf ≤ 100 ∧ r.size ≤ f ∧ f ≤ 20 ∧ ∀ H', Ex H H' → Q (.str r.txt) H'
section
variable {w : World} {K : PySem.W.Frag} {mg : Str → Option Value} {base : Heap}
abbrev nLaw_is_number : List Str := ["_law_word", "_law_sign"]
theorem scLaw_is_number : FnScope nLaw_is_number ["_law_word"] (defScope (top 57)) := ⟨rfl, rfl, rfl, by decide +kernel, rfl, by decide +kernel, by decide +kernel⟩
theorem ok_law_is_number (T : Txt K mg) : FnOk PR w K mg base CX0 1 (ga K "_law_is_number") (fdOf K "_law_is_number") ["_law_word"] spNumL := by
  refine T.d_law_is_number.F.ok scLaw_is_number (fun vs H Q E h => ?_) (fun cdv A outer s H vs Q E hr h => ?_)
  · obtain ⟨x, rfl, _⟩ := h
    rfl
  refine ⟨_, (pss_cons (ps_if (PW.pt (pw_or (pt_not (pt_chain op_le op_le pe_int (pe_callB call_len rfl T.f_len (by decide +kernel) (pa_cons (pv 0) pa_nil)) pe_int)) (pw_or1 (pt_cmpR (op_neD hr.units) (pe_lc (own := [("_law_sign", 1)]) (g := gName 1) (tt := _) rfl scLaw_is_number.nd (pi_str (pv 0)) (blkOk_by (N := nLaw_is_number) (sc := defScope (top 57)) (by decide +kernel)) (fun _ _ _ _ _ => pg_name (i := 1) scLaw_is_number.nd rfl (Or.inl rfl)) (fun _ _ _ _ _ => pts_one (pt_cmpR op_notIn_sign (pv 1) pe_str rfl)) (fun _ _ _ _ _ => (pv 1))) (pe_lst pa_nil) (nomark _)))))
      (pss_one (ps_ret pe_bl))
      pss_nil)
    (pss_one (ps_ret (pe_or (pe_cmpR op_eq (pv 0) pe_str (nomark _)) (pe_one (pe_cmpR op_ne (pe_ix ix_str (pv 0) pe_int (fun _ _ => rfl)) pe_str (nomark _))))))), ?_⟩
  obtain ⟨x, rfl, hl, sg, q⟩ := h
  have hsl : x.length ≤ sizeLine := Nat.le_trans hl (by decide)
  have q0 : numOk x = false → Q (.bl false) H := fun z => by
    have := q H (Ex.refl _)
    rwa [z] at this
  refine ⟨_, rfl, _, _, rfl, ⟨hsl, rfl⟩, _, _, rfl, rfl, _, rfl, ?_⟩
  by_cases h1 : 1 ≤ x.length
  rotate_left
  · refine iteB0 (decide_eq_false (by omega)) ⟨_, rfl, iteT (iteT (q0 ?_))⟩
    unfold numOk
    rw [decide_eq_false h1] <;> rfl
  refine iteB (decide_eq_true (by omega)) ⟨_, _, rfl, rfl, _, rfl, ?_⟩
  by_cases h7 : x.length ≤ 7
  rotate_left
  · refine iteNB0 (decide_eq_false (by omega)) (iteT (q0 ?_))
    unfold numOk
    rw [decide_eq_false h7, Bool.and_false] <;> rfl
  refine iteNB (decide_eq_true (by omega)) ?_
  have hp1 : ∀ c : Nat, pSign (V.str ⟨#[c]⟩) = !decide (c ∈ tl "0123456789") := fun c => by
    show (!([c] : List Nat).all fun c => decide (c ∈ tl "0123456789")) = _
    rw [List.all_cons, List.all_nil, Bool.and_true]
  refine ⟨_, rfl, _, rfl, fun D hD => lc_sel walk_str ((tl x).map fun c => V.str ⟨#[c]⟩) pSign (by rw [List.length_map] <;> rfl) (show x.length ≤ 16000000 by omega) hD (fun H' e => trivial) (fun i y H1 H2 z kT kF hy e hY hT hF => ?_) (fun H1 e1 hD1 => ?_)⟩
  · obtain ⟨rfl, c, hc, rfl⟩ := hY
    have hc2 : (tl x)[i]? = some c := by rw [Array.getElem?_toList]; exact hc
    obtain rfl := get_map hc2 hy
    rw [hp1] at hT hF
    refine ⟨rfl, _, rfl, c, _, rfl, rfl, _, rfl, ?_⟩
    exact ite2B (fun h => ⟨_, rfl, hT h _ (Ex.refl _)⟩) (fun h => hF h _ (Ex.refl _))
  have hfil : ((tl x).map fun c => V.str ⟨#[c]⟩).filter pSign = (((tl x).filter fun c => !decide (c ∈ tl "0123456789")).map fun c => (⟨#[c]⟩ : Str)).map V.str := by
    rw [List.filter_map, List.map_map]
    have e : (pSign ∘ fun c => V.str ⟨#[c]⟩) = fun c => !decide (c ∈ tl "0123456789") := funext hp1
    rw [e]
    rfl
  rw [hfil] at hD1
  refine ⟨by decide, fun p hp => ⟨_, _, .lst (SqL.of (Ex.new hp _ _ hD1)) (da_strs _), lst_new hp .nil, shaped_strs (fun y hy => ?_), by decide +kernel, _, rfl, ?_⟩⟩
  · obtain ⟨c, hc, rfl⟩ := List.mem_map.mp hy
    intro d hd
    have : d = c := List.mem_singleton.mp hd
    rw [this]
    exact sg c (List.mem_filter.mp hc).1
  rw [eqv_strs]
  have q1 := q _ (e1.trans (Ex.new (o := .lst []) hp))
  have hall : (((tl x).filter fun c => !decide (c ∈ tl "0123456789")).map fun c => (⟨#[c]⟩ : Str)).isEmpty = (tl x).all fun c => decide (c ∈ tl "0123456789") := by
    rw [List.isEmpty_map]
    cases h : (tl x).all fun c => decide (c ∈ tl "0123456789") with
    | true =>
      rw [List.isEmpty_iff, List.filter_eq_nil_iff]
      intro c hc
      have := List.all_eq_true.mp h c hc
      rw [this]
      decide
    | false =>
      rw [Bool.eq_false_iff]
      intro z
      rw [List.isEmpty_iff, List.filter_eq_nil_iff] at z
      rw [Bool.eq_false_iff] at h
      exact h (List.all_eq_true.mpr fun c hc => by simpa using z c hc)
  rw [hall]
  unfold numOk at q1
  rw [decide_eq_true h1, decide_eq_true h7] at q1
  refine ite2B (fun hb => ?_) (fun hb => ?_)
  · have hb' : ((tl x).all fun c => decide (c ∈ tl "0123456789")) = false := by simpa using hb
    rw [hb'] at q1
    exact q1
  have hb' : ((tl x).all fun c => decide (c ∈ tl "0123456789")) = true := by simpa using hb
  rw [hb'] at q1
  rw [TL.len_tl] at h1
  cases hx : tl x with
  | nil => rw [hx] at h1; exact absurd h1 (by decide)
  | cons c r =>
  rw [hx] at q1
  have q2 : Q (.bl (decide (x = "0") || !decide (c = 48))) (upd H1 p (.lst [])) := by
    have : decide ((c :: r)[0]? = some 48) = decide (c = 48) := by simp
    rw [this] at q1
    rw [Bool.or_comm]
    exact q1
  rw [← one_eq, ← str_eq] at q2
  refine ⟨_, rfl, rfl, ?_⟩
  cases hd : decide (V.str x = V.str "0") with
  | true =>
    rw [hd] at q2
    exact ⟨_, rfl, iteT q2⟩
  | false =>
    rw [hd] at q2
    exact ⟨_, rfl, iteF ⟨_, rfl, _, _, c, rfl, rfl, hsl, (by rw [show x.cps.toList = c :: r from hx]; exact atI_nat (j := 0) rfl), rfl, q2⟩⟩
abbrev nLaw_rule_text : List Str := ["_law_some", "_law_words", "_law_one"]
theorem scLaw_rule_text : FnScope nLaw_rule_text ["_law_some"] (defScope (top 58)) := ⟨rfl, rfl, rfl, by decide +kernel, rfl, by decide +kernel, by decide +kernel⟩
theorem ok_law_rule_text (T : Txt K mg) : ∀ f, FnOk PR w K mg base CX0 (f + 1) (ga K "_law_rule_text") (fdOf K "_law_rule_text") ["_law_some"] (spTextL K f)
  | 0 => by
    refine T.d_law_rule_text.F.ok scLaw_rule_text (fun vs H Q E h => ?_) (fun cdv A outer s H vs Q E hr h => ?_)
    · obtain ⟨v, r, nf, rfl, _⟩ := h
      rfl
    · obtain ⟨v, r, nf, rfl, dv, wf, hn, hz, _⟩ := h
      have := r.size_pos
      omega
  | f + 1 => by
    have ih := ok_law_rule_text T f
    refine T.d_law_rule_text.F.ok scLaw_rule_text (fun vs H Q E h => ?_) (fun cdv A outer s H vs Q E hr h => ?_)
    · obtain ⟨v, r, nf, rfl, _⟩ := h
      rfl
    refine ⟨_, (pss_cons (ps_if (pt_cmpR op_eq (pe_ix ix_tup (pv 0) pe_int (fun _ _ => rfl)) pe_str (nomark _))
      (pss_one (ps_ret (pe_op op_add_str (pe_op op_add_str (pe_op op_add_str pe_str (pe_callTy call_strX rfl T.f_str (by decide +kernel) (pa_cons (pe_ix ix_tup (pv 0) pe_int (fun _ _ => rfl)) pa_nil))) pe_str) (pe_call ih hr rfl T.d_law_rule_text.g T.d_law_rule_text.kp (bd_law_rule_text T) .nil pass0 (pa_cons (pe_ix ix_tup (pv 0) pe_int (fun _ _ => rfl)) pa_nil)))))
      pss_nil)
    (pss_cons (ps_if (pt_cmpR op_in_seq (pe_ix ix_tup (pv 0) pe_int (fun _ _ => rfl)) (pe_tup (pa_cons pe_str (pa_cons pe_str pa_nil))) rfl)
      (pss_one (ps_ret (pe_op op_add_str (pe_op op_add_str (pe_op op_add_str (pe_op op_add_str (pe_ix ix_tup (pv 0) pe_int (fun _ _ => rfl)) pe_str) (pe_call ih hr rfl T.d_law_rule_text.g T.d_law_rule_text.kp (bd_law_rule_text T) .nil pass0 (pa_cons (pe_ix ix_tup (pv 0) pe_int (fun _ _ => rfl)) pa_nil))) pe_str) (pe_call ih hr rfl T.d_law_rule_text.g T.d_law_rule_text.kp (bd_law_rule_text T) .nil pass0 (pa_cons (pe_ix ix_tup (pv 0) pe_int (fun _ _ => rfl)) pa_nil)))))
      pss_nil)
    (pss_cons (ps_set (i := 1) scLaw_rule_text.nd rfl (Or.inl rfl) (pe_ix ix_tup (pv 0) pe_int (fun _ _ => rfl)))
    (pss_cons (ps_for (passes_of rfl) rfl (pi_tup (pe_ix ix_tup (pv 0) pe_int (fun _ _ => rfl))) (pg_name (i := 2) scLaw_rule_text.nd rfl (Or.inl rfl))
      (pss_one (ps_set (i := 1) scLaw_rule_text.nd rfl (Or.inl rfl) (pe_op op_add_str (pe_op op_add_str (pv 1) pe_str) (pe_callTy call_strX rfl T.f_str (by decide +kernel) (pa_cons (pv 2) pa_nil))))))
    (pss_one (ps_ret (pv 1))))))), ?_⟩
    obtain ⟨v, r, nf, rfl, dv, wf, hn, hz, hf, q⟩ := h
    have hsz20 : ∀ {r : Rl}, r.Wf nf → r.size ≤ 20 → r.txt.length ≤ 20000 := fun {r} h1 h2 => by
      have h3 := txt_len h1
      have h4 : r.size * (nf + 2) ≤ 20 * 102 := Nat.mul_le_mul h2 (by omega)
      omega
    have sl : ∀ {n : Nat}, n ≤ 100000 → n ≤ sizeLine := fun h => Nat.le_trans h (by decide)
    have lapp : ∀ x y : Str, (x ++ y).length = x.length + y.length := fun x y => by rw [TL.len_tl, TL.tl_append, List.length_append, ← TL.len_tl, ← TL.len_tl]
    cases r with
    | pl x ns =>
      obtain ⟨a, xs, rfl, hS, hA⟩ := dp_tup dv
      obtain ⟨v1, r1, rfl, d1, hA⟩ := da_cons hA
      obtain ⟨v2, r2, rfl, d2, hA⟩ := da_cons hA
      obtain rfl := da_nil hA
      obtain rfl := dp_str d1
      obtain ⟨b, rfl, hN⟩ := dp_ints d2
      obtain ⟨wf1, wf2, wf3⟩ := wf
      have hp : ∀ w ∈ plW, w ∉ cbW ∧ w ≠ ("oust" : Str) ∧ w.length ≤ 7 := by decide +kernel
      obtain ⟨p1, p2, p3⟩ := hp x wf1
      refine ⟨_, rfl, _, _, _, _, rfl, rfl, hS, rfl, rfl, _, rfl, iteB0 (decide_eq_false fun z => p2 (V.str.inj z)) ?_⟩
      refine ⟨_, rfl, _, _, _, _, rfl, rfl, hS, rfl, by decide, fun t ht => ⟨_, _, rfl, .inr (SqT.of upd_same), rfl, rfl, _, rfl, ?_⟩⟩
      have ein := inV_str x ["all", "any"]
      show (if inV (.str x) ((["all", "any"] : List Str).map V.str) = true then _ else _)
      rw [ein]
      refine iteB0 (decide_eq_false p1) ?_
      have e2 := Ex.new (o := .tup [.str "all", .str "any"]) ht
      have hS2 := ex_t e2 hS
      have hN2 := ex_t e2 hN
      refine ⟨_, rfl, _, _, _, _, rfl, rfl, hS2, rfl, ?_⟩
      refine ⟨_, rfl, _, _, _, _, rfl, rfl, hS2, rfl, _, rfl, ⟨_, hN2⟩, ?_⟩
      refine for_it walk_tup (fun i σ H' => ∃ c2 : Option V, σ = [some (.ref a), some (.str (addN x (ns.take i))), c2] ∧ H' = upd H t (.tup [.str "all", .str "any"])) ⟨_, rfl, rfl⟩ (fun i σ H' _ p => by obtain ⟨_, _, rfl⟩ := p; exact hN2) (fun i y σ H2' H2 hi p hY => ?_) (fun σ H2 p => ?_)
      · obtain ⟨c2, rfl, rfl⟩ := p
        obtain ⟨rfl, hy⟩ := hY
        obtain ⟨n, hn, rfl⟩ := get_int hy
        have hnb := wf3 n (List.mem_of_getElem? hn)
        have hnl := (vt_num hnb).1
        have hal := addN_len (ns.take i) x fun m hm => wf3 m (List.mem_of_mem_take hm)
        have htl : (ns.take i).length ≤ 100 := by rw [List.length_take]; omega
        have e : ns.take (i + 1) = ns.take i ++ [n] := by rw [List.take_succ, hn] <;> rfl
        refine ⟨_, rfl, _, _, rfl, rfl, sl (by have : (" " : Str).length = 1 := rfl; omega), _, rfl, .inl ⟨n, rfl, log_small hnb.1 hnb.2, _, _, rfl, rfl, sl ?_, ?_⟩⟩
        · rw [lapp]
          have h1 : (" " : Str).length = 1 := rfl
          have h2 : (Str.ofString (toString n)).length ≤ 7 := hnl
          omega
        · refine ⟨some (.int n), ?_, rfl⟩
          rw [e, addN_snoc]
          rfl
      · obtain ⟨c2, rfl, rfl⟩ := p
        rw [List.length_map, List.take_of_length_le (Nat.le_refl _)]
        exact ⟨_, rfl, q _ e2⟩
    | cb x ra rb =>
      obtain ⟨a, xs, rfl, hS, hA⟩ := dp_tup dv
      obtain ⟨v1, r1, rfl, d1, hA⟩ := da_cons hA
      obtain ⟨v2, r2, rfl, d2, hA⟩ := da_cons hA
      obtain ⟨v3, r3, rfl, d3, hA⟩ := da_cons hA
      obtain rfl := da_nil hA
      obtain rfl := dp_str d1
      obtain ⟨wf1, wf2, wf3⟩ := wf
      have hp : ∀ w ∈ cbW, w ≠ ("oust" : Str) ∧ w.length ≤ 7 := by decide +kernel
      obtain ⟨p1, p2⟩ := hp x wf1
      have hsz : (Rl.cb x ra rb).size = 1 + ra.size + rb.size := rfl
      rw [hsz] at hz
      have la := hsz20 wf2 (by omega)
      have lb := hsz20 wf3 (by omega)
      have l1 : (" " : Str).length = 1 := rfl
      refine ⟨_, rfl, _, _, _, _, rfl, rfl, hS, rfl, rfl, _, rfl, iteB0 (decide_eq_false fun z => p1 (V.str.inj z)) ?_⟩
      refine ⟨_, rfl, _, _, _, _, rfl, rfl, hS, rfl, by decide, fun t ht => ⟨_, _, rfl, .inr (SqT.of upd_same), rfl, rfl, _, rfl, ?_⟩⟩
      have ein := inV_str x ["all", "any"]
      show (if inV (.str x) ((["all", "any"] : List Str).map V.str) = true then _ else _)
      rw [ein]
      refine iteB (decide_eq_true wf1) ?_
      have e2 := Ex.new (o := .tup [.str "all", .str "any"]) ht
      have hS2 := ex_t e2 hS
      refine ⟨_, rfl, _, _, _, _, rfl, rfl, hS2, rfl, _, _, rfl, rfl, sl (by omega), ?_⟩
      refine ⟨_, rfl, _, _, _, _, rfl, rfl, hS2, rfl, _, ra, nf, rfl, Dp.ex e2 d2, wf2, hn, by omega, by omega, fun H3 e3 => ?_⟩
      refine ⟨_, _, rfl, rfl, sl (by rw [lapp]; omega), _, _, rfl, rfl, sl (by rw [lapp, lapp]; omega), ?_⟩
      refine ⟨_, rfl, _, _, _, _, rfl, rfl, ex_t e3 hS2, rfl, _, rb, nf, rfl, Dp.ex (e2.trans e3) d3, wf3, hn, by omega, by omega, fun H4 e4 => ?_⟩
      exact ⟨_, _, rfl, rfl, sl (by rw [lapp, lapp, lapp]; omega), q _ ((e2.trans e3).trans e4)⟩
    | ou ra fee =>
      obtain ⟨a, xs, rfl, hS, hA⟩ := dp_tup dv
      obtain ⟨v1, r1, rfl, d1, hA⟩ := da_cons hA
      obtain ⟨v2, r2, rfl, d2, hA⟩ := da_cons hA
      obtain ⟨v3, r3, rfl, d3, hA⟩ := da_cons hA
      obtain rfl := da_nil hA
      obtain rfl := dp_str d1
      obtain rfl := dp_int d3
      have hsz : (Rl.ou ra fee).size = 1 + ra.size := rfl
      rw [hsz] at hz
      have la := hsz20 wf.1 (by omega)
      have l1 : (" " : Str).length = 1 := rfl
      have l5 : ("oust " : Str).length = 5 := rfl
      have lf : (Str.ofString (toString fee)).length ≤ 7 := (vt_num wf.2).1
      refine ⟨_, rfl, _, _, _, _, rfl, rfl, hS, rfl, rfl, _, rfl, iteB (by decide +kernel) ?_⟩
      refine ⟨_, rfl, _, _, _, _, rfl, rfl, hS, rfl, .inl ⟨fee, rfl, log_small wf.2.1 wf.2.2, _, _, rfl, rfl, sl (by omega), _, _, rfl, rfl, sl (by rw [lapp]; omega), ?_⟩⟩
      refine ⟨_, rfl, _, _, _, _, rfl, rfl, hS, rfl, _, ra, nf, rfl, d2, wf.1, hn, by omega, by omega, fun H3 e3 => ?_⟩
      exact ⟨_, _, rfl, rfl, sl (by rw [lapp, lapp]; omega), q _ e3⟩
end
end K95

set_option Elab.async false
set_option linter.all false
set_option maxRecDepth 100000
set_option maxHeartbeats 4000000
namespace K95
open PySem PySem.Spec PyProof.Rows L2
open Evl (Ex ex_l ex_t fresh_back)
open TL (tl)
def rCatP (K : PySem.W.Frag) : R2 := fun x y H Q => ∃ a b xs ys, x = .ref a ∧ y = .ref b ∧ SqT K H a xs ∧ SqT K H b ys ∧ xs.length + ys.length ≤ sizeLine ∧ ∀ H' p, Ex H H' → SqT K H' p (xs ++ ys) → Q (.ref p) H'
theorem op_catP {X : Cx} : OpR X (binaryOp .Add) (rCatP X.K) := by
  intro pins s σ H x y v u Q I rx ry h
  obtain ⟨a, b, xs, ys, rfl, rfl, ha, hb, hz, q⟩ := h
  refine op_catA pins s σ H _ _ v u Q I rx ry ⟨a, b, xs, ys, rfl, rfl, ha, hb, hz, fun h0 => q H b (Ex.refl _) ?_, fun _ h0 => q H a (Ex.refl _) ?_, fun _ _ p hp => q _ p (Ex.new hp) (SqT.of upd_same)⟩
  · rw [h0, List.nil_append]
    exact hb
  · rw [h0, List.append_nil]
    exact ha
def wrongD : Option (List Int) → PyData
  | none => .none
  | some p => .tuple (dIs p)
def spWrong (K : PySem.W.Frag) : Sp := fun vs H Q _ => ∃ (hv v : V) (s : Int) (fs : List Int) (r : Rl), vs = [hv, v] ∧ Dp K H hv (hallD s fs) ∧ fs.length ≤ 100 ∧ Dp K H v r.d ∧ r.Wf fs.length ∧ r.size ≤ 7 ∧ ∀ H' u, Ex H H' → Dp K H' u (wrongD (bad s r)) → Q u H'
def pAbove (s : Int) : V → Bool
  | .int n => decide (s < n)
  | _ => false
theorem filter_above (s : Int) (ns : List Int) : (ns.map V.int).filter (pAbove s) = (ns.filter fun n => decide (s < n)).map V.int := by
  rw [List.filter_map] <;> rfl
theorem above_lim {s : Int} {ns : List Int} (h : ∀ n ∈ ns, 0 ≤ n ∧ n < 10000000) : (dIs (ns.filter fun n => decide (s < n))).isEmpty = limOk s ns := by
  rw [List.isEmpty_map]
  unfold limOk
  induction ns with
  | nil => rfl
  | cons n ns ih =>
    have ih := ih fun m hm => h m (List.mem_cons_of_mem _ hm)
    have hn := h n List.mem_cons_self
    rw [List.filter_cons, List.all_cons, decide_eq_true hn.1, Bool.true_and]
    by_cases hs : s < n
    · rw [if_pos (decide_eq_true hs), decide_eq_false (by omega : ¬ n ≤ s)]
      rfl
    · rw [if_neg (by rw [decide_eq_false hs]; decide), decide_eq_true (by omega : n ≤ s), Bool.true_and]
      exact ih
section
variable {w : World} {K : PySem.W.Frag} {mg : Str → Option Value} {base : Heap}
abbrev nLaw_rule_wrong : List Str := ["_law_hall_so", "_law_some", "_law_waiting", "_law_here", "_law_path", "_law_one"]
theorem scLaw_rule_wrong : FnScope nLaw_rule_wrong ["_law_hall_so", "_law_some"] (defScope (top 59)) := ⟨rfl, rfl, rfl, by decide +kernel, rfl, by decide +kernel, by decide +kernel⟩
theorem ok_law_rule_wrong (T : Txt K mg) : FnOk PR w K mg base CX0 1 (ga K "_law_rule_wrong") (fdOf K "_law_rule_wrong") ["_law_hall_so", "_law_some"] (spWrong K) := by
  refine T.d_law_rule_wrong.F.ok scLaw_rule_wrong (fun vs H Q E h => ?_) (fun cdv A outer s H vs Q E hr h => ?_)
  · obtain ⟨hv, v, s, fs, r, rfl, _⟩ := h
    rfl
  refine ⟨_, (pss_cons (ps_set (i := 2) scLaw_rule_wrong.nd rfl (Or.inl rfl) (pe_lst (pa_cons (pe_tup (pa_cons (pv 1) (pa_cons (pe_tup pa_nil) pa_nil))) pa_nil)))
    (pss_cons (ps_while (passes_of rfl) (pt_cmpR (op_neD hr.units) (pv 2) (pe_lst pa_nil) (nomark _))
      (pss_cons (ps_asg (pe_bm0 PySem.F.plainAttrs_list PySem.F.slot_list_pop PySem.F.type_list_pop mt_pop (pv 2)) (pg_tup rfl (pgs_cons (pg_name (i := 3) scLaw_rule_wrong.nd rfl (Or.inl rfl)) (pgs_cons (pg_name (i := 4) scLaw_rule_wrong.nd rfl (Or.inl rfl)) pgs_nil))))
      (pss_cons (ps_if (PW.pt (pw_or (pt_cmpR op_gt (pe_callB call_len rfl T.f_len (by decide +kernel) (pa_cons (pv 4) pa_nil)) pe_int (nomark _)) (pw_or1 (PW.pt (pw_and (pt_cmpR op_eq (pe_ix ix_tup (pv 3) pe_int (fun _ _ => rfl)) pe_str (nomark _)) (pw_and1 (PW.pt (pw_or (pt_cmpR (op_neD hr.units) (pv 4) (pe_tup pa_nil) (nomark _)) (pw_or1 (pt_cmpR op_gt (pe_ix ix_tup (pv 3) pe_int (fun _ _ => rfl)) pe_int (nomark _)))))))))))
        (pss_one (ps_ret (pv 4)))
        pss_nil)
      (pss_one (ps_if (pt_cmpR op_in_seq (pe_ix ix_tup (pv 3) pe_int (fun _ _ => rfl)) (pe_tup (pa_cons pe_str (pa_cons pe_str pa_nil))) rfl)
        (pss_one (ps_set (i := 2) scLaw_rule_wrong.nd rfl (Or.inl rfl) (pe_op op_cat (pv 2) (pe_lst (pa_cons (pe_tup (pa_cons (pe_ix ix_tup (pv 3) pe_int (fun _ _ => rfl)) (pa_cons (pe_op op_catP (pv 4) (pe_tup (pa_cons pe_int pa_nil))) pa_nil))) (pa_cons (pe_tup (pa_cons (pe_ix ix_tup (pv 3) pe_int (fun _ _ => rfl)) (pa_cons (pe_op op_catP (pv 4) (pe_tup (pa_cons pe_int pa_nil))) pa_nil))) pa_nil))))))
        (pss_one (ps_if (pt_cmpR op_eq (pe_ix ix_tup (pv 3) pe_int (fun _ _ => rfl)) pe_str (nomark _))
          (pss_one (ps_expr (pe_bm PySem.F.plainAttrs_list PySem.F.slot_list_append PySem.F.type_list_append mt_append (pv 2) (pa_cons (pe_tup (pa_cons (pe_ix ix_tup (pv 3) pe_int (fun _ _ => rfl)) (pa_cons (pe_op op_catP (pv 4) (pe_tup (pa_cons pe_int pa_nil))) pa_nil))) pa_nil))))
          (pss_one (ps_if (pt_cmpR (op_neD hr.units) (pe_lc (own := [("_law_one", 5)]) (g := gName 5) (tt := _) rfl scLaw_rule_wrong.nd (pi_tup (pe_ix ix_tup (pv 3) pe_int (fun _ _ => rfl))) (blkOk_by (N := nLaw_rule_wrong) (sc := defScope (top 59)) (by decide +kernel)) (fun _ _ _ _ _ => pg_name (i := 5) scLaw_rule_wrong.nd rfl (Or.inl rfl)) (fun _ _ _ _ _ => pts_one (pt_cmpR op_gt (pv 5) (pe_ix (r := rIxT K) ix_tup (pv 0) pe_int (fun _ _ => rfl)) (nomark _))) (fun _ _ _ _ _ => (pv 5))) (pe_lst pa_nil) (nomark _))
            (pss_one (ps_ret (pv 4)))
            (pss_one (ps_if (PW.pt (pw_and (pt_cmpR op_eq (pe_ix ix_tup (pv 3) pe_int (fun _ _ => rfl)) pe_str (nomark _)) (pw_and1 (pt_cmpR (op_neD hr.units) (pe_callTy call_list_of rfl T.f_list (by decide +kernel) (pa_cons (pe_ix ix_tup (pv 3) pe_int (fun _ _ => rfl)) pa_nil)) (pe_callB cr_sortedTup rfl T.f_sorted (by decide +kernel) (pa_cons (pe_ix ix_tup (pv 3) pe_int (fun _ _ => rfl)) pa_nil)) (nomark _)))))
              (pss_one (ps_ret (pv 4)))
              pss_nil)))))))))))
    (pss_one (ps_ret pe_non)))), ?_⟩
  obtain ⟨hv, v, sz, fs, r, rfl, dh, hl4, dv, wf, hz, q⟩ := h
  refine ⟨_, rfl, by decide, fun pe hpe => ⟨szc rfl, fun it hit => ⟨szc rfl, fun wa hwa => ?_⟩⟩⟩
  have f1 := Ex.new (o := .tup []) hpe
  have f2 := Ex.new (o := .tup [v, .ref pe]) hit
  have f3 := Ex.new (o := .lst [.ref it]) hwa
  have eA := (f1.trans f2).trans f3
  have hwa0 : H wa = none := fresh_back (f1.trans f2) hwa
  have dItem : Dp K (upd (upd (upd H pe (.tup [])) it (.tup [v, .ref pe])) wa (.lst [.ref it])) (.ref it) (itemD (r, [])) :=
    Dp.ex f3 (tup_new hit (.cons (Dp.ex f1 dv) (.cons (tup_new hpe .nil) .nil)))
  obtain ⟨W, hW⟩ : ∃ W : Nat → L2.St → Hp → Prop, W = fun m σ H' => ∃ (wa : Addr) (xs : List V) (st : List (Rl × List Int)) (c3 c4 c5 : Option V), σ = [some hv, some v, some (.ref wa), c3, c4, c5] ∧ Ex H H' ∧ H wa = none ∧ H' wa = some (.lst xs) ∧ DpAll K H' xs (st.reverse.map itemD) ∧
    sizes st ≤ m ∧ sizes st ≤ 7 ∧ (∀ q ∈ st, q.1.Wf fs.length) ∧ badF sz (m + 1) st = bad sz r := ⟨_, rfl⟩
  refine ⟨W, ⟨7, ?_⟩, ?_⟩
  · rw [hW]
    refine ⟨wa, _, [(r, [])], none, none, none, rfl, eA, hwa0, upd_same, .cons dItem .nil, ?_, ?_, ?_, rfl⟩
    · rw [sizes_cons]; exact hz
    · rw [sizes_cons]; exact hz
    · intro q hq
      rw [List.mem_singleton.mp hq]
      exact wf
  intro m σ H' hw
  rw [hW] at hw
  obtain ⟨wa, xs, st, c3, c4, c5, rfl, e, hwa0, hwl, dX, hm, hk, hw, hb⟩ := hw
  have hsh : SeqAt.shaped (.list (st.reverse.map itemD)) = true := by
    have hI := items_shape (nf := fs.length) st.reverse (fun q hq => hw q (List.mem_reverse.mp hq))
    unfold SeqAt.shaped
    have hs2 : sizes st.reverse = sizes st := by simp [sizes, List.sum_reverse]
    have h2 : PyData.depth (.list (st.reverse.map itemD)) ≤ 64 := by
      simp only [PyData.depth]
      have := hI.2
      omega
    rw [decide_eq_true h2, Bool.and_true]
    simp only [PyData.canLay0]
    exact hI.1
  refine ⟨_, rfl, by decide, fun p hp => ⟨_, _, Dp.ex (Ex.new hp) (.lst (SqL.of hwl) dX), lst_new hp .nil, hsh, by decide +kernel, _, rfl, ?_⟩⟩
  rw [eqv_nil]
  have g1 := Ex.new (o := .lst []) hp
  cases st with
  | nil =>
    have hb2 : none = bad sz r := hb
    rw [← hb2] at q
    exact iteF (q _ _ (e.trans g1) .non)
  | cons it1 st =>
  obtain ⟨r1, p1⟩ := it1
  have hne : (((r1, p1) :: st).reverse.map itemD).isEmpty = false := by simp
  refine iteNB0 hne ⟨W (m - 1), fun σ' H' h => ⟨m - 1, ?_, h⟩, ?_⟩
  · have h1 := Rl.size_pos r1
    rw [sizes_cons] at hm
    have hm' : r1.size + sizes st ≤ m := hm
    omega
  have eH := e.trans g1
  rw [List.reverse_cons, List.map_append] at dX
  obtain ⟨ys, y, rfl, dY, dI⟩ := da_snoc (d := itemD (r1, p1)) (DpAll.ex g1 dX)
  obtain ⟨ai, is, rfl, hI, dI⟩ := dp_tup dI
  obtain ⟨v1, i2, rfl, dv1, dI⟩ := da_cons dI
  obtain ⟨v2, i3, rfl, dp1, dI⟩ := da_cons dI
  obtain rfl := da_nil dI
  obtain ⟨pa, rfl, hP⟩ := dp_ints dp1
  refine ⟨_, rfl, .inl ⟨rfl, _, SqL.of (g1 _ _ hwl)⟩, _, _, .ref ai, rfl, rfl, g1 _ _ hwl, by simp, ?_⟩
  have hwl1 := g1 _ _ hwl
  rw [show (ys ++ [V.ref ai]).dropLast = ys by simp]
  have tx : Tx (upd H' p (.lst [])) (upd (upd H' p (.lst [])) wa (.lst ys)) := Tx.upd (.inr (.inl ⟨_, hwl1⟩))
  have hI2 := tx.sq hI
  have hP2 := tx.sq hP
  have dv2 := Dp.tx tx (Rl.noL r1) dv1
  have dY2 := DpAll.tx tx (items_noL _) dY
  have e2 : Ex H (upd (upd H' p (.lst [])) wa (.lst ys)) := Ex.mut eH hwa0
  have hwl2 : upd (upd H' p (.lst [])) wa (.lst ys) wa = some (.lst ys) := upd_same
  generalize upd (upd H' p (.lst [])) wa (.lst ys) = H2 at *
  refine ⟨_, _, rfl, hI2, rfl, _, _, rfl, _, _, rfl, rfl, ?_⟩
  have hsz : sizes ((r1, p1) :: st) = r1.size + sizes st := sizes_cons _ _
  have hpos := Rl.size_pos r1
  rw [hsz] at hm hk
  have hyl : ys.length = st.length := by
    have := da_len dY2
    rw [this, List.length_map, List.length_reverse]
  have hst : st.length ≤ sizes st := by
    have : ∀ l : List (Rl × List Int), l.length ≤ sizes l := by
      intro l
      induction l with
      | nil => exact Nat.le_refl _
      | cons q l ih =>
        have := Rl.size_pos q.1
        rw [sizes_cons, List.length_cons]
        omega
    exact this st
  have hstw : ∀ q ∈ st, q.1.Wf fs.length := fun q hq => hw q (List.mem_cons_of_mem _ hq)
  have hw1 : r1.Wf fs.length := hw (r1, p1) List.mem_cons_self
  have fin : p1.length > 3 ∨ r1.word sz (decide (p1 = [])) = false → ∀ H3, Ex H2 H3 → Q (.ref pa) H3 := fun hc H3 e3 => by
    have hb2 : badF sz (m + 1) ((r1, p1) :: st) = some p1 := by
      show (if p1.length > 3 ∨ r1.word sz (decide (p1 = [])) = false then some p1 else _) = some p1
      rw [if_pos hc]
    rw [hb2] at hb
    rw [← hb] at q
    exact q _ _ (e2.trans e3) (Dp.ex e3 (ints_dp hP2))
  have go : ¬ p1.length > 3 → ¬ r1.word sz (decide (p1 = [])) = false → badF sz m (r1.kids p1 ++ st) = bad sz r := fun h1 h2 => by
    have h3 : badF sz (m + 1) ((r1, p1) :: st) = badF sz m (r1.kids p1 ++ st) := by
      show (if p1.length > 3 ∨ r1.word sz (decide (p1 = [])) = false then some p1 else badF sz m (r1.kids p1 ++ st)) = _
      rw [if_neg (fun z => z.elim h1 h2)]
    rw [← h3]
    exact hb
  refine ⟨_, rfl, _, _, rfl, .inr ⟨_, hP2, rfl⟩, _, _, rfl, rfl, _, rfl, ?_⟩
  by_cases hc1 : p1.length > 3
  · exact iteB (decide_eq_true (show (3 : Int) < ((p1.map V.int).length : Int) by rw [List.length_map]; omega)) (iteT ⟨_, rfl, fin (.inl hc1) _ (Ex.refl _)⟩)
  refine iteB0 (decide_eq_false (show ¬ (3 : Int) < ((p1.map V.int).length : Int) by rw [List.length_map]; omega)) ?_
  have hp1sh : SeqAt.shaped (.tuple (dIs p1)) = true := by
    unfold SeqAt.shaped
    simp only [PyData.canLay0, canLay_ints, PyData.depth, depth_ints, Bool.true_and]
    exact decide_eq_true (by omega)
  obtain ⟨ds, er⟩ : ∃ ds, r1.d = .tuple ds := by cases r1 <;> exact ⟨_, rfl⟩
  obtain ⟨a, zs, rfl, hS, hA⟩ := dp_tup (er ▸ dv2)
  obtain ⟨x, d2, er2⟩ : ∃ x d2, ds = .str x :: d2 := by cases r1 <;> (cases er; exact ⟨_, _, rfl⟩)
  obtain ⟨u1, zr, rfl, d1, hA⟩ := da_cons (er2 ▸ hA)
  obtain rfl := dp_str d1
  refine ⟨_, rfl, _, _, _, _, rfl, rfl, hS, atI_nat (j := 0) rfl, rfl, _, rfl, ?_⟩
  cases r1 with
  | ou ra fee =>
    cases er
    cases er2
    obtain ⟨z2, zr, rfl, dz2, hA⟩ := da_cons hA
    obtain ⟨z3, zr, rfl, dz3, hA⟩ := da_cons hA
    obtain rfl := da_nil hA
    obtain rfl := dp_int dz3
    refine iteB (by decide +kernel) ?_
    refine ⟨_, rfl, by decide, fun p3 hp3 => ⟨_, _, Dp.ex (Ex.new hp3) (ints_dp hP2), tup_new hp3 .nil, hp1sh, by decide +kernel, _, rfl, ?_⟩⟩
    rw [eqv_path]
    have e3 := Ex.new (o := .tup []) hp3
    by_cases hp0 : p1 = []
    rotate_left
    · refine iteNB0 (decide_eq_false hp0) (iteT ⟨_, rfl, fin (.inr ?_) _ e3⟩)
      show (decide (p1 = []) && _) = false
      rw [decide_eq_false hp0] <;> rfl
    refine iteNB (decide_eq_true hp0) ?_
    refine ⟨_, rfl, _, _, _, _, rfl, rfl, ex_t e3 hS, rfl, _, _, rfl, rfl, _, rfl, ?_⟩
    by_cases hf : 99 < fee
    · refine iteB (decide_eq_true hf) ⟨_, rfl, fin (.inr ?_) _ e3⟩
      show (decide (p1 = []) && (decide (0 ≤ fee) && decide (fee ≤ 99))) = false
      rw [decide_eq_false (by omega : ¬ fee ≤ 99), Bool.and_false, Bool.and_false]
    refine iteB0 (decide_eq_false hf) ?_
    refine ⟨_, rfl, _, _, _, _, rfl, rfl, (ex_t e3 hS), atI_nat (j := 0) rfl, by decide, fun t ht => ⟨_, _, rfl, .inr (SqT.of upd_same), rfl, rfl, _, rfl, ?_⟩⟩
    have et := Ex.new (o := .tup [.str "all", .str "any"]) ht
    have ein := inV_str "oust" ["all", "any"]
    show (if inV (.str "oust") ((["all", "any"] : List Str).map V.str) = true then _ else _)
    rw [ein]
    refine iteB0 (by decide +kernel) ?_
    have e4 := e3.trans et
    have hg := go hc1 (by
      show ¬ (decide (p1 = []) && (decide (0 ≤ fee) && decide (fee ≤ 99))) = false
      rw [decide_eq_true hp0, decide_eq_true hw1.2.1, decide_eq_true (by omega : fee ≤ 99)]
      decide)
    refine ⟨_, rfl, _, _, _, _, rfl, rfl, ex_t e4 hS, atI_nat (j := 0) rfl, rfl, _, rfl, iteB (by decide +kernel) ?_⟩
    refine ⟨_, rfl, .inl ⟨rfl, _, SqL.of (e4 _ _ hwl2)⟩, _, rfl, _, _, _, _, rfl, rfl, ex_t e4 hS, rfl, _, rfl, szc rfl, fun t1 ht1 => ?_⟩
    have e5 := Ex.new (o := .tup [.int 1]) ht1
    refine ⟨_, _, _, _, rfl, rfl, ex_t (e4.trans e5) hP2, SqT.of upd_same, Nat.le_trans (show (p1.map V.int).length + 1 ≤ 100 by rw [List.length_map]; omega) (by decide), fun H6 p6 e6 hp6 => ⟨szc rfl, fun t2 ht2 => ?_⟩⟩
    have e7 := Ex.new (o := .tup [z2, .ref p6]) ht2
    have e27 := ((e4.trans e5).trans e6).trans e7
    have hwl7 := e27 _ _ hwl2
    refine ⟨_, _, _, rfl, rfl, hwl7, Nat.lt_of_lt_of_le (show ys.length < 100 by omega) (by decide), ?_⟩
    have ty : Tx (upd H6 t2 (.tup [z2, .ref p6])) (upd (upd H6 t2 (.tup [z2, .ref p6])) wa (.lst (ys ++ [.ref t2]))) := Tx.upd (.inr (.inl ⟨_, hwl7⟩))
    have dn : Dp K (upd H6 t2 (.tup [z2, .ref p6])) (.ref t2) (itemD (ra, p1 ++ [1])) := tup_new ht2 (.cons (Dp.ex ((e4.trans e5).trans e6) dz2) (.cons (ints_dp (by rw [List.map_append]; exact hp6)) .nil))
    show W (m - 1) _ _
    rw [hW]
    have hk1 := sizes_kids (.ou ra fee) p1
    refine ⟨wa, ys ++ [.ref t2], (Rl.ou ra fee).kids p1 ++ st, _, _, _, rfl, Ex.mut (e2.trans e27) hwa0, hwa0, upd_same, ?_, ?_, ?_, ?_, ?_⟩
    · rw [List.reverse_append, List.map_append]
      exact da_app (DpAll.tx ty (items_noL _) (DpAll.ex e27 dY2)) (.cons (Dp.tx ty (by have := Rl.noL ra; have h2 := noLs_ints (p1 ++ [1]); simp only [itemD, noL, noLs, this, h2, Bool.and_self]) dn) .nil)
    · rw [sizes_app]; omega
    · rw [sizes_app]; omega
    · intro q hq
      rcases List.mem_append.mp hq with hq | hq
      · rw [List.mem_singleton.mp hq]
        exact hw1.1
      · exact hstw q hq
    · rw [show m - 1 + 1 = m by omega]
      exact hg
  | cb x ra rb =>
    cases er
    cases er2
    obtain ⟨z2, zr, rfl, dz2, hA⟩ := da_cons hA
    obtain ⟨z3, zr, rfl, dz3, hA⟩ := da_cons hA
    obtain rfl := da_nil hA
    have hp : ∀ w ∈ cbW, w ≠ ("oust" : Str) := by decide +kernel
    refine iteB0 (decide_eq_false fun z => hp x hw1.1 (V.str.inj z)) ?_
    refine ⟨_, rfl, _, _, _, _, rfl, rfl, hS, atI_nat (j := 0) rfl, by decide, fun t ht => ⟨_, _, rfl, .inr (SqT.of upd_same), rfl, rfl, _, rfl, ?_⟩⟩
    have et := Ex.new (o := .tup [.str "all", .str "any"]) ht
    have ein := inV_str x ["all", "any"]
    show (if inV (.str x) ((["all", "any"] : List Str).map V.str) = true then _ else _)
    rw [ein]
    refine iteB (decide_eq_true hw1.1) ?_
    have hg := go hc1 (by show ¬ true = false; decide)
    refine ⟨_, rfl, _, rfl, _, _, _, _, rfl, rfl, ex_t et hS, rfl, _, rfl, szc rfl, fun t1 ht1 => ?_⟩
    have e5 := Ex.new (o := .tup [.int 2]) ht1
    refine ⟨_, _, _, _, rfl, rfl, ex_t (et.trans e5) hP2, SqT.of upd_same, Nat.le_trans (show (p1.map V.int).length + 1 ≤ 100 by rw [List.length_map]; omega) (by decide), fun H6 p6 e6 hp6 => ⟨szc rfl, fun t2 ht2 => ?_⟩⟩
    have e7 := Ex.new (o := .tup [z3, .ref p6]) ht2
    have dn2 : Dp K (upd H6 t2 (.tup [z3, .ref p6])) (.ref t2) (itemD (rb, p1 ++ [2])) := tup_new ht2 (.cons (Dp.ex ((et.trans e5).trans e6) dz3) (.cons (ints_dp (by rw [List.map_append]; exact hp6)) .nil))
    have e27 := ((et.trans e5).trans e6).trans e7
    generalize upd H6 t2 (.tup [z3, .ref p6]) = H7 at *
    refine ⟨_, rfl, _, _, _, _, rfl, rfl, ex_t e27 hS, rfl, _, rfl, szc rfl, fun t3 ht3 => ?_⟩
    have e8 := Ex.new (o := .tup [.int 1]) ht3
    refine ⟨_, _, _, _, rfl, rfl, ex_t (e27.trans e8) hP2, SqT.of upd_same, Nat.le_trans (show (p1.map V.int).length + 1 ≤ 100 by rw [List.length_map]; omega) (by decide), fun H9 p9 e9 hp9 => ⟨szc rfl, fun t4 ht4 => ?_⟩⟩
    have e10 := Ex.new (o := .tup [z2, .ref p9]) ht4
    have dn1 : Dp K (upd H9 t4 (.tup [z2, .ref p9])) (.ref t4) (itemD (ra, p1 ++ [1])) := tup_new ht4 (.cons (Dp.ex ((e27.trans e8).trans e9) dz2) (.cons (ints_dp (by rw [List.map_append]; exact hp9)) .nil))
    have dn2' := Dp.ex ((e8.trans e9).trans e10) dn2
    have e210 := ((e27.trans e8).trans e9).trans e10
    generalize upd H9 t4 (.tup [z2, .ref p9]) = H10 at *
    refine ⟨szc rfl, fun t5 ht5 => ?_⟩
    have e11 := Ex.new (o := .lst [.ref t2, .ref t4]) ht5
    refine ⟨_, _, _, _, rfl, rfl, e11 _ _ (e210 _ _ hwl2), upd_same, Nat.le_trans (show ys.length + 2 ≤ 100 by omega) (by decide), fun t6 ht6 => ?_⟩
    have e12 := Ex.new (o := .lst (ys ++ [.ref t2, .ref t4])) ht6
    have eF := (e210.trans e11).trans e12
    show W (m - 1) _ _
    rw [hW]
    have hk1 := sizes_kids (.cb x ra rb) p1
    refine ⟨t6, ys ++ [.ref t2, .ref t4], (Rl.cb x ra rb).kids p1 ++ st, _, _, _, rfl, e2.trans eF, fresh_back ((e2.trans e210).trans e11) ht6, upd_same, ?_, ?_, ?_, ?_, ?_⟩
    · rw [List.reverse_append, List.map_append]
      exact da_app (DpAll.ex eF dY2) (.cons (Dp.ex (e11.trans e12) dn2') (.cons (Dp.ex (e11.trans e12) dn1) .nil))
    · rw [sizes_app]; omega
    · rw [sizes_app]; omega
    · intro q hq
      rcases List.mem_append.mp hq with hq | hq
      · rcases List.mem_cons.mp hq with rfl | hq
        · exact hw1.2.1
        · rw [List.mem_singleton.mp hq]
          exact hw1.2.2
      · exact hstw q hq
    · rw [show m - 1 + 1 = m by omega]
      exact hg
  | pl x ns =>
    cases er
    cases er2
    obtain ⟨z2, zr, rfl, dz2, hA⟩ := da_cons hA
    obtain rfl := da_nil hA
    obtain ⟨b, rfl, hN⟩ := dp_ints dz2
    have hp : ∀ w ∈ plW, w ≠ ("oust" : Str) ∧ w ∉ cbW := by decide +kernel
    obtain ⟨h1, h2, h3⟩ := hw1
    obtain ⟨n1, n2⟩ := hp x h1
    refine iteB0 (decide_eq_false fun z => n1 (V.str.inj z)) ?_
    refine ⟨_, rfl, _, _, _, _, rfl, rfl, hS, atI_nat (j := 0) rfl, by decide, fun t ht => ⟨_, _, rfl, .inr (SqT.of upd_same), rfl, rfl, _, rfl, ?_⟩⟩
    have et := Ex.new (o := .tup [.str "all", .str "any"]) ht
    have ein := inV_str x ["all", "any"]
    show (if inV (.str x) ((["all", "any"] : List Str).map V.str) = true then _ else _)
    rw [ein]
    refine iteB0 (decide_eq_false n2) ?_
    have hS3 := ex_t et hS
    have hN3 := ex_t et hN
    refine ⟨_, rfl, _, _, _, _, rfl, rfl, hS3, atI_nat (j := 0) rfl, rfl, _, rfl, iteB0 (decide_eq_false fun z => n1 (V.str.inj z)) ?_⟩
    obtain ⟨ha, hb', rfl, hH, hF⟩ := hall_in (Dp.ex (e2.trans et) dh)
    refine ⟨_, rfl, _, _, _, _, rfl, rfl, hS3, rfl, _, rfl, ⟨_, hN3⟩, fun D hD => lc_sel walk_tup (ns.map V.int) (pAbove sz) rfl (by rw [List.length_map]; omega) hD (fun H' e => ex_t e hN3) (fun i y H4 H5 z kT kF hy e hY hT hF' => ?_) (fun H4 e4 hD4 => ?_)⟩
    · obtain ⟨rfl, hx⟩ := hY
      rw [hy] at hx
      obtain rfl := Option.some.inj hx
      obtain ⟨n, hn, rfl⟩ := get_int hy
      refine ⟨rfl, _, rfl, _, rfl, _, _, _, _, rfl, rfl, ex_t e hH, rfl, _, _, rfl, rfl, _, rfl, ?_⟩
      exact ite2B (fun h => ⟨_, rfl, hT h _ (Ex.refl _)⟩) (fun h => hF' h _ (Ex.refl _))
    rw [filter_above] at hD4
    refine ⟨by decide, fun p5 hp5 => ⟨_, _, .lst (SqL.of (Ex.new hp5 _ _ hD4)) (da_ints _), lst_new hp5 .nil, shaped_ints _, by decide +kernel, _, rfl, ?_⟩⟩
    rw [eqv_nil, above_lim h3]
    have e5 := Ex.new (o := .lst []) hp5
    have e25 := (et.trans e4).trans e5
    have hwd : (Rl.pl x ns).word sz (decide (p1 = [])) = (limOk sz ns && (!decide (x = "nested") || leI ns)) := rfl
    by_cases hlim : limOk sz ns = false
    · refine iteNB0 hlim ⟨_, rfl, fin (.inr ?_) _ e25⟩
      rw [hwd, hlim] <;> rfl
    have hlim : limOk sz ns = true := by simpa using hlim
    refine iteNB hlim ?_
    rw [hlim, Bool.true_and] at hwd
    have next : ∀ H6, Ex H2 H6 → (Rl.pl x ns).word sz (decide (p1 = [])) = true → W (m - 1) [some (.ref ha), some v, some (.ref wa), some (.ref a), some (.ref pa), c5] H6 := fun H6 e6 hwd => by
      rw [hW]
      have hk1 := sizes_kids (.pl x ns) p1
      have hss : (Rl.pl x ns).size = 1 := rfl
      have hg := go hc1 (by rw [hwd]; decide)
      exact ⟨wa, ys, st, _, _, _, rfl, e2.trans e6, hwa0, e6 _ _ hwl2, DpAll.ex e6 dY2, by omega, by omega, hstw, by rw [show m - 1 + 1 = m by omega]; exact hg⟩
    refine ⟨_, rfl, _, _, _, _, rfl, rfl, ex_t e25 hS, atI_nat (j := 0) rfl, rfl, _, rfl, ?_⟩
    by_cases hxn : x = "nested"
    rotate_left
    · refine iteB0 (decide_eq_false fun z => hxn (V.str.inj z)) (iteF (next _ e25 ?_))
      rw [hwd, decide_eq_false hxn] <;> rfl
    refine iteB (decide_eq_true (congrArg V.str hxn)) ?_
    rw [decide_eq_true hxn] at hwd
    refine ⟨_, rfl, _, _, _, _, rfl, rfl, ex_t e25 hS, rfl, _, _, rfl, .inr (ex_t e25 hN), fun t6 ht6 => ?_⟩
    have e6 := Ex.new (o := .lst (ns.map V.int)) ht6
    refine ⟨_, rfl, _, _, _, _, rfl, rfl, ex_t (e25.trans e6) hS, rfl, _, ns, rfl, ex_t (e25.trans e6) hN, fun ns' t7 hperm hpw ht7 => ?_⟩
    have e7 := Ex.new (o := .lst (ns'.map V.int)) ht7
    refine ⟨_, _, .lst (SqL.of (e7 _ _ upd_same)) (da_ints ns), .lst (SqL.of upd_same) (da_ints ns'), shaped_ints _, shaped_ints _, _, rfl, ?_⟩
    rw [sorted_ne hperm hpw]
    have e27 := (e25.trans e6).trans e7
    refine ite2B (fun h => ⟨_, rfl, fin (.inr ?_) _ e27⟩) (fun h => next _ e27 ?_)
    · have h' : leI ns = false := by simpa using h
      rw [hwd, h'] <;> rfl
    · have h' : leI ns = true := by simpa using h
      rw [hwd, h'] <;> rfl
end
end K95

set_option Elab.async false
set_option linter.all false
set_option maxRecDepth 100000
set_option maxHeartbeats 4000000
namespace K95
open PySem PySem.Spec PyProof.Rows L2
open Evl (Ex ex_l ex_t fresh_back)
open TL (tl)
def AtL (K : PySem.W.Frag) (H : Hp) (v : V) : Except Nat (Rl × Nat × Nat) → Prop
  | .error e => ∃ m : Int, Dp K H v (.tuple [.none, .int e, .int m])
  | .ok (r, k1, m1) => Dp K H v (.tuple [r.d, .int k1, .int m1])
def spRuleAtL (K : PySem.W.Frag) (f : Nat) : Sp := fun vs H Q _ => ∃ (p : Addr) (ws : List Str) (k nf m : Nat), vs = [.ref p, .int k, .int nf, .int m] ∧ SqL K H p (ws.map V.str) ∧ k ≤ ws.length ∧ ws.length ≤ 1000000 ∧ (∀ w ∈ ws, w.length ≤ 1000000 ∧ Sg w) ∧
  nf ≤ 100 ∧ m ≤ 7 ∧ 8 ≤ m + f ∧ f ≤ 20 ∧ ∀ H' v, Ex H H' → AtL K H' v (parse f ws k nf m) → Q v H'
theorem dp_ne_none {K : PySem.W.Frag} {H : Hp} {v : V} {r : Rl} (h : Dp K H v r.d) : decide (v = .non) = false := by
  cases r <;> (obtain ⟨a, xs, rfl, _⟩ := dp_tup h; exact decide_eq_false (fun z => by cases z))
theorem dp_none {K : PySem.W.Frag} {H : Hp} {v : V} (h : Dp K H v .none) : v = .non := by cases h; rfl
section
variable {w : World} {K : PySem.W.Frag} {mg : Str → Option Value} {base : Heap}
abbrev nLaw_rule_at : List Str := ["_law_words", "_law_k", "_law_fares_here", "_law_many", "_law_names", "_law_one", "_law_spot", "_law_other", "_law_size", "_law_numbers"]
theorem scLaw_rule_at : FnScope nLaw_rule_at ["_law_words", "_law_k", "_law_fares_here", "_law_many"] (defScope (top 60)) := ⟨rfl, rfl, rfl, by decide +kernel, rfl, by decide +kernel, by decide +kernel⟩
theorem ok_law_rule_at (T : Txt K mg) : ∀ f, FnOk PR w K mg base CX0 (f + 4) (ga K "_law_rule_at") (fdOf K "_law_rule_at") ["_law_words", "_law_k", "_law_fares_here", "_law_many"] (spRuleAtL K f)
  | 0 => by
    refine T.d_law_rule_at.F.ok scLaw_rule_at (fun vs H Q E h => ?_) (fun cdv A outer s H vs Q E hr h => ?_)
    · obtain ⟨p, ws, k, nf, m, rfl, _⟩ := h
      rfl
    · obtain ⟨p, ws, k, nf, m, rfl, _, _, _, _, _, h1, h2, _⟩ := h
      omega
  | f + 1 => by
    have ih := ok_law_rule_at T f
    refine T.d_law_rule_at.F.ok scLaw_rule_at (fun vs H Q E h => ?_) (fun cdv A outer s H vs Q E hr h => ?_)
    · obtain ⟨p, ws, k, nf, m, rfl, _⟩ := h
      rfl
    have hr1 : Room 1 (A.deeper (envOfC "_law_rule_at" (defScope (top 60)) s.heap.objs.size (He.ga K "_law_rule_at") cdv)) := hr.mono (by omega)
    refine ⟨_, (pss_cons (ps_set (i := 4) scLaw_rule_at.nd rfl (Or.inl rfl) (pe_lst (pa_cons pe_str (pa_cons pe_str (pa_cons pe_str (pa_cons pe_str (pa_cons pe_str (pa_cons pe_str pa_nil))))))))
      (pss_cons (ps_if (PW.pt (pw_or (pt_cmpR op_ge (pv 1) (pe_callB call_len rfl T.f_len (by decide +kernel) (pa_cons (pv 0) pa_nil)) (nomark _)) (pw_or (pt_cmpR op_notIn_seq (pe_ix ix_list (pv 0) (pv 1) (fun _ _ => rfl)) (pv 4) rfl) (pw_or1 (pt_cmpR op_eq (pv 3) pe_int (nomark _))))))
        (pss_one (ps_ret (pe_tup (pa_cons pe_non (pa_cons (pe_callB (call_min2 rfl) rfl T.f_min (by decide +kernel) (pa_cons (pv 1) (pa_cons (pe_callB call_len rfl T.f_len (by decide +kernel) (pa_cons (pv 0) pa_nil)) pa_nil))) (pa_cons (pv 3) pa_nil))))))
        pss_nil)
      (pss_cons (ps_if (pt_cmpR op_in_seq (pe_ix ix_list (pv 0) (pv 1) (fun _ _ => rfl)) (pe_tup (pa_cons pe_str (pa_cons pe_str pa_nil))) rfl)
        (pss_cons (ps_asg (pe_call ih hr rfl T.d_law_rule_at.g T.d_law_rule_at.kp (bd_law_rule_at T) .nil pass0 (pa_cons (pv 0) (pa_cons (pe_op op_add (pv 1) pe_int) (pa_cons (pv 2) (pa_cons (pe_op op_add (pv 3) pe_int) pa_nil))))) (pg_tup rfl (pgs_cons (pg_name (i := 5) scLaw_rule_at.nd rfl (Or.inl rfl)) (pgs_cons (pg_name (i := 6) scLaw_rule_at.nd rfl (Or.inl rfl)) (pgs_cons (pg_name (i := 3) scLaw_rule_at.nd rfl (Or.inl rfl)) pgs_nil)))))
        (pss_cons (ps_if (pt_cmp (pc_isN (pv 5)))
          (pss_one (ps_ret (pe_tup (pa_cons pe_non (pa_cons (pv 6) (pa_cons (pv 3) pa_nil))))))
          pss_nil)
        (pss_cons (ps_asg (pe_call ih hr rfl T.d_law_rule_at.g T.d_law_rule_at.kp (bd_law_rule_at T) .nil pass0 (pa_cons (pv 0) (pa_cons (pv 6) (pa_cons (pv 2) (pa_cons (pv 3) pa_nil))))) (pg_tup rfl (pgs_cons (pg_name (i := 7) scLaw_rule_at.nd rfl (Or.inl rfl)) (pgs_cons (pg_name (i := 6) scLaw_rule_at.nd rfl (Or.inl rfl)) (pgs_cons (pg_name (i := 3) scLaw_rule_at.nd rfl (Or.inl rfl)) pgs_nil)))))
        (pss_one (ps_ret (pe_ifExp (pt_cmp (pc_isN (pv 7))) (pe_tup (pa_cons pe_non (pa_cons (pv 6) (pa_cons (pv 3) pa_nil)))) (pe_tup (pa_cons (pe_tup (pa_cons (pe_ix ix_list (pv 0) (pv 1) (fun _ _ => rfl)) (pa_cons (pv 5) (pa_cons (pv 7) pa_nil)))) (pa_cons (pv 6) (pa_cons (pv 3) pa_nil))))))))))
        pss_nil)
      (pss_cons (ps_set (i := 8) scLaw_rule_at.nd rfl (Or.inl rfl) (pe_ifExp (pt_cmpR op_eq (pe_ix ix_list (pv 0) (pv 1) (fun _ _ => rfl)) pe_str (nomark _)) pe_int (pv 2)))
      (pss_cons (ps_for (passes_of rfl) rfl (pi_range2 rfl T.f_range (pa_cons (pe_op op_add (pv 1) pe_int) (pa_cons (pe_op op_add (pe_op op_add (pv 1) pe_int) (pv 8)) pa_nil))) (pg_name (i := 6) scLaw_rule_at.nd rfl (Or.inl rfl))
        (pss_one (ps_if (PW.pt (pw_or (pt_cmpR op_ge (pv 6) (pe_callB call_len rfl T.f_len (by decide +kernel) (pa_cons (pv 0) pa_nil)) (nomark _)) (pw_or1 (pt_not (pt_val (pe_call (ok_law_is_number T) hr1 rfl T.d_law_is_number.g T.d_law_is_number.kp (bd_law_is_number T) .nil pass0 (pa_cons (pe_ix ix_list (pv 0) (pv 6) (fun _ _ => rfl)) pa_nil)))))))
          (pss_one (ps_ret (pe_tup (pa_cons pe_non (pa_cons (pe_callB (call_min2 rfl) rfl T.f_min (by decide +kernel) (pa_cons (pv 6) (pa_cons (pe_callB call_len rfl T.f_len (by decide +kernel) (pa_cons (pv 0) pa_nil)) pa_nil))) (pa_cons (pv 3) pa_nil))))))
          pss_nil)))
      (pss_cons (ps_set (i := 9) scLaw_rule_at.nd rfl (Or.inl rfl) (pe_callTy call_tuple_of rfl T.f_tuple (by decide +kernel) (pa_cons (pe_lc (own := [("_law_one", 5)]) (g := gName 5) (tt := tYes) rfl scLaw_rule_at.nd (pi_list (pe_slice sl_list (pv 0) (po_some (pe_op op_add (pv 1) pe_int)) (po_some (pe_op op_add (pe_op op_add (pv 1) pe_int) (pv 8))))) (blkOk_by (N := nLaw_rule_at) (sc := defScope (top 60)) (by decide +kernel)) (fun _ _ _ _ _ => pg_name (i := 5) scLaw_rule_at.nd rfl (Or.inl rfl)) (fun _ _ _ _ _ => pts_nil) (fun _ _ _ _ _ => (pe_callTy call_int_str rfl T.f_int (by decide +kernel) (pa_cons (pv 5) pa_nil)))) pa_nil)))
      (pss_cons (ps_if (pt_cmpR op_ne (pe_ix ix_list (pv 0) (pv 1) (fun _ _ => rfl)) pe_str (nomark _))
        (pss_one (ps_ret (pe_tup (pa_cons (pe_tup (pa_cons (pe_ix ix_list (pv 0) (pv 1) (fun _ _ => rfl)) (pa_cons (pv 9) pa_nil))) (pa_cons (pe_op op_add (pe_op op_add (pv 1) pe_int) (pv 8)) (pa_cons (pe_op op_add (pv 3) pe_int) pa_nil))))))
        pss_nil)
      (pss_cons (ps_asg (pe_call ih hr rfl T.d_law_rule_at.g T.d_law_rule_at.kp (bd_law_rule_at T) .nil pass0 (pa_cons (pv 0) (pa_cons (pe_op op_add (pv 1) pe_int) (pa_cons (pv 2) (pa_cons (pe_op op_add (pv 3) pe_int) pa_nil))))) (pg_tup rfl (pgs_cons (pg_name (i := 5) scLaw_rule_at.nd rfl (Or.inl rfl)) (pgs_cons (pg_name (i := 6) scLaw_rule_at.nd rfl (Or.inl rfl)) (pgs_cons (pg_name (i := 3) scLaw_rule_at.nd rfl (Or.inl rfl)) pgs_nil)))))
      (pss_one (ps_ret (pe_ifExp (pt_cmp (pc_isN (pv 5))) (pe_tup (pa_cons pe_non (pa_cons (pv 6) (pa_cons (pv 3) pa_nil)))) (pe_tup (pa_cons (pe_tup (pa_cons pe_str (pa_cons (pv 5) (pa_cons (pe_ix ix_tup (pv 9) pe_int (fun _ _ => rfl)) pa_nil)))) (pa_cons (pv 6) (pa_cons (pv 3) pa_nil))))))))))))))), ?_⟩
    obtain ⟨p, ws, k, nf, m, rfl, hS, hk, hwl, hw7, hnf, hm, hmf, hf, q⟩ := h
    have hlen : (ws.map V.str).length = ws.length := List.length_map _
    refine ⟨szc rfl, fun ln hln => ?_⟩
    have en := Ex.new (o := .lst (wnames.map V.str)) hln
    have hSn := ex_l en hS
    have lN : upd H ln (.lst (wnames.map V.str)) ln = some (.lst (wnames.map V.str)) := upd_same
    show tSeq _ _ _ _ (upd H ln (.lst (wnames.map V.str)))
    generalize upd H ln (.lst (wnames.map V.str)) = Hn at *
    have minE : ∀ j : Nat, (if ((ws.map V.str).length : Int) < (j : Int) then ((ws.map V.str).length : Int) else (j : Int)) = ((min j ws.length : Nat) : Int) := fun j => by
      rw [hlen]
      by_cases hh : (ws.length : Int) < (j : Int)
      · rw [if_pos hh]
        omega
      · rw [if_neg hh]
        omega
    have minK : (if ((ws.map V.str).length : Int) < (k : Int) then ((ws.map V.str).length : Int) else (k : Int)) = (k : Int) := by
      rw [minE, Nat.min_eq_left hk]
    refine ⟨_, rfl, _, rfl, _, _, rfl, .inl ⟨_, hSn, rfl⟩, _, _, rfl, rfl, _, rfl, ?_⟩
    unfold parse at q
    cases hw : ws[k]? with
    | none =>
      rw [hw] at q
      have hkl : ws.length ≤ k := List.getElem?_eq_none_iff.mp hw
      refine iteB (decide_eq_true (by rw [hlen]; omega)) (iteT ⟨_, rfl, _, rfl, _, _, rfl, .inl ⟨_, hSn, rfl⟩, _, _, rfl, _, rfl, szc rfl, fun t ht => ?_⟩)
      rw [minK]
      exact q _ _ (en.trans (Ex.new ht)) ⟨_, tup_new ht (.cons .non (.cons (.int _) (.cons (.int _) .nil)))⟩
    | some w =>
      rw [hw] at q
      dsimp only at q
      have hkl : k < ws.length := (List.getElem?_eq_some_iff.mp hw).1
      refine iteB0 (decide_eq_false (by rw [hlen]; omega)) ?_
      have hat : atI (ws.map V.str) (k : Int) = some (.str w) := atI_nat (by rw [List.getElem?_map, hw] <;> rfl)
      refine ⟨_, rfl, _, rfl, _, _, _, _, rfl, rfl, hSn, hat, _, rfl, _, _, rfl, .inl (SqL.of lN), rfl, rfl, _, rfl, ?_⟩
      have ein := inV_str w wnames
      show (if (!inV (.str w) (wnames.map V.str)) = true then _ else _)
      rw [ein]
      by_cases c1 : w ∈ wnames
      rotate_left
      · rw [if_pos (.inl c1)] at q
        refine iteNB0 (decide_eq_false c1) (iteT ⟨_, rfl, _, rfl, _, _, rfl, .inl ⟨_, hSn, rfl⟩, _, _, rfl, _, rfl, szc rfl, fun t ht => ?_⟩)
        rw [minK]
        exact q _ _ (en.trans (Ex.new ht)) ⟨_, tup_new ht (.cons .non (.cons (.int _) (.cons (.int _) .nil)))⟩
      refine iteNB (decide_eq_true c1) ?_
      refine ⟨_, rfl, rfl, _, rfl, ?_⟩
      by_cases c2 : m = 7
      · rw [if_pos (.inr c2)] at q
        refine iteB (decide_eq_true (by rw [c2] <;> rfl)) ⟨_, rfl, _, rfl, _, _, rfl, .inl ⟨_, hSn, rfl⟩, _, _, rfl, _, rfl, szc rfl, fun t ht => ?_⟩
        rw [minK]
        exact q _ _ (en.trans (Ex.new ht)) ⟨_, tup_new ht (.cons .non (.cons (.int _) (.cons (.int _) .nil)))⟩
      rw [if_neg (fun z => z.elim (fun z => z c1) c2)] at q
      refine iteB0 (decide_eq_false (fun z => by have z2 := V.int.inj z; omega)) ?_
      refine ⟨_, rfl, _, rfl, _, _, _, _, rfl, rfl, hSn, hat, szc rfl, fun p2 hp2 => ⟨_, _, rfl, .inr (SqT.of upd_same), rfl, rfl, _, rfl, ?_⟩⟩
      have ein2 := inV_str w cbW
      show (if inV (.str w) (cbW.map V.str) = true then _ else _)
      rw [ein2]
      have e0 := en.trans (Ex.new (o := .tup [.str "all", .str "any"]) hp2)
      have hS0 := ex_l (Ex.new (o := .tup [.str "all", .str "any"]) hp2) hSn
      generalize hH0 : upd Hn p2 (.tup [.str "all", .str "any"]) = H0 at *
      by_cases c3 : w ∈ cbW
      · rw [if_pos c3] at q
        refine iteB (decide_eq_true c3) ?_
        refine ⟨_, rfl, _, rfl, _, _, rfl, rfl, _, rfl, _, rfl, _, _, rfl, rfl, p, ws, k + 1, nf, m + 1, rfl, hS0, by omega, hwl, hw7, hnf, by omega, by omega, by omega, fun H1 v1 e1 d1 => ?_⟩
        cases ea : parse f ws (k + 1) nf (m + 1) with
        | error e =>
          rw [ea] at q d1
          obtain ⟨mm, d1⟩ := d1
          obtain ⟨t1, ys, rfl, hT, dA⟩ := dp_tup d1
          obtain ⟨y1, r1, rfl, dy1, dA⟩ := da_cons dA
          obtain ⟨y2, r2, rfl, dy2, dA⟩ := da_cons dA
          obtain ⟨y3, r3, rfl, dy3, dA⟩ := da_cons dA
          obtain rfl := da_nil dA
          obtain rfl := dp_int dy2
          obtain rfl := dp_int dy3
          obtain rfl := dp_none dy1
          refine ⟨_, _, rfl, hT, rfl, _, _, rfl, _, _, rfl, _, _, rfl, rfl, ?_⟩
          refine ⟨_, rfl, _, rfl, iteB (by decide) ⟨_, rfl, _, rfl, szc rfl, fun t ht => ?_⟩⟩
          exact q _ _ ((e0.trans e1).trans (Ex.new ht)) ⟨_, tup_new ht (.cons .non (.cons (.int _) (.cons (.int _) .nil)))⟩
        | ok ra =>
          obtain ⟨ra, k1, m1⟩ := ra
          rw [ea] at q d1
          dsimp only at q
          obtain ⟨a1, a2, a3, a4, a5⟩ := parse_ok (by omega) ea
          have rap := ra.size_pos
          have d1 : Dp K H1 v1 (.tuple [ra.d, .int k1, .int m1]) := d1
          obtain ⟨t1, ys, rfl, hT, dA⟩ := dp_tup d1
          obtain ⟨y1, r1, rfl, dy1, dA⟩ := da_cons dA
          obtain ⟨y2, r2, rfl, dy2, dA⟩ := da_cons dA
          obtain ⟨y3, r3, rfl, dy3, dA⟩ := da_cons dA
          obtain rfl := da_nil dA
          obtain rfl := dp_int dy2
          obtain rfl := dp_int dy3
          refine ⟨_, _, rfl, hT, rfl, _, _, rfl, _, _, rfl, _, _, rfl, rfl, ?_⟩
          refine ⟨_, rfl, _, rfl, iteB0 (dp_ne_none dy1) ?_⟩
          refine ⟨_, rfl, _, rfl, _, rfl, _, rfl, p, ws, k1, nf, m1, rfl, ex_l e1 hS0, by omega, hwl, hw7, hnf, by omega, by omega, by omega, fun H2 v2 e2 d2 => ?_⟩
          cases eb : parse f ws k1 nf m1 with
          | error e =>
            rw [eb] at q d2
            obtain ⟨mm, d2⟩ := d2
            obtain ⟨t1, ys, rfl, hT2, dA⟩ := dp_tup d2
            obtain ⟨z1, r1, rfl, dz1, dA⟩ := da_cons dA
            obtain ⟨z2, r2, rfl, dz2, dA⟩ := da_cons dA
            obtain ⟨z3, r3, rfl, dz3, dA⟩ := da_cons dA
            obtain rfl := da_nil dA
            obtain rfl := dp_int dz2
            obtain rfl := dp_int dz3
            obtain rfl := dp_none dz1
            refine ⟨_, _, rfl, hT2, rfl, _, _, rfl, _, _, rfl, _, _, rfl, rfl, ?_⟩
            refine ⟨_, rfl, _, rfl, iteB (by decide) ⟨_, rfl, _, rfl, szc rfl, fun t ht => ?_⟩⟩
            exact q _ _ (((e0.trans e1).trans e2).trans (Ex.new ht)) ⟨_, tup_new ht (.cons .non (.cons (.int _) (.cons (.int _) .nil)))⟩
          | ok rb =>
            obtain ⟨rb, k2, m2⟩ := rb
            rw [eb] at q d2
            dsimp only at q
            have d2 : Dp K H2 v2 (.tuple [rb.d, .int k2, .int m2]) := d2
            obtain ⟨t1, ys, rfl, hT2, dA⟩ := dp_tup d2
            obtain ⟨z1, r1, rfl, dz1, dA⟩ := da_cons dA
            obtain ⟨z2, r2, rfl, dz2, dA⟩ := da_cons dA
            obtain ⟨z3, r3, rfl, dz3, dA⟩ := da_cons dA
            obtain rfl := da_nil dA
            obtain rfl := dp_int dz2
            obtain rfl := dp_int dz3
            refine ⟨_, _, rfl, hT2, rfl, _, _, rfl, _, _, rfl, _, _, rfl, rfl, ?_⟩
            refine ⟨_, rfl, _, rfl, iteB0 (dp_ne_none dz1) ?_⟩
            refine ⟨_, rfl, _, rfl, _, _, _, _, rfl, rfl, ex_l (e1.trans e2) hS0, hat, _, rfl, _, rfl, szc rfl, fun p3 hp3 => ⟨_, rfl, _, rfl, szc rfl, fun p4 hp4 => ?_⟩⟩
            have dw : Dp K (upd H2 p3 (.tup [.str w, y1, z1])) (.ref p3) (Rl.cb w ra rb).d := tup_new hp3 (.cons (.str w) (.cons (Dp.ex e2 dy1) (.cons dz1 .nil)))
            exact q _ _ ((((e0.trans e1).trans e2).trans (Ex.new hp3)).trans (Ex.new hp4)) (tup_new hp4 (.cons dw (.cons (.int _) (.cons (.int _) .nil))))
      rw [if_neg c3] at q
      refine iteB0 (decide_eq_false c3) ?_
      by_cases c4 : w = "oust"
      · rw [if_pos c4, if_neg (fun z => z c4)] at q
        refine ⟨_, rfl, _, rfl, _, _, _, _, rfl, rfl, hS0, hat, rfl, _, rfl, iteB (decide_eq_true (congrArg V.str c4)) ?_⟩
        -- the numbers of the word
        refine ⟨_, rfl, _, _, rfl, rfl, _, rfl, _, _, rfl, rfl, _, rfl, _, _, rfl, rfl, _, _, rfl, ⟨by omega, by omega, by omega, by omega⟩, ?_⟩
        have hN : (((k : Int) + 1 + 1) - ((k : Int) + 1)).toNat = 1 := by omega
        refine for_it walk_range (fun i σ H1 => ∃ c6, σ = [some (.ref p), some (.int k), some (.int nf), some (.int m), some (.ref ln), none, c6, none, some (.int 1), none] ∧ Ex H0 H1 ∧ firstBad ws (k + 1) 1 = firstBad ws (k + 1 + i) (1 - i)) ⟨_, rfl, Ex.refl _, rfl⟩ (fun _ _ _ _ _ => trivial) (fun i x σ H1 H2 hi hP hY => ?_) (fun σ H1 hP => ?_)
        · obtain ⟨c6, rfl, e1, hfb⟩ := hP
          obtain ⟨rfl, rfl⟩ := hY
          rw [hN] at hi
          have hS1 := ex_l e1 hS0
          have hstep : firstBad ws (k + 1 + i) (1 - i) = if badAt ws (k + 1 + i) = true then some (min (k + 1 + i) ws.length) else firstBad ws (k + 1 + (i + 1)) (1 - (i + 1)) := by
            rw [show 1 - i = (1 - (i + 1)) + 1 by omega] <;> rfl
          have minI : (if ((ws.map V.str).length : Int) < (k : Int) + 1 + i then ((ws.map V.str).length : Int) else (k : Int) + 1 + i) = ((min (k + 1 + i) ws.length : Nat) : Int) := minE (k + 1 + i)
          refine ⟨_, rfl, _, rfl, _, _, rfl, .inl ⟨_, hS1, rfl⟩, _, _, rfl, rfl, _, rfl, ?_⟩
          cases hwi : ws[k + 1 + i]? with
          | none =>
            have hlk : ws.length ≤ k + 1 + i := List.getElem?_eq_none_iff.mp hwi
            have hb : badAt ws (k + 1 + i) = true := by unfold badAt; rw [hwi]
            rw [hb, if_pos rfl] at hstep
            rw [hfb, hstep] at q
            refine iteB (decide_eq_true (by rw [hlen]; omega)) (iteT ?_)
            refine ⟨_, rfl, _, rfl, _, _, rfl, .inl ⟨_, hS1, rfl⟩, _, _, rfl, _, rfl, szc rfl, fun t ht => ?_⟩
            rw [minI]
            exact q _ _ ((e0.trans e1).trans (Ex.new ht)) ⟨_, tup_new ht (.cons .non (.cons (.int _) (.cons (.int _) .nil)))⟩
          | some wi =>
            have hlk : k + 1 + i < ws.length := (List.getElem?_eq_some_iff.mp hwi).1
            have hb : badAt ws (k + 1 + i) = !numOk wi := by unfold badAt; rw [hwi]
            refine iteB0 (decide_eq_false (by rw [hlen]; omega)) ?_
            have hati : atI (ws.map V.str) ((k : Int) + 1 + i) = some (.str wi) := by
              rw [show (k : Int) + 1 + i = ((k + 1 + i : Nat) : Int) by omega]
              exact atI_nat (by rw [List.getElem?_map, hwi] <;> rfl)
            have hwm := hw7 _ (List.mem_of_getElem? hwi)
            refine ⟨_, rfl, _, rfl, _, _, _, _, rfl, rfl, hS1, hati, wi, rfl, hwm.1, hwm.2, fun H2 e2 => ⟨_, rfl, ?_⟩⟩
            cases hok : numOk wi with
            | false =>
              rw [hok] at hb
              rw [hb, if_pos (by rfl)] at hstep
              rw [hfb, hstep] at q
              refine iteT ⟨_, rfl, _, rfl, _, _, rfl, .inl ⟨_, ex_l e2 hS1, rfl⟩, _, _, rfl, _, rfl, szc rfl, fun t ht => ?_⟩
              rw [minI]
              exact q _ _ (((e0.trans e1).trans e2).trans (Ex.new ht)) ⟨_, tup_new ht (.cons .non (.cons (.int _) (.cons (.int _) .nil)))⟩
            | true =>
              rw [hok] at hb
              rw [hb, if_neg (by decide)] at hstep
              exact iteF ⟨_, rfl, e1.trans e2, by rw [hfb, hstep]⟩
        · obtain ⟨c6, rfl, e1, hfb⟩ := hP
          rw [hN, Nat.sub_self] at hfb
          have hfb : firstBad ws (k + 1) 1 = none := hfb
          rw [hfb] at q
          dsimp only at q
          obtain ⟨n1, n2⟩ := firstBad_none (by omega) hfb
          have hS1 := ex_l e1 hS0
          refine ⟨_, rfl, _, rfl, _, _, rfl, rfl, _, rfl, _, rfl, _, _, rfl, rfl, _, rfl, _, _, rfl, rfl, _, rfl, _, _, rfl, hS1, fun p3 hp3 => ?_⟩
          have hcut : cutV (ws.map V.str) (some ((k : Int) + 1)) (some ((k : Int) + 1 + 1)) = ((ws.map V.str).drop (k + 1)).take 1 := by
            have := cut_nat (ws.map V.str) (k + 1) (k + 1 + 1) (by omega) (by rw [hlen]; omega)
            rw [show k + 1 + 1 - (k + 1) = 1 by omega] at this
            rw [← this]
            rfl
          rw [hcut]
          have e3 := Ex.new (o := .lst (((ws.map V.str).drop (k + 1)).take 1)) hp3
          have l3 : upd H1 p3 (.lst (((ws.map V.str).drop (k + 1)).take 1)) p3 = some (.lst (((ws.map V.str).drop (k + 1)).take 1)) := upd_same
          have hnl : (((ws.map V.str).drop (k + 1)).take 1).length = 1 := by rw [List.length_take, List.length_drop, hlen]; omega
          have hna := len_numsAt n1
          refine ⟨_, rfl, ⟨_, SqL.of l3⟩, fun D hD => lc_map walk_list ((numsAt ws (k + 1) 1).map V.int) (by rw [List.length_map, hna, hnl]) (by rw [hnl]; omega) hD (fun H' e => ex_l e (SqL.of l3)) (fun i x H2 H3 y k2 hy e hY hk => ?_) (fun H2 e4 hD4 => ?_)⟩
          · obtain ⟨rfl, hx⟩ := hY
            obtain ⟨u, rfl, hu, hi, hu2⟩ := drop_nums hx
            obtain ⟨u', hu', hok⟩ := n2 (k + 1 + i) (by omega) (by omega)
            rw [hu] at hu'
            cases hu'
            have hz : (numsAt ws (k + 1) 1)[i]? = some (numVal u) := by
              unfold numsAt
              rw [List.getElem?_map, hu2] <;> rfl
            obtain rfl := get_map hz hy
            exact ⟨rfl, _, rfl, u, _, rfl, numOk_int hok, by have := (numOk_split hok).2.1; omega, hk _ (Ex.refl _)⟩
          refine ⟨_, _, rfl, .inl ⟨SqL.of hD4, fun p5 hp5 => ?_⟩⟩
          have e5 := Ex.new (o := .tup ((numsAt ws (k + 1) 1).map V.int)) hp5
          have hT5 : SqT K (upd H2 p5 (.tup ((numsAt ws (k + 1) 1).map V.int))) p5 ((numsAt ws (k + 1) 1).map V.int) := SqT.of upd_same
          have eH5 := (((e0.trans e1).trans e3).trans e4).trans e5
          have hS5 := ex_l ((e3.trans e4).trans e5) hS1
          obtain ⟨fee, hfee⟩ : ∃ fee, numsAt ws (k + 1) 1 = [fee] := by
            cases hh : numsAt ws (k + 1) 1 with
            | nil => rw [hh] at hna; cases hna
            | cons x y =>
              cases y with
              | nil => exact ⟨x, rfl⟩
              | cons y z => rw [hh] at hna; cases hna
          rw [hfee] at q hT5 e5 eH5 hS5 ⊢
          refine ⟨_, rfl, _, rfl, _, _, _, _, rfl, rfl, hS5, hat, rfl, _, rfl, iteNB (decide_eq_true (congrArg V.str c4)) ?_⟩
          refine ⟨_, rfl, _, rfl, _, _, rfl, rfl, _, rfl, _, rfl, _, _, rfl, rfl, p, ws, k + 2, nf, m + 1, rfl, hS5, by omega, hwl, hw7, hnf, by omega, by omega, by omega, fun H6 v1 e6 d1 => ?_⟩
          cases ea : parse f ws (k + 2) nf (m + 1) with
          | error e =>
            rw [ea] at q d1
            obtain ⟨mm, d1⟩ := d1
            obtain ⟨t1, ys, rfl, hT, dA⟩ := dp_tup d1
            obtain ⟨y1, r1, rfl, dy1, dA⟩ := da_cons dA
            obtain ⟨y2, r2, rfl, dy2, dA⟩ := da_cons dA
            obtain ⟨y3, r3, rfl, dy3, dA⟩ := da_cons dA
            obtain rfl := da_nil dA
            obtain rfl := dp_int dy2
            obtain rfl := dp_int dy3
            obtain rfl := dp_none dy1
            refine ⟨_, _, rfl, hT, rfl, _, _, rfl, _, _, rfl, _, _, rfl, rfl, ?_⟩
            refine ⟨_, rfl, _, rfl, iteB (by decide) ⟨_, rfl, _, rfl, szc rfl, fun t ht => ?_⟩⟩
            exact q _ _ ((eH5.trans e6).trans (Ex.new ht)) ⟨_, tup_new ht (.cons .non (.cons (.int _) (.cons (.int _) .nil)))⟩
          | ok ra =>
            obtain ⟨ra, k1, m1⟩ := ra
            rw [ea] at q d1
            dsimp only at q
            have d1 : Dp K H6 v1 (.tuple [ra.d, .int k1, .int m1]) := d1
            obtain ⟨t1, ys, rfl, hT, dA⟩ := dp_tup d1
            obtain ⟨y1, r1, rfl, dy1, dA⟩ := da_cons dA
            obtain ⟨y2, r2, rfl, dy2, dA⟩ := da_cons dA
            obtain ⟨y3, r3, rfl, dy3, dA⟩ := da_cons dA
            obtain rfl := da_nil dA
            obtain rfl := dp_int dy2
            obtain rfl := dp_int dy3
            refine ⟨_, _, rfl, hT, rfl, _, _, rfl, _, _, rfl, _, _, rfl, rfl, ?_⟩
            refine ⟨_, rfl, _, rfl, iteB0 (dp_ne_none dy1) ?_⟩
            refine ⟨_, rfl, _, rfl, _, _, _, _, rfl, rfl, ex_t e6 hT5, atI_nat (j := 0) rfl, szc rfl, fun p6 hp6 => ⟨_, rfl, _, rfl, szc rfl, fun p7 hp7 => ?_⟩⟩
            have dw : Dp K (upd H6 p6 (.tup [.str "oust", y1, .int fee])) (.ref p6) (Rl.ou ra fee).d := tup_new hp6 (.cons (.str _) (.cons dy1 (.cons (.int _) .nil)))
            exact q _ _ (((eH5.trans e6).trans (Ex.new hp6)).trans (Ex.new hp7)) (tup_new hp7 (.cons dw (.cons (.int _) (.cons (.int _) .nil))))
      · rw [if_neg c4, if_pos c4] at q
        refine ⟨_, rfl, _, rfl, _, _, _, _, rfl, rfl, hS0, hat, rfl, _, rfl, iteB0 (decide_eq_false fun z => c4 (V.str.inj z)) ⟨_, rfl, ?_⟩⟩
        -- the numbers of the word
        refine ⟨_, rfl, _, _, rfl, rfl, _, rfl, _, _, rfl, rfl, _, rfl, _, _, rfl, rfl, _, _, rfl, ⟨by omega, by omega, by omega, by omega⟩, ?_⟩
        have hN : (((k : Int) + 1 + nf) - ((k : Int) + 1)).toNat = nf := by omega
        refine for_it walk_range (fun i σ H1 => ∃ c6, σ = [some (.ref p), some (.int k), some (.int nf), some (.int m), some (.ref ln), none, c6, none, some (.int nf), none] ∧ Ex H0 H1 ∧ firstBad ws (k + 1) nf = firstBad ws (k + 1 + i) (nf - i)) ⟨_, rfl, Ex.refl _, rfl⟩ (fun _ _ _ _ _ => trivial) (fun i x σ H1 H2 hi hP hY => ?_) (fun σ H1 hP => ?_)
        · obtain ⟨c6, rfl, e1, hfb⟩ := hP
          obtain ⟨rfl, rfl⟩ := hY
          rw [hN] at hi
          have hS1 := ex_l e1 hS0
          have hstep : firstBad ws (k + 1 + i) (nf - i) = if badAt ws (k + 1 + i) = true then some (min (k + 1 + i) ws.length) else firstBad ws (k + 1 + (i + 1)) (nf - (i + 1)) := by
            rw [show nf - i = (nf - (i + 1)) + 1 by omega] <;> rfl
          have minI : (if ((ws.map V.str).length : Int) < (k : Int) + 1 + i then ((ws.map V.str).length : Int) else (k : Int) + 1 + i) = ((min (k + 1 + i) ws.length : Nat) : Int) := minE (k + 1 + i)
          refine ⟨_, rfl, _, rfl, _, _, rfl, .inl ⟨_, hS1, rfl⟩, _, _, rfl, rfl, _, rfl, ?_⟩
          cases hwi : ws[k + 1 + i]? with
          | none =>
            have hlk : ws.length ≤ k + 1 + i := List.getElem?_eq_none_iff.mp hwi
            have hb : badAt ws (k + 1 + i) = true := by unfold badAt; rw [hwi]
            rw [hb, if_pos rfl] at hstep
            rw [hfb, hstep] at q
            refine iteB (decide_eq_true (by rw [hlen]; omega)) (iteT ?_)
            refine ⟨_, rfl, _, rfl, _, _, rfl, .inl ⟨_, hS1, rfl⟩, _, _, rfl, _, rfl, szc rfl, fun t ht => ?_⟩
            rw [minI]
            exact q _ _ ((e0.trans e1).trans (Ex.new ht)) ⟨_, tup_new ht (.cons .non (.cons (.int _) (.cons (.int _) .nil)))⟩
          | some wi =>
            have hlk : k + 1 + i < ws.length := (List.getElem?_eq_some_iff.mp hwi).1
            have hb : badAt ws (k + 1 + i) = !numOk wi := by unfold badAt; rw [hwi]
            refine iteB0 (decide_eq_false (by rw [hlen]; omega)) ?_
            have hati : atI (ws.map V.str) ((k : Int) + 1 + i) = some (.str wi) := by
              rw [show (k : Int) + 1 + i = ((k + 1 + i : Nat) : Int) by omega]
              exact atI_nat (by rw [List.getElem?_map, hwi] <;> rfl)
            have hwm := hw7 _ (List.mem_of_getElem? hwi)
            refine ⟨_, rfl, _, rfl, _, _, _, _, rfl, rfl, hS1, hati, wi, rfl, hwm.1, hwm.2, fun H2 e2 => ⟨_, rfl, ?_⟩⟩
            cases hok : numOk wi with
            | false =>
              rw [hok] at hb
              rw [hb, if_pos (by rfl)] at hstep
              rw [hfb, hstep] at q
              refine iteT ⟨_, rfl, _, rfl, _, _, rfl, .inl ⟨_, ex_l e2 hS1, rfl⟩, _, _, rfl, _, rfl, szc rfl, fun t ht => ?_⟩
              rw [minI]
              exact q _ _ (((e0.trans e1).trans e2).trans (Ex.new ht)) ⟨_, tup_new ht (.cons .non (.cons (.int _) (.cons (.int _) .nil)))⟩
            | true =>
              rw [hok] at hb
              rw [hb, if_neg (by decide)] at hstep
              exact iteF ⟨_, rfl, e1.trans e2, by rw [hfb, hstep]⟩
        · obtain ⟨c6, rfl, e1, hfb⟩ := hP
          rw [hN, Nat.sub_self] at hfb
          have hfb : firstBad ws (k + 1) nf = none := hfb
          rw [hfb] at q
          dsimp only at q
          obtain ⟨n1, n2⟩ := firstBad_none (by omega) hfb
          have hS1 := ex_l e1 hS0
          refine ⟨_, rfl, _, rfl, _, _, rfl, rfl, _, rfl, _, rfl, _, _, rfl, rfl, _, rfl, _, _, rfl, rfl, _, rfl, _, _, rfl, hS1, fun p3 hp3 => ?_⟩
          have hcut : cutV (ws.map V.str) (some ((k : Int) + 1)) (some ((k : Int) + 1 + nf)) = ((ws.map V.str).drop (k + 1)).take nf := by
            have := cut_nat (ws.map V.str) (k + 1) (k + 1 + nf) (by omega) (by rw [hlen]; omega)
            rw [show k + 1 + nf - (k + 1) = nf by omega] at this
            rw [← this]
            rfl
          rw [hcut]
          have e3 := Ex.new (o := .lst (((ws.map V.str).drop (k + 1)).take nf)) hp3
          have l3 : upd H1 p3 (.lst (((ws.map V.str).drop (k + 1)).take nf)) p3 = some (.lst (((ws.map V.str).drop (k + 1)).take nf)) := upd_same
          have hnl : (((ws.map V.str).drop (k + 1)).take nf).length = nf := by rw [List.length_take, List.length_drop, hlen]; omega
          have hna := len_numsAt n1
          refine ⟨_, rfl, ⟨_, SqL.of l3⟩, fun D hD => lc_map walk_list ((numsAt ws (k + 1) nf).map V.int) (by rw [List.length_map, hna, hnl]) (by rw [hnl]; omega) hD (fun H' e => ex_l e (SqL.of l3)) (fun i x H2 H3 y k2 hy e hY hk => ?_) (fun H2 e4 hD4 => ?_)⟩
          · obtain ⟨rfl, hx⟩ := hY
            obtain ⟨u, rfl, hu, hi, hu2⟩ := drop_nums hx
            obtain ⟨u', hu', hok⟩ := n2 (k + 1 + i) (by omega) (by omega)
            rw [hu] at hu'
            cases hu'
            have hz : (numsAt ws (k + 1) nf)[i]? = some (numVal u) := by
              unfold numsAt
              rw [List.getElem?_map, hu2] <;> rfl
            obtain rfl := get_map hz hy
            exact ⟨rfl, _, rfl, u, _, rfl, numOk_int hok, by have := (numOk_split hok).2.1; omega, hk _ (Ex.refl _)⟩
          refine ⟨_, _, rfl, .inl ⟨SqL.of hD4, fun p5 hp5 => ?_⟩⟩
          have e5 := Ex.new (o := .tup ((numsAt ws (k + 1) nf).map V.int)) hp5
          have hT5 : SqT K (upd H2 p5 (.tup ((numsAt ws (k + 1) nf).map V.int))) p5 ((numsAt ws (k + 1) nf).map V.int) := SqT.of upd_same
          have eH5 := (((e0.trans e1).trans e3).trans e4).trans e5
          have hS5 := ex_l ((e3.trans e4).trans e5) hS1
          refine ⟨_, rfl, _, rfl, _, _, _, _, rfl, rfl, hS5, hat, rfl, _, rfl, iteNB0 (decide_eq_false fun z => c4 (V.str.inj z)) ?_⟩
          refine ⟨_, rfl, _, rfl, _, _, _, _, rfl, rfl, hS5, hat, _, rfl, szc rfl, fun p6 hp6 => ⟨_, rfl, _, _, rfl, rfl, _, rfl, _, _, rfl, rfl, _, rfl, _, _, rfl, rfl, szc rfl, fun p7 hp7 => ?_⟩⟩
          have dw : Dp K (upd (upd H2 p5 (.tup ((numsAt ws (k + 1) nf).map V.int))) p6 (.tup [.str w, .ref p5])) (.ref p6) (Rl.pl w (numsAt ws (k + 1) nf)).d := tup_new hp6 (.cons (.str _) (.cons (ints_dp hT5) .nil))
          exact q _ _ ((eH5.trans (Ex.new hp6)).trans (Ex.new hp7)) (tup_new hp7 (.cons dw (.cons (.int _) (.cons (.int _) .nil))))
end
end K95

set_option Elab.async false
set_option linter.all false
set_option maxRecDepth 100000
set_option maxHeartbeats 4000000
namespace K95
open PySem PySem.Spec PyProof.Rows L2
open Evl (Ex ex_l ex_t fresh_back)
open TL (tl)
theorem spl_mem (S : List Nat) : ∀ (k : Nat) (acc l p : List Nat), p ∈ TL.spl S k acc l → ∀ c ∈ p, c ∈ acc ∨ c ∈ l
  | k, acc, [], p, h, c, hc => by
    rw [TL.spl_nil] at h
    rw [List.mem_singleton.mp h] at hc
    exact .inl hc
  | 0, acc, a :: r, p, h, c, hc => by
    by_cases hp : TL.pre S (a :: r) = true
    · rw [TL.spl_hit hp] at h
      rcases List.mem_cons.mp h with rfl | h
      · exact .inl hc
      · rcases spl_mem S _ _ _ p h c hc with h1 | h1
        · cases h1
        · exact .inr (List.mem_cons_of_mem _ h1)
    · rw [TL.spl_miss (by simpa using hp)] at h
      rcases spl_mem S _ _ _ p h c hc with h1 | h1
      · rcases List.mem_append.mp h1 with h1 | h1
        · exact .inl h1
        · rw [List.mem_singleton.mp h1]
          exact .inr List.mem_cons_self
      · exact .inr (List.mem_cons_of_mem _ h1)
  | k + 1, acc, a :: r, p, h, c, hc => by
    rcases spl_mem S k acc r p h c hc with h1 | h1
    · exact .inl h1
    · exact .inr (List.mem_cons_of_mem _ h1)
theorem split_sg {y : Str} (c : Cut y) {x p : Str} (h : p ∈ Txt.split x y) (sg : Sg x) : Sg p := fun d hd => by
  have e := TL.split_spl x y c.ne (TL.kind_ok c.hk)
  have hm : tl p ∈ TL.spl (tl y) 0 [] (tl x) := by
    rw [← e]
    exact List.mem_map_of_mem h
  rcases spl_mem _ _ _ _ _ hm d hd with h1 | h1
  · cases h1
  · exact sg d h1
theorem row0_sg {x : Str} (sg : Sg x) : ∀ w ∈ row0 x, Sg w := by
  obtain ⟨r, e⟩ := row0_cons x
  have hm : row0 x ∈ rowsOf x := by rw [e]; exact List.mem_cons_self
  unfold rowsOf at hm
  obtain ⟨l, hl, he⟩ := List.mem_map.mp hm
  rw [← he]
  exact fun w hw => split_sg cut_sp hw (split_sg cut_nl hl sg)
def spDue (K : PySem.W.Frag) : Sp := fun vs H Q _ => ∃ (hv : V) (s : Int) (fs : List Int) (x : Str), vs = [hv, .str x] ∧ HallOk s fs ∧ Dp K H hv (hallD s fs) ∧ x.length ≤ 900000 ∧ Sg x ∧ ∀ H' v, Ex H H' → Dp K H' v (due s fs.length x).d → Q v H'
section
variable {w : World} {K : PySem.W.Frag} {mg : Str → Option Value} {base : Heap}
abbrev nLaw_rule_due : List Str := ["_law_hall_so", "_law_sheet", "_law_rows", "_law_line", "_law_some", "_law_spot", "_law_many", "_law_path"]
theorem scLaw_rule_due : FnScope nLaw_rule_due ["_law_hall_so", "_law_sheet"] (defScope (top 61)) := ⟨rfl, rfl, rfl, by decide +kernel, rfl, by decide +kernel, by decide +kernel⟩
theorem ok_law_rule_due (T : Txt K mg) : FnOk PR w K mg base CX0 14 (ga K "_law_rule_due") (fdOf K "_law_rule_due") ["_law_hall_so", "_law_sheet"] (spDue K) := by
  refine T.d_law_rule_due.F.ok scLaw_rule_due (fun vs H Q E h => ?_) (fun cdv A outer s H vs Q E hr h => ?_)
  · obtain ⟨hv, s, fs, x, rfl, _⟩ := h
    rfl
  refine ⟨_, (pss_cons (ps_setLc (i := 2) (own := [("_law_line", 3)]) (g := gName 3) (tt := tYes) rfl scLaw_rule_due.nd rfl rfl (sw_true rfl rfl rfl (by decide +kernel)) (pi_list (pe_split (pv 1) pe_str)) (blkOk_by (N := nLaw_rule_due) (sc := defScope (top 61)) (by decide +kernel)) (fun _ _ _ _ _ => pg_name (i := 3) scLaw_rule_due.nd rfl (Or.inl rfl)) (fun _ _ _ _ _ => pts_nil) (fun _ _ _ _ _ => (pe_split (pv 3) pe_str)))
    (pss_cons (ps_asg (pe_call (ok_law_rule_at T 8) (hr.mono (by decide)) rfl T.d_law_rule_at.g T.d_law_rule_at.kp (bd_law_rule_at T) .nil pass0 (pa_cons (pe_ix ix_list (pv 2) pe_int (fun _ _ => rfl)) (pa_cons pe_int (pa_cons (pe_callB call_len rfl T.f_len (by decide +kernel) (pa_cons (pe_ix ix_tup (pv 0) pe_int (fun _ _ => rfl)) pa_nil)) (pa_cons pe_int pa_nil))))) (pg_tup rfl (pgs_cons (pg_name (i := 4) scLaw_rule_due.nd rfl (Or.inl rfl)) (pgs_cons (pg_name (i := 5) scLaw_rule_due.nd rfl (Or.inl rfl)) (pgs_cons (pg_name (i := 6) scLaw_rule_due.nd rfl (Or.inl rfl)) pgs_nil)))))
    (pss_cons (ps_if (PW.pt (pw_or (pt_cmp (pc_isN (pv 4))) (pw_or1 (pt_cmpR op_lt (pv 5) (pe_callB call_len rfl T.f_len (by decide +kernel) (pa_cons (pe_ix ix_list (pv 2) pe_int (fun _ _ => rfl)) pa_nil)) (nomark _)))))
      (pss_one (ps_ret (pe_tup (pa_cons pe_str (pa_cons pe_int (pa_cons (pv 5) pa_nil))))))
      pss_nil)
    (pss_cons (ps_if (pt_cmpR op_gt (pe_callB call_len rfl T.f_len (by decide +kernel) (pa_cons (pv 2) pa_nil)) pe_int (nomark _))
      (pss_one (ps_ret (pe_tup (pa_cons pe_str (pa_cons pe_int (pa_cons pe_int pa_nil))))))
      pss_nil)
    (pss_cons (ps_set (i := 7) scLaw_rule_due.nd rfl (Or.inl rfl) (pe_call (ok_law_rule_wrong T) (hr.mono (by decide)) rfl T.d_law_rule_wrong.g T.d_law_rule_wrong.kp (bd_law_rule_wrong T) .nil pass0 (pa_cons (pv 0) (pa_cons (pv 4) pa_nil))))
    (pss_one (ps_ret (pe_ifExp (pt_cmp (pc_isN (pv 7))) (pe_lst (pa_cons (pv 4) pa_nil)) (pe_tup (pa_cons pe_str (pa_cons (pv 7) pa_nil))))))))))), ?_⟩
  obtain ⟨hv, sz, fs, x, rfl, ok, dh, hl, sg, q⟩ := h
  have hsl : x.length + 2 ≤ sizeLine := Nat.le_trans (show x.length + 2 ≤ 1000002 by omega) (by decide)
  have hc := split_cnt cut_nl x
  refine ⟨_, rfl, ⟨_, rfl⟩, _, _, rfl, rfl, rfl, hsl, fun p hp => ?_⟩
  have e1 := Ex.new (o := .lst ((Txt.split x "\n").map V.str)) hp
  have l1 : upd H p (.lst ((Txt.split x "\n").map V.str)) p = some (.lst ((Txt.split x "\n").map V.str)) := upd_same
  refine ⟨_, rfl, ⟨_, SqL.of l1⟩, fun D hD => ?_⟩
  refine lc_rel (walk_list (K := K) (xs := (Txt.split x "\n").map V.str)) (fun i y Hy => ∃ (a : Addr) (z : Str), (Txt.split x "\n")[i]? = some z ∧ y = .ref a ∧ a ≠ D ∧ Hy a = some (.lst ((Txt.split z " ").map V.str)))
    (by rw [List.length_map]; omega) hD (fun Hy ey => ex_l ey (SqL.of l1)) (fun i y Hy Hz hy ez => ?_) (fun i z Hy Hz k2 hi ey hY hacc hk2 => ?_) (fun Hy acc ey hDy hla hR => ?_)
  · obtain ⟨a, z, h1, h2, h3, h4⟩ := hy
    exact ⟨a, z, h1, h2, h3, ez _ _ h3 h4⟩
  · obtain ⟨rfl, hz⟩ := hY
    obtain ⟨u, hu, rfl⟩ := get_str hz
    obtain ⟨acc, hacc⟩ := hacc
    have hul := split_part cut_nl (List.mem_of_getElem? hu)
    refine ⟨rfl, _, rfl, ⟨_, rfl⟩, _, _, rfl, rfl, rfl, Nat.le_trans (show u.length + 2 ≤ 1000002 by omega) (by decide), fun p2 hp2 => ?_⟩
    exact hk2 _ _ (Ex.new hp2) ⟨p2, u, hu, rfl, (ne_of_none hacc hp2).symm, upd_same⟩
  have dr : Dp K Hy (.ref D) (rowsD x) := by
    refine .lst (SqL.of hDy) (da_of ?_ fun j y d hy hd => ?_)
    · rw [hla]
      simp [rowsOf]
    · obtain ⟨a, z, h1, rfl, h3, h4⟩ := hR j y hy
      have hr : (rowsOf x)[j]? = some (Txt.split z " ") := by
        unfold rowsOf
        rw [List.getElem?_map, h1] <;> rfl
      obtain rfl := get_map hr hd
      exact .lst (SqL.of h4) (da_strs _)
  have e02 := e1.trans ey
  clear hR hla
  obtain ⟨ra, xs, hra, hR, hA⟩ := dp_lst dr
  cases hra
  obtain ⟨rest, hrows⟩ := row0_cons x
  have hA0 := hA
  rw [hrows] at hA
  obtain ⟨v0, xr, rfl, d0, hA⟩ := da_cons hA
  obtain ⟨p0, ys, rfl, hS0, hA2⟩ := dp_lst d0
  obtain rfl := strs_da hA2
  obtain ⟨b1, b2⟩ := row0_b hl
  have b3 := row0_sg sg
  obtain ⟨ha, hb, rfl, hH, hF⟩ := hall_in (Dp.ex e02 dh)
  have dh2 := hall_out hH hF
  have hl4 := ok.f4
  unfold due at q
  refine ⟨_, rfl, _, _, _, _, rfl, rfl, hR, atI_nat (j := 0) rfl, _, rfl, _, _, _, _, rfl, rfl, hH, rfl, _, _, rfl, .inr ⟨_, hF, rfl⟩, p0, row0 x, 0, fs.length, 0, by rw [List.length_map] <;> rfl, hS0, by omega, by omega, fun w hw => ⟨by have := b2 w hw; omega, b3 w hw⟩, by omega, by omega, by omega, by omega, fun H3 v3 e3 d3 => ?_⟩
  have e03 := e02.trans e3
  cases ep : parse 8 (row0 x) 0 fs.length 0 with
  | error e =>
    rw [ep] at q d3
    obtain ⟨mm, d3⟩ := d3
    obtain ⟨t1, ys, rfl, hT, dA⟩ := dp_tup d3
    obtain ⟨y1, r1, rfl, dy1, dA⟩ := da_cons dA
    obtain ⟨y2, r2, rfl, dy2, dA⟩ := da_cons dA
    obtain ⟨y3, r3, rfl, dy3, dA⟩ := da_cons dA
    obtain rfl := da_nil dA
    obtain rfl := dp_int dy2
    obtain rfl := dp_int dy3
    obtain rfl := dp_none dy1
    refine ⟨_, _, rfl, hT, rfl, _, _, rfl, _, _, rfl, _, _, rfl, rfl, ?_⟩
    refine ⟨_, rfl, _, rfl, iteB (by decide) (iteT ⟨_, rfl, szc rfl, fun t ht => ?_⟩)⟩
    exact q _ _ (e03.trans (Ex.new ht)) (tup_new ht (.cons (.str _) (.cons (.int _) (.cons (.int _) .nil))))
  | ok rr =>
    obtain ⟨r, k1, m1⟩ := rr
    rw [ep] at q d3
    dsimp only at q
    have d3 : Dp K H3 v3 (.tuple [r.d, .int k1, .int m1]) := d3
    obtain ⟨a1, a2, a3, a4, a5⟩ := parse_ok (by omega) ep
    obtain ⟨t1, ys, rfl, hT, dA⟩ := dp_tup d3
    obtain ⟨y1, r1, rfl, dy1, dA⟩ := da_cons dA
    obtain ⟨y2, r2, rfl, dy2, dA⟩ := da_cons dA
    obtain ⟨y3, r3, rfl, dy3, dA⟩ := da_cons dA
    obtain rfl := da_nil dA
    obtain rfl := dp_int dy2
    obtain rfl := dp_int dy3
    have hR3 := ex_l e3 hR
    refine ⟨_, _, rfl, hT, rfl, _, _, rfl, _, _, rfl, _, _, rfl, rfl, ?_⟩
    refine ⟨_, rfl, _, rfl, iteB0 (dp_ne_none dy1) ?_⟩
    refine ⟨_, rfl, _, rfl, _, _, _, _, rfl, rfl, hR3, atI_nat (j := 0) rfl, _, _, rfl, .inl ⟨_, ex_l e3 hS0, rfl⟩, _, _, rfl, rfl, _, rfl, ?_⟩
    by_cases c1 : k1 < (row0 x).length
    · rw [if_pos c1] at q
      refine iteB (decide_eq_true (by rw [List.length_map]; omega)) ⟨_, rfl, szc rfl, fun t ht => ?_⟩
      exact q _ _ (e03.trans (Ex.new ht)) (tup_new ht (.cons (.str _) (.cons (.int _) (.cons (.int _) .nil))))
    rw [if_neg c1] at q
    refine iteB0 (decide_eq_false (by rw [List.length_map]; omega)) ?_
    have hxl := da_len hA0
    rw [List.length_map] at hxl
    refine ⟨_, rfl, _, _, rfl, .inl ⟨_, hR3, rfl⟩, _, _, rfl, rfl, _, rfl, ?_⟩
    by_cases c2 : 1 < (rowsOf x).length
    · rw [if_pos c2] at q
      refine iteB (decide_eq_true (by omega)) ⟨szc rfl, fun t ht => ?_⟩
      exact q _ _ (e03.trans (Ex.new ht)) (tup_new ht (.cons (.str _) (.cons (.int _) (.cons (.int _) .nil))))
    rw [if_neg c2] at q
    refine iteB0 (decide_eq_false (by omega)) ?_
    refine ⟨_, rfl, _, rfl, _, _, sz, fs, r, rfl, Dp.ex e3 dh2, by omega, dy1, a3, by omega, fun H4 u e4 du => ?_⟩
    cases hb : bad sz r with
    | none =>
      rw [hb] at q du
      obtain rfl := dp_none du
      refine ⟨_, rfl, _, rfl, iteB (by decide) ⟨_, rfl, szc rfl, fun t ht => ?_⟩⟩
      exact q _ _ ((e03.trans e4).trans (Ex.new ht)) (lst_new ht (.cons (Dp.ex e4 dy1) .nil))
    | some pp =>
      rw [hb] at q du
      obtain ⟨pa, zs, rfl, hZ, dZ⟩ := dp_tup du
      refine ⟨_, rfl, _, rfl, iteB0 (by simp) ⟨_, rfl, szc rfl, fun t ht => ?_⟩⟩
      exact q _ _ ((e03.trans e4).trans (Ex.new ht)) (tup_new ht (.cons (.str _) (.cons du .nil)))
end
end K95

set_option Elab.async false
set_option linter.all false
set_option maxRecDepth 100000
set_option maxHeartbeats 4000000
/-! Texts that are bent. -/
namespace K95
open PySem PySem.Spec PyProof.Rows L2
open Evl (Ex ex_l ex_t fresh_back)
open TL (tl)
theorem Sg.app {x y : Str} (hx : Sg x) (hy : Sg y) : Sg (x ++ y) := fun c hc => by
  rw [TL.tl_append] at hc
  rcases List.mem_append.mp hc with h | h
  · exact hx c h
  · exact hy c h
theorem Sg.cut {x : Str} (hx : Sg x) (lo hi : Option Int) : Sg (cutS x lo hi) := fun c hc => by
  have h1 : c ∈ (x.cps.toList.drop (HT.sIx x.length 0 lo)).take (HT.sIx x.length x.length hi - HT.sIx x.length 0 lo) := hc
  exact hx c (List.mem_of_mem_drop (List.mem_of_mem_take h1))
theorem Sg.one {x : Str} (hx : Sg x) {c : Nat} (hc : c ∈ x.cps.toList) : Sg ⟨#[c]⟩ := fun d hd => by
  have : d = c := List.mem_singleton.mp hd
  rw [this]
  exact hx c hc
theorem Sg.lit {x : Str} (h : (tl x).all (fun c => decide (c < 0x110000)) = true) : Sg x := fun c hc => of_decide_eq_true (List.all_eq_true.mp h c hc)
theorem mem_joinL {c : Nat} {S : List Nat} : ∀ {ps : List (List Nat)}, c ∈ TL.joinL S ps → c ∈ S ∨ ∃ p ∈ ps, c ∈ p
  | [], h => by cases h
  | [p], h => .inr ⟨p, List.mem_cons_self, h⟩
  | p :: q :: r, h => by
    have h' : c ∈ p ++ (S ++ TL.joinL S (q :: r)) := h
    rcases List.mem_append.mp h' with h1 | h1
    · exact .inr ⟨p, List.mem_cons_self, h1⟩
    · rcases List.mem_append.mp h1 with h1 | h1
      · exact .inl h1
      · rcases mem_joinL h1 with h2 | ⟨u, hu, h2⟩
        · exact .inl h2
        · exact .inr ⟨u, List.mem_cons_of_mem _ hu, h2⟩
theorem Sg.join {y : Str} (hy : Sg y) {ps : List Str} (h : ∀ p ∈ ps, Sg p) : Sg (Txt.join y ps) := fun c hc => by
  rw [TL.join_eq, TL.tl_join] at hc
  rcases mem_joinL hc with h1 | ⟨u, hu, h1⟩
  · exact hy c h1
  · obtain ⟨p, hp, rfl⟩ := List.mem_map.mp hu
    exact h p hp c h1
def wt (ps : List Str) : Nat := (ps.map (fun p => p.length + 1)).sum
theorem wt_app (a b : List Str) : wt (a ++ b) = wt a + wt b := by simp [wt]
theorem wt_sub {a b : List Str} (h : a.Sublist b) : wt a ≤ wt b := by
  induction h with
  | slnil => exact Nat.le_refl _
  | cons x _ ih => simp only [wt, List.map_cons, List.sum_cons] at ih ⊢; omega
  | cons_cons x _ ih => simp only [wt, List.map_cons, List.sum_cons] at ih ⊢; omega
/-- a cut of texts -/
theorem cutV_strs (ps : List Str) (lo hi : Option Int) : ∃ qs : List Str, cutV (ps.map V.str) lo hi = qs.map V.str ∧ qs.Sublist ps := by
  unfold cutV
  rw [← List.map_drop, ← List.map_take]
  exact ⟨_, rfl, (List.take_sublist _ _).trans (List.drop_sublist _ _)⟩
theorem len_wt (ps : List Str) : (ps.map (·.length)).sum + ps.length * 1 ≤ wt ps := by
  induction ps with
  | nil => exact Nat.le_refl _
  | cons p ps ih => simp only [wt, List.map_cons, List.sum_cons, List.length_cons] at ih ⊢; omega
def spBent : Sp := fun vs H Q _ => ∃ (am ac ag : Addr) (b : Nat) (x z : Str), vs = [.ref am, .str x, .str z] ∧ Mach H am ac ag (b + 4) ∧ x.length ≤ 300000 ∧ Sg x ∧ 1 ≤ z.length ∧ z.length ≤ 1000 ∧ Sg z ∧
  ∀ H' (y : Str), Dw am ag H H' → Mach H' am ac ag b → Sg y → y.length ≤ 3 * x.length + 3 → Q (.str y) H'
def spWordBent : Sp := fun vs H Q _ => ∃ (am ac ag : Addr) (b : Nat) (x : Str), vs = [.ref am, .str x] ∧ Mach H am ac ag (b + 4) ∧ x.length ≤ 300000 ∧ Sg x ∧
  ∀ H' (y : Str), Dw am ag H H' → Mach H' am ac ag b → Sg y → y.length ≤ 2 * x.length + 30 → Q (.str y) H'
section
variable {w : World} {K : PySem.W.Frag} {mg : Str → Option Value} {base : Heap}
abbrev nLaw_bent : List Str := ["_law_m", "_law_text", "_law_signs", "_law_spot", "_law_pick", "_law_sign", "_law_rows", "_law_k"]
theorem scLaw_bent : FnScope nLaw_bent ["_law_m", "_law_text", "_law_signs"] (defScope (top 56)) := ⟨rfl, rfl, rfl, by decide +kernel, rfl, by decide +kernel, by decide +kernel⟩
theorem ok_law_bent (T : Txt K mg) : FnOk PR w K mg base CX0 3 (ga K "_law_bent") (fdOf K "_law_bent") ["_law_m", "_law_text", "_law_signs"] spBent := by
  refine T.d_law_bent.F.ok scLaw_bent (fun vs H Q E h => ?_) (fun cdv A outer s H vs Q E hr h => ?_)
  · obtain ⟨am, ac, ag, b, x, z, rfl, _⟩ := h
    rfl
  refine ⟨_, (pss_cons (ps_par (i := 3) (j := 4) rfl scLaw_bent.nd rfl rfl (by decide) rfl rfl (pa_cons (pe_call (ok_law_draw T) (hr.mono (by decide)) rfl T.d_law_draw.g T.d_law_draw.kp (bd_law_draw T) .nil pass0 (pa_cons (pv 0) (pa_cons (pe_op op_add (pe_callB call_len rfl T.f_len (by decide +kernel) (pa_cons (pv 1) pa_nil)) pe_int) pa_nil))) (pa_cons (pe_call (ok_law_draw T) (hr.mono (by decide)) rfl T.d_law_draw.g T.d_law_draw.kp (bd_law_draw T) .nil pass0 (pa_cons (pv 0) (pa_cons pe_int pa_nil))) pa_nil)) rfl)
    (pss_cons (ps_set (i := 5) scLaw_bent.nd rfl (Or.inl rfl) (pe_ix ix_str (pv 2) (pe_call (ok_law_draw T) (hr.mono (by decide)) rfl T.d_law_draw.g T.d_law_draw.kp (bd_law_draw T) .nil pass0 (pa_cons (pv 0) (pa_cons (pe_callB call_len rfl T.f_len (by decide +kernel) (pa_cons (pv 2) pa_nil)) pa_nil))) (fun _ _ => rfl)))
    (pss_cons (ps_if (pt_cmpR op_eq (pv 4) pe_int (nomark _))
      (pss_one (ps_ret (pe_op op_add_str (pe_op op_add_str (pe_slice sl_str (pv 1) po_none (po_some (pv 3))) (pv 5)) (pe_slice sl_str (pv 1) (po_some (pv 3)) po_none))))
      pss_nil)
    (pss_cons (ps_if (pt_cmpR op_eq (pv 4) pe_int (nomark _))
      (pss_one (ps_ret (pe_op op_add_str (pe_slice sl_str (pv 1) po_none (po_some (pv 3))) (pe_slice sl_str (pv 1) (po_some (pe_op op_add (pv 3) pe_int)) po_none))))
      pss_nil)
    (pss_cons (ps_if (pt_cmpR op_eq (pv 4) pe_int (nomark _))
      (pss_one (ps_ret (pe_op op_add_str (pe_op op_add_str (pe_slice sl_str (pv 1) po_none (po_some (pv 3))) (pv 5)) (pe_slice sl_str (pv 1) (po_some (pe_op op_add (pv 3) pe_int)) po_none))))
      pss_nil)
    (pss_cons (ps_set (i := 6) scLaw_bent.nd rfl (Or.inl rfl) (pe_split (pv 1) pe_str))
    (pss_cons (ps_set (i := 7) scLaw_bent.nd rfl (Or.inl rfl) (pe_call (ok_law_draw T) (hr.mono (by decide)) rfl T.d_law_draw.g T.d_law_draw.kp (bd_law_draw T) .nil pass0 (pa_cons (pv 0) (pa_cons (pe_callB call_len rfl T.f_len (by decide +kernel) (pa_cons (pv 6) pa_nil)) pa_nil))))
    (pss_one (ps_ret (pe_ifExp (pt_cmpR op_eq (pv 4) pe_int (nomark _)) (pe_join pe_str (pe_op op_cat (pe_op op_cat (pe_slice sl_list (pv 6) po_none (po_some (pv 7))) (pe_slice sl_list (pv 6) (po_some (pv 7)) (po_some (pe_op op_add (pv 7) pe_int)))) (pe_slice sl_list (pv 6) (po_some (pv 7)) po_none))) (pe_join pe_str (pe_op op_cat (pe_slice sl_list (pv 6) po_none (po_some (pv 7))) (pe_slice sl_list (pv 6) (po_some (pe_op op_add (pv 7) pe_int)) po_none))))))))))))), ?_⟩
  obtain ⟨am, ac, ag, b, x, z, rfl, M, hx, sx, hz1, hz2, sz, q⟩ := h
  have sl : ∀ {n : Nat}, n ≤ 1000000 → n ≤ sizeLine := fun h => Nat.le_trans h (by decide)
  have lapp : ∀ x y : Str, (x ++ y).length = x.length + y.length := fun x y => by rw [TL.len_tl, TL.tl_append, List.length_append, ← TL.len_tl, ← TL.len_tl]
  refine ⟨_, rfl, _, rfl, _, _, rfl, ⟨sl (by omega), rfl⟩, _, _, rfl, rfl, am, ac, ag, _, b + 3, rfl, M, by omega, by omega, fun H1 r1 d1 M1 r10 r11 => ?_⟩
  refine ⟨_, rfl, am, ac, ag, _, b + 2, rfl, M1, by decide, by decide, fun H2 r2 d2 M2 r20 r21 => ⟨_, _, rfl, ?_⟩⟩
  refine ⟨_, rfl, _, rfl, _, rfl, _, _, rfl, ⟨sl (by omega), rfl⟩, am, ac, ag, _, b + 1, rfl, M2, by omega, by omega, fun H3 r3 d3 M3 r30 r31 => ?_⟩
  obtain ⟨j, rfl⟩ := Int.eq_ofNat_of_zero_le r30
  have hj : j < z.cps.toList.length := by
    have : z.length = z.cps.toList.length := TL.len_tl z
    omega
  refine ⟨_, _, z.cps.toList[j], rfl, rfl, sl (by omega), atI_nat (List.getElem?_eq_getElem hj), ?_⟩
  have sg1 : Sg ⟨#[z.cps.toList[j]]⟩ := sz.one (List.getElem_mem hj)
  have l1 : (⟨#[z.cps.toList[j]]⟩ : Str).length = 1 := rfl
  generalize (⟨#[z.cps.toList[j]]⟩ : Str) = sgn at *
  have D3 := (d1.trans d2).trans d3
  have M3' : Mach H3 am ac ag b := M3.mono (by omega)
  have cl := fun lo hi => cutS_length x lo hi
  refine ⟨_, rfl, rfl, _, rfl, ?_⟩
  by_cases p0 : r2 = 0
  · refine iteB (decide_eq_true (by rw [p0])) ?_
    refine ⟨_, rfl, _, rfl, _, rfl, _, rfl, sl (by omega), _, rfl, _, _, rfl, rfl, sl (by have := cl none (some r1); omega), ?_⟩
    refine ⟨_, rfl, _, rfl, _, rfl, _, rfl, sl (by omega), _, _, rfl, rfl, sl (by rw [lapp]; have := cl none (some r1); have := cl (some r1) none; omega), ?_⟩
    refine q _ _ D3 M3' (((sx.cut _ _).app sg1).app (sx.cut _ _)) ?_
    rw [lapp, lapp]
    have := cl none (some r1)
    have := cl (some r1) none
    omega
  refine iteB0 (decide_eq_false fun z => p0 (V.int.inj z)) ?_
  refine ⟨_, rfl, rfl, _, rfl, ?_⟩
  by_cases p1 : r2 = 1
  · refine iteB (decide_eq_true (by rw [p1])) ?_
    refine ⟨_, rfl, _, rfl, _, rfl, _, rfl, sl (by omega), ?_⟩
    refine ⟨_, rfl, _, rfl, _, _, rfl, rfl, _, rfl, _, rfl, sl (by omega), _, _, rfl, rfl, sl (by have := cl none (some r1); have := cl (some (r1 + 1)) none; omega), ?_⟩
    refine q _ _ D3 M3' ((sx.cut _ _).app (sx.cut _ _)) ?_
    rw [lapp]
    have := cl none (some r1)
    have := cl (some (r1 + 1)) none
    omega
  refine iteB0 (decide_eq_false fun z => p1 (V.int.inj z)) ?_
  refine ⟨_, rfl, rfl, _, rfl, ?_⟩
  by_cases p2 : r2 = 2
  · refine iteB (decide_eq_true (by rw [p2])) ?_
    refine ⟨_, rfl, _, rfl, _, rfl, _, rfl, sl (by omega), _, rfl, _, _, rfl, rfl, sl (by have := cl none (some r1); omega), ?_⟩
    refine ⟨_, rfl, _, rfl, _, _, rfl, rfl, _, rfl, _, rfl, sl (by omega), _, _, rfl, rfl, sl (by rw [lapp]; have := cl none (some r1); have := cl (some (r1 + 1)) none; omega), ?_⟩
    refine q _ _ D3 M3' (((sx.cut _ _).app sg1).app (sx.cut _ _)) ?_
    rw [lapp, lapp]
    have := cl none (some r1)
    have := cl (some (r1 + 1)) none
    omega
  refine iteB0 (decide_eq_false fun z => p2 (V.int.inj z)) ?_
  -- by lines
  refine ⟨_, rfl, ⟨_, rfl⟩, _, _, rfl, rfl, rfl, sl (by omega), fun p hp => ?_⟩
  have e4 := Ex.new (o := .lst ((Txt.split x "\n").map V.str)) hp
  have l4 : upd H3 p (.lst ((Txt.split x "\n").map V.str)) p = some (.lst ((Txt.split x "\n").map V.str)) := upd_same
  obtain ⟨k1, k2, k3⟩ := M3.fm hp
  have hcnt := split_cnt cut_nl x
  have hne : 0 < (Txt.split x "\n").length := by
    have := split_ne cut_nl x
    cases h : Txt.split x "\n" with
    | nil => exact absurd h this
    | cons a r => exact Nat.succ_pos _
  have hml : ((Txt.split x "\n").map V.str).length = (Txt.split x "\n").length := List.length_map _
  refine ⟨_, rfl, _, rfl, _, _, rfl, .inl ⟨_, SqL.of l4, rfl⟩, am, ac, ag, _, b, rfl, M3.ex e4, by rw [hml]; omega, by rw [hml]; omega, fun H5 r5 d5 M5 r50 r51 => ?_⟩
  have l5 := d5 _ _ k1 k3 l4
  have D5 := (D3.trans (Dw.ex e4)).trans d5
  have hw := split_sum cut_nl x
  have hsg : ∀ u ∈ Txt.split x "\n", Sg u := fun u hu => split_sg cut_nl hu sx
  have fin : ∀ (qs : List Str) H6, Ex H5 H6 → (∀ u ∈ qs, u ∈ Txt.split x "\n") → wt qs ≤ 3 * x.length + 3 → (qs.map (·.length)).sum + qs.length * ("\n" : Str).length ≤ 16777216 ∧ Q (.str (Txt.join "\n" qs)) H6 := fun qs H6 e6 hm hle => by
    have h1 := len_wt qs
    have h2 : ("\n" : Str).length = 1 := rfl
    have h3 := join_len (y := "\n") rfl qs
    have h4 : Sg "\n" := Sg.lit (by decide +kernel)
    refine ⟨by rw [h2]; omega, q _ _ (D5.trans (Dw.ex e6)) (M5.ex e6) (h4.join fun u hu => hsg u (hm u hu)) (Nat.le_trans h3 hle)⟩
  have hwt : wt (Txt.split x "\n") ≤ x.length + 1 := hw
  refine ⟨_, rfl, rfl, _, rfl, ?_⟩
  by_cases p3 : r2 = 3
  · refine iteB (decide_eq_true (by rw [p3])) ⟨⟨_, rfl⟩, ?_⟩
    obtain ⟨q1, hq1, s1⟩ := cutV_strs (Txt.split x "\n") none (some r5)
    obtain ⟨q2, hq2, s2⟩ := cutV_strs (Txt.split x "\n") (some r5) (some (r5 + 1))
    obtain ⟨q3, hq3, s3⟩ := cutV_strs (Txt.split x "\n") (some r5) none
    have w1 := wt_sub s1
    have w2 := wt_sub s2
    have w3 := wt_sub s3
    have n1 := s1.length_le
    have n2 := s2.length_le
    have n3 := s3.length_le
    refine ⟨_, rfl, _, rfl, _, rfl, _, _, rfl, SqL.of l5, fun t1 ht1 => ?_⟩
    rw [hq1]
    have f1 := Ex.new (o := .lst (q1.map V.str)) ht1
    refine ⟨_, rfl, _, rfl, _, rfl, _, rfl, _, _, rfl, rfl, _, rfl, _, _, rfl, SqL.of (f1 _ _ l5), fun t2 ht2 => ?_⟩
    rw [hq2]
    have f2 := Ex.new (o := .lst (q2.map V.str)) ht2
    refine ⟨_, _, _, _, rfl, rfl, f2 _ _ upd_same, upd_same, sl (by rw [List.length_map, List.length_map]; omega), fun t3 ht3 => ?_⟩
    have f3 := Ex.new (o := .lst (q1.map V.str ++ q2.map V.str)) ht3
    refine ⟨_, rfl, _, rfl, _, rfl, _, _, rfl, SqL.of ((f1.trans (f2.trans f3)) _ _ l5), fun t4 ht4 => ?_⟩
    rw [hq3]
    have f4 := Ex.new (o := .lst (q3.map V.str)) ht4
    refine ⟨_, _, _, _, rfl, rfl, f4 _ _ upd_same, upd_same, sl (by rw [List.length_append, List.length_map, List.length_map, List.length_map]; omega), fun t5 ht5 => ?_⟩
    have hz := fin (q1 ++ q2 ++ q3) _ ((((f1.trans f2).trans f3).trans f4).trans (Ex.new (o := .lst (q1.map V.str ++ q2.map V.str ++ q3.map V.str)) ht5)) (fun u hu => by
      rcases List.mem_append.mp hu with hu | hu
      · rcases List.mem_append.mp hu with hu | hu
        · exact s1.subset hu
        · exact s2.subset hu
      · exact s3.subset hu) (by rw [wt_app, wt_app]; omega)
    exact ⟨_, _, q1 ++ q2 ++ q3, rfl, rfl, .inl (SqL.of (by rw [upd_same, List.map_append, List.map_append] <;> rfl)), hz.1, hz.2⟩
  · refine iteB0 (decide_eq_false fun z => p3 (V.int.inj z)) ⟨⟨_, rfl⟩, ?_⟩
    obtain ⟨q1, hq1, s1⟩ := cutV_strs (Txt.split x "\n") none (some r5)
    obtain ⟨q2, hq2, s2⟩ := cutV_strs (Txt.split x "\n") (some (r5 + 1)) none
    have w1 := wt_sub s1
    have w2 := wt_sub s2
    have n1 := s1.length_le
    have n2 := s2.length_le
    refine ⟨_, rfl, _, rfl, _, rfl, _, _, rfl, SqL.of l5, fun t1 ht1 => ?_⟩
    rw [hq1]
    have f1 := Ex.new (o := .lst (q1.map V.str)) ht1
    refine ⟨_, rfl, _, rfl, _, _, rfl, rfl, _, rfl, _, _, rfl, SqL.of (f1 _ _ l5), fun t2 ht2 => ?_⟩
    rw [hq2]
    have f2 := Ex.new (o := .lst (q2.map V.str)) ht2
    refine ⟨_, _, _, _, rfl, rfl, f2 _ _ upd_same, upd_same, sl (by rw [List.length_map, List.length_map]; omega), fun t3 ht3 => ?_⟩
    have hz := fin (q1 ++ q2) _ ((f1.trans f2).trans (Ex.new (o := .lst (q1.map V.str ++ q2.map V.str)) ht3)) (fun u hu => by
      rcases List.mem_append.mp hu with hu | hu
      · exact s1.subset hu
      · exact s2.subset hu) (by rw [wt_app]; omega)
    exact ⟨_, _, q1 ++ q2, rfl, rfl, .inl (SqL.of (by rw [upd_same, List.map_append] <;> rfl)), hz.1, hz.2⟩
abbrev nLaw_word_bent : List Str := ["_law_m", "_law_sheet", "_law_words", "_law_k", "_law_some", "_law_fresh"]
theorem scLaw_word_bent : FnScope nLaw_word_bent ["_law_m", "_law_sheet"] (defScope (top 62)) := ⟨rfl, rfl, rfl, by decide +kernel, rfl, by decide +kernel, by decide +kernel⟩
theorem ok_law_word_bent (T : Txt K mg) : FnOk PR w K mg base CX0 3 (ga K "_law_word_bent") (fdOf K "_law_word_bent") ["_law_m", "_law_sheet"] spWordBent := by
  refine T.d_law_word_bent.F.ok scLaw_word_bent (fun vs H Q E h => ?_) (fun cdv A outer s H vs Q E hr h => ?_)
  · obtain ⟨am, ac, ag, b, x, rfl, _⟩ := h
    rfl
  refine ⟨_, (pss_cons (ps_set (i := 2) scLaw_word_bent.nd rfl (Or.inl rfl) (pe_split (pv 1) pe_str))
    (pss_cons (ps_set (i := 3) scLaw_word_bent.nd rfl (Or.inl rfl) (pe_call (ok_law_draw T) (hr.mono (by decide)) rfl T.d_law_draw.g T.d_law_draw.kp (bd_law_draw T) .nil pass0 (pa_cons (pv 0) (pa_cons (pe_callB call_len rfl T.f_len (by decide +kernel) (pa_cons (pv 2) pa_nil)) pa_nil))))
    (pss_cons (ps_set (i := 4) scLaw_word_bent.nd rfl (Or.inl rfl) (pe_lst (pa_cons pe_str (pa_cons pe_str (pa_cons pe_str (pa_cons pe_str (pa_cons pe_str (pa_cons pe_str (pa_cons pe_str (pa_cons pe_str (pa_cons pe_str (pa_cons pe_str (pa_cons pe_str (pa_cons pe_str (pa_cons pe_str pa_nil)))))))))))))))
    (pss_cons (ps_set (i := 5) scLaw_word_bent.nd rfl (Or.inl rfl) (pe_ix ix_list (pv 4) (pe_call (ok_law_draw T) (hr.mono (by decide)) rfl T.d_law_draw.g T.d_law_draw.kp (bd_law_draw T) .nil pass0 (pa_cons (pv 0) (pa_cons pe_int pa_nil))) (fun _ _ => rfl)))
    (pss_one (ps_ret (pe_join pe_str (pe_op op_cat (pe_op op_cat (pe_slice sl_list (pv 2) po_none (po_some (pv 3))) (pe_op op_rep (pe_lst (pa_cons (pv 5) pa_nil)) (pe_op op_add pe_int (pe_call (ok_law_draw T) (hr.mono (by decide)) rfl T.d_law_draw.g T.d_law_draw.kp (bd_law_draw T) .nil pass0 (pa_cons (pv 0) (pa_cons pe_int pa_nil)))))) (pe_slice sl_list (pv 2) (po_some (pe_op op_add (pv 3) (pe_call (ok_law_draw T) (hr.mono (by decide)) rfl T.d_law_draw.g T.d_law_draw.kp (bd_law_draw T) .nil pass0 (pa_cons (pv 0) (pa_cons pe_int pa_nil))))) po_none))))))))), ?_⟩
  obtain ⟨am, ac, ag, b, x, rfl, M, hx, sx, q⟩ := h
  have sl : ∀ {n : Nat}, n ≤ 1000000 → n ≤ sizeLine := fun h => Nat.le_trans h (by decide)
  refine ⟨_, rfl, ⟨_, rfl⟩, _, _, rfl, rfl, rfl, sl (by omega), fun p hp => ?_⟩
  have e1 := Ex.new (o := .lst ((Txt.split x " ").map V.str)) hp
  have l1 : upd H p (.lst ((Txt.split x " ").map V.str)) p = some (.lst ((Txt.split x " ").map V.str)) := upd_same
  obtain ⟨k1, k2, k3⟩ := M.fm hp
  have hcnt := split_cnt cut_sp x
  have hne : 0 < (Txt.split x " ").length := by
    have := split_ne cut_sp x
    cases h : Txt.split x " " with
    | nil => exact absurd h this
    | cons a r => exact Nat.succ_pos _
  have hml : ((Txt.split x " ").map V.str).length = (Txt.split x " ").length := List.length_map _
  refine ⟨_, rfl, _, rfl, _, _, rfl, .inl ⟨_, SqL.of l1, rfl⟩, am, ac, ag, _, b + 3, rfl, M.ex e1, by rw [hml]; omega, by rw [hml]; omega, fun H2 r2 d2 M2 r20 r21 => ?_⟩
  have l2 := d2 _ _ k1 k3 l1
  refine ⟨szc rfl, fun p3 hp3 => ?_⟩
  have e3 := Ex.new (o := .lst ((["all", "any", "nested", "kept", "apart", "oust", "0", "1", "6", "7", "100", "x", ""] : List Str).map V.str)) hp3
  obtain ⟨j1, j2, j3⟩ := M2.fm hp3
  have l3 : upd H2 p3 (.lst ((["all", "any", "nested", "kept", "apart", "oust", "0", "1", "6", "7", "100", "x", ""] : List Str).map V.str)) p3 = some (.lst ((["all", "any", "nested", "kept", "apart", "oust", "0", "1", "6", "7", "100", "x", ""] : List Str).map V.str)) := upd_same
  refine ⟨_, rfl, _, rfl, am, ac, ag, _, b + 2, rfl, M2.ex e3, by decide, by decide, fun H4 r4 d4 M4 r40 r41 => ?_⟩
  obtain ⟨j, rfl⟩ := Int.eq_ofNat_of_zero_le r40
  have hj : j < (["all", "any", "nested", "kept", "apart", "oust", "0", "1", "6", "7", "100", "x", ""] : List Str).length := by
    show j < 13
    omega
  have hlen7 : ∀ u ∈ (["all", "any", "nested", "kept", "apart", "oust", "0", "1", "6", "7", "100", "x", ""] : List Str), u.length ≤ 7 ∧ Sg u := by
    intro u hu
    have h1 : ∀ u ∈ (["all", "any", "nested", "kept", "apart", "oust", "0", "1", "6", "7", "100", "x", ""] : List Str), u.length ≤ 7 ∧ (tl u).all (fun c => decide (c < 0x110000)) = true := by decide +kernel
    exact ⟨(h1 u hu).1, Sg.lit (h1 u hu).2⟩
  obtain ⟨fresh, hfr, hf7, hfs⟩ : ∃ u : Str, atI ((["all", "any", "nested", "kept", "apart", "oust", "0", "1", "6", "7", "100", "x", ""] : List Str).map V.str) ((j : Nat) : Int) = some (.str u) ∧ u.length ≤ 7 ∧ Sg u :=
    ⟨_, atI_nat (by rw [List.getElem?_map, List.getElem?_eq_getElem hj] <;> rfl), hlen7 _ (List.getElem_mem hj)⟩
  have l4 := d4 _ _ j1 j3 l3
  refine ⟨_, _, _, _, rfl, rfl, SqL.of l4, hfr, ?_⟩
  have lw4 := d4 _ _ k1 k3 (e3 _ _ l2)
  have D4 := (((Dw.ex e1).trans d2).trans (Dw.ex e3)).trans d4
  obtain ⟨q1, hq1, s1⟩ := cutV_strs (Txt.split x " ") none (some r2)
  refine ⟨⟨_, rfl⟩, _, rfl, _, rfl, _, rfl, _, _, rfl, SqL.of lw4, fun t1 ht1 => ?_⟩
  rw [hq1]
  have f1 := Ex.new (o := .lst (q1.map V.str)) ht1
  refine ⟨_, rfl, szc rfl, fun t2 ht2 => ?_⟩
  have f2 := Ex.new (o := .lst [.str fresh]) ht2
  have f12 := f1.trans f2
  obtain ⟨a1, a2, a3⟩ := M4.fm ht1
  obtain ⟨b1, b2, b3⟩ := (M4.ex f1).fm ht2
  have lt1 := f2 _ _ (upd_same (H := H4) (a := t1) (o := .lst (q1.map V.str)))
  have lt2 : upd (upd H4 t1 (.lst (q1.map V.str))) t2 (.lst [.str fresh]) t2 = some (.lst [.str fresh]) := upd_same
  have lw5 := f12 _ _ lw4
  have M5 := M4.ex f12
  have D5 := D4.trans (Dw.ex f12)
  generalize upd (upd H4 t1 (.lst (q1.map V.str))) t2 (.lst [.str fresh]) = H5 at *
  refine ⟨_, rfl, am, ac, ag, _, b + 1, rfl, M5, by decide, by decide, fun H6 r6 d6 M6 r60 r61 => ?_⟩
  have lt1' := d6 _ _ a1 a3 lt1
  have lt2' := d6 _ _ b1 b3 lt2
  have lw6 := d6 _ _ k1 k3 lw5
  obtain ⟨n, hn⟩ : ∃ n : Nat, n = (1 + r6).toNat := ⟨_, rfl⟩
  refine ⟨_, _, rfl, rfl, _, _, _, rfl, rfl, lt2', by omega, by omega, sl (by show 1 * (1 + r6).toNat ≤ 1000000; omega), fun t3 ht3 => ?_⟩
  rw [← hn]
  have hrep : (List.replicate n [V.str fresh]).flatten = (List.replicate n fresh).map V.str := by
    have : n = 1 ∨ n = 2 := by omega
    rcases this with rfl | rfl <;> rfl
  rw [hrep]
  have f3 := Ex.new (o := .lst ((List.replicate n fresh).map V.str)) ht3
  refine ⟨_, _, _, _, rfl, rfl, f3 _ _ lt1', upd_same, sl (by rw [List.length_map, List.length_map, List.length_replicate]; have := s1.length_le; omega), fun t4 ht4 => ?_⟩
  have f4 := Ex.new (o := .lst (q1.map V.str ++ (List.replicate n fresh).map V.str)) ht4
  have f34 := f3.trans f4
  obtain ⟨c1, c2, c3⟩ := (M6.ex f3).fm ht4
  have lt4 : upd (upd H6 t3 (.lst ((List.replicate n fresh).map V.str))) t4 (.lst (q1.map V.str ++ (List.replicate n fresh).map V.str)) t4 = some (.lst (q1.map V.str ++ (List.replicate n fresh).map V.str)) := upd_same
  have lw7 := f34 _ _ lw6
  have M7 := M6.ex f34
  have D7 := (D5.trans d6).trans (Dw.ex f34)
  generalize upd (upd H6 t3 (.lst ((List.replicate n fresh).map V.str))) t4 (.lst (q1.map V.str ++ (List.replicate n fresh).map V.str)) = H7 at *
  refine ⟨_, rfl, _, rfl, _, rfl, am, ac, ag, _, b, rfl, M7, by decide, by decide, fun H8 r8 d8 M8 r80 r81 => ?_⟩
  have lt4' := d8 _ _ c1 c3 lt4
  have lw8 := d8 _ _ k1 k3 lw7
  obtain ⟨q2, hq2, s2⟩ := cutV_strs (Txt.split x " ") (some (r2 + r8)) none
  refine ⟨_, _, rfl, rfl, _, rfl, _, _, rfl, SqL.of lw8, fun t5 ht5 => ?_⟩
  rw [hq2]
  have f5 := Ex.new (o := .lst (q2.map V.str)) ht5
  have w1 := wt_sub s1
  have w2 := wt_sub s2
  have n1 := s1.length_le
  have n2 := s2.length_le
  have hn2 : n ≤ 2 := by omega
  refine ⟨_, _, _, _, rfl, rfl, f5 _ _ lt4', upd_same, sl (by rw [List.length_append, List.length_map, List.length_map, List.length_map, List.length_replicate]; omega), fun t6 ht6 => ?_⟩
  have hw : wt (Txt.split x " ") ≤ x.length + 1 := split_sum cut_sp x
  have hwr : wt (List.replicate n fresh) ≤ 16 := by
    have : n = 0 ∨ n = 1 ∨ n = 2 := by omega
    rcases this with rfl | rfl | rfl
    · exact Nat.zero_le _
    · show fresh.length + 1 + 0 ≤ 16
      omega
    · show fresh.length + 1 + (fresh.length + 1 + 0) ≤ 16
      omega
  have hsg : ∀ u ∈ q1 ++ List.replicate n fresh ++ q2, Sg u := fun u hu => by
    rcases List.mem_append.mp hu with hu | hu
    · rcases List.mem_append.mp hu with hu | hu
      · exact split_sg cut_sp (s1.subset hu) sx
      · rw [(List.mem_replicate.mp hu).2]
        exact hfs
    · exact split_sg cut_sp (s2.subset hu) sx
  have hW : wt (q1 ++ List.replicate n fresh ++ q2) ≤ 2 * x.length + 30 := by
    rw [wt_app, wt_app]
    omega
  have h1 := len_wt (q1 ++ List.replicate n fresh ++ q2)
  have h3 := join_len (y := " ") rfl (q1 ++ List.replicate n fresh ++ q2)
  have h4 : Sg " " := Sg.lit (by decide +kernel)
  have e9 := f5.trans (Ex.new (o := .lst (q1.map V.str ++ (List.replicate n fresh).map V.str ++ q2.map V.str)) ht6)
  refine ⟨_, _, q1 ++ List.replicate n fresh ++ q2, rfl, rfl, .inl (SqL.of (by rw [upd_same, List.map_append, List.map_append] <;> rfl)), ?_, q _ _ ((D7.trans d8).trans (Dw.ex e9)) (M8.ex e9) (h4.join hsg) (Nat.le_trans h3 hW)⟩
  have h2 : (" " : Str).length = 1 := rfl
  rw [h2]
  omega
end
end K95

set_option Elab.async false
set_option linter.all false
set_option maxRecDepth 100000
set_option maxHeartbeats 4000000
/-! What is said of a call; what is like what. -/
namespace K95
open PySem PySem.Spec PyProof.Rows L2
open Evl (Ex ex_l ex_t fresh_back)
open TL (tl)
open LamX
/-- data that may be shown -/
structure Shw (d : PyData) : Prop where
  sh : d.showable = true
  nd : d.hasDict = false
  dp : d.depth ≤ 50
  ln : d.shown.length ≤ sizeLine
def spLike (K : PySem.W.Frag) : Sp := fun vs H Q _ => ∃ (p q : Addr) (d : PyData), vs = [.ref p, .ref q] ∧ Dp K H (.ref p) d ∧ Dp K H (.ref q) d ∧ Shw d ∧ Q (.bl true) H
section
variable {w : World} {K : PySem.W.Frag} {mg : Str → Option Value} {base : Heap}
abbrev nLaw_like : List Str := ["_law_answer", "_law_due"]
theorem scLaw_like : FnScope nLaw_like ["_law_answer", "_law_due"] (defScope (top 49)) := ⟨rfl, rfl, rfl, by decide +kernel, rfl, by decide +kernel, by decide +kernel⟩
theorem ok_law_like (T : Txt K mg) : FnOkG PR w K mg base CX0 1 (ga K "_law_like") (fdOf K "_law_like") ["_law_answer", "_law_due"] (spLike K) := by
  refine FunD.okG T.d_law_like.F scLaw_like (fun vs H Q E h => ?_) (fun cdv A outer s H vs Q E _ hG hr h => ?_)
  · obtain ⟨p, q, d, rfl, _⟩ := h
    rfl
  refine ⟨_, (pss_one (ps_ret (pe_cmpR op_eq (pe_callB (call_repr hG hr.units) rfl T.f_repr (by decide +kernel) (pa_cons (pv 0) pa_nil)) (pe_callB (call_repr hG hr.units) rfl T.f_repr (by decide +kernel) (pa_cons (pv 1) pa_nil)) (nomark _)))), ?_⟩
  obtain ⟨p, q, d, rfl, h1, h2, s, q⟩ := h
  refine ⟨_, rfl, _, d, rfl, h1, s.sh, s.nd, s.dp, s.ln, _, rfl, _, d, rfl, h2, s.sh, s.nd, s.dp, s.ln, rfl, ?_⟩
  rw [decide_eq_true rfl]
  exact q
end
/-! ### _law_said -/
def ESaid (K : PySem.W.Frag) (Q : VK) : XK := fun cls d H =>
  (cls = .ref (ga K "BadHall") ∧ ∃ (dd : Addr) (v : V), d = some dd ∧ H dd = some (xdOf ["part"] [v]) ∧ ∀ p, H p = none → Q (.ref p) (upd H p (.tup [.str "hall", v]))) ∨
  (cls = .ref (ga K "BadRule") ∧ ∃ (dd : Addr) (v : V), d = some dd ∧ H dd = some (xdOf ["path"] [v]) ∧ ∀ p, H p = none → Q (.ref p) (upd H p (.tup [.str "rule", v]))) ∨
  (cls = .ref (ga K "BadText") ∧ ∃ (dd : Addr) (v u : V), d = some dd ∧ H dd = some (xdOf ["line", "word"] [v, u]) ∧ ∀ p, H p = none → Q (.ref p) (upd H p (.tup [.str "text", v, u])))
def QSaid (Q : VK) : VK := fun v H => ∀ p, H p = none → Q (.ref p) (upd H p (.lst [v]))
def TSaid (K : PySem.W.Frag) : (XK → Hp → VK → Prop) → Hp → VK → Prop := fun tl H Q => ∀ p0, H p0 = none → tl (ESaid K Q) (upd H p0 (.lst [])) (QSaid Q)
theorem takes_len {X : Cx} {W : WX} (t : Takes X W) : Takes X (fun c d σ H => σ.length = X.N.length → W c d σ H) := fun u s' ⟨a, B, sI, pins, σ, H, cls, d, e, I, nb, up, sky, na, os, ag, w⟩ =>
  t u s' ⟨a, B, sI, pins, σ, H, cls, d, e, I, nb, up, sky, na, os, ag, w I.len⟩
abbrev nLaw_said : List Str := ["_law_call", "_law_told_so", "e"]
theorem scLaw_said : FnScope nLaw_said ["_law_call"] (defScope (top 55)) := ⟨rfl, rfl, rfl, by decide +kernel, rfl, by decide +kernel, by decide +kernel⟩
theorem xf_of {K : PySem.W.Frag} {C fI : Addr} (c : SupX.SupC PR K C fI) : XfC K C := ⟨c.ga, c.gg, c.exC, c.hdC⟩
theorem pss_imp {X : Cx} {b : List Stmt} {t t' : TS} (h : PSs X b t) (i : ∀ D σ H, t' D σ H → t D σ H) : PSs X b t' := ⟨fun pins s σ H D I h' => h.run pins s σ H D I (i _ _ _ h')⟩
theorem pe_ex {X : Cx} {e : Expr} {C : XK → Prop} {te : XK → TE} (h : ∀ E, C E → PE X e (te E)) : PE X e (fun σ H Q => ∃ (E : XK) (Qv : VK), C E ∧ te E σ H Qv ∧ ∀ v H1, Qv v H1 → Q v H1) :=
  ⟨fun pins s σ H Q I ⟨E, Qv, c, t, i⟩ => wpAny_mono ((h E c).run pins s σ H Qv I t) (fun v s' ⟨x, H', I', r, q⟩ => ⟨x, H', I', r, i _ _ q⟩) (fun _ _ z => z)⟩
theorem look_two (v u : V) : List.lookup ("line" : Str) [(("word" : Str), u), (("line" : Str), v)] = some v := by
  have h : (("line" : Str) == ("word" : Str)) = false := by decide +kernel
  simp [List.lookup, h]
theorem no_suite {X : Cx} {b : List Stmt} : PSs X b (fun _ _ _ => False) := ⟨fun _ _ _ _ _ _ h => h.elim⟩
theorem said_gives {X : Cx} (T : Txt X.K X.mg) (cdg : Value) (q : Str) : GivesTo X nLaw_said "_law_said" (defScope (top 55)) (ga X.K "_law_said") cdg (defBody (top 55)) "_law_call" q (TSaid X.K) := by
  intro f c' s H Q tl act hc h
  refine ⟨_, pss_cons (ps_set (i := 1) scLaw_said.nd rfl (Or.inl rfl) (pe_lst pa_nil)) (pss_cons (ps_try_manyAs (n := "e") (i := 2)
    (tb := fun W D σ H => ∃ (Ech : XK) (Qv : VK), (∀ cls d σ' H', Ech cls d H' → σ'.length = 3 → W cls d σ' H') ∧ σ[0]? = some (some (.ref f)) ∧ H c' = some (CodeO c' q) ∧ tl Ech H Qv ∧ ∀ v H1, Qv v H1 → [v].length ≤ sizeLine ∧ ∀ p, H1 p = none → D.nx (σ.set 1 (some (.ref p))) (upd H1 p (.lst [v])))
    rfl rfl scLaw_said.nd rfl rfl (fun W pn xe tk _ => ?_)
    (.cons ⟨rfl, by decide, .inl T.xHall.g⟩ (fun a oe cls d pn hz hf => pss_one (ps_set (i := 1) scLaw_said.nd rfl (Or.inl rfl) (pe_tup (pa_cons pe_str (pa_cons (pe_xf (xf_of T.xHall.c) (T.xHall.no "part" (by simp)) hz hf (pv 2)) pa_nil)))))
    (.cons ⟨rfl, by decide, .inl T.xRule.g⟩ (fun a oe cls d pn hz hf => pss_one (ps_set (i := 1) scLaw_said.nd rfl (Or.inl rfl) (pe_tup (pa_cons pe_str (pa_cons (pe_xf (xf_of T.xRule.c) (T.xRule.no "path" (by simp)) hz hf (pv 2)) pa_nil)))))
    (.cons ⟨rfl, by decide, .inl T.gBadCall⟩ (fun a oe cls d pn hz hf => no_suite)
    (.cons ⟨rfl, by decide, .inl T.gBadNumber⟩ (fun a oe cls d pn hz hf => no_suite)
    (.cons ⟨rfl, by decide, .inl T.gBadPlan⟩ (fun a oe cls d pn hz hf => no_suite)
    (.cons ⟨rfl, by decide, .inl T.gBadShare⟩ (fun a oe cls d pn hz hf => no_suite)
    (.cons ⟨rfl, by decide, .inl T.gBadLog⟩ (fun a oe cls d pn hz hf => no_suite)
    (.cons ⟨rfl, by decide, .inl T.gBadPaper⟩ (fun a oe cls d pn hz hf => no_suite)
    (.cons ⟨rfl, by decide, .inl T.xText.g⟩ (fun a oe cls d pn hz hf => pss_one (ps_set (i := 1) scLaw_said.nd rfl (Or.inl rfl) (pe_tup (pa_cons pe_str (pa_cons (pe_xf (xf_of T.xText.c) (T.xText.no "line" (by simp)) hz hf (pv 2)) (pa_cons (pe_xf (xf_of T.xText.c) (T.xText.no "word" (by simp)) hz hf (pv 2)) pa_nil))))))
    (.cons ⟨rfl, by decide, .inl T.gTooGreat⟩ (fun a oe cls d pn hz hf => no_suite) .nil))))))))))) (pss_one (ps_ret (pv 1)))), ?_⟩
  · refine pss_imp (pss_one (ps_set (i := 1) scLaw_said.nd rfl (Or.inl rfl) (pe_lst (pa_cons (pe_ex (C := fun Ech => ∀ cls d σ' H', Ech cls d H' → σ'.length = 3 → W cls d σ' H') fun Ech hW => act _ pn xe Ech _ _ (takes_len tk) hW) pa_nil)))) (fun D σ H' h' => ?_)
    obtain ⟨Ech, Qv, hW, h1, h2, h3, h4⟩ := h'
    exact ⟨Ech, Qv, hW, ⟨h1, h2, h3⟩, h4⟩
  · refine ⟨by decide, fun p0 hp0 => ?_⟩
    have e0 := Ex.new (o := .lst []) hp0
    refine ⟨ESaid X.K Q, QSaid Q, fun cls d σ' H' he hl => ?_, rfl, e0 _ _ hc, h p0 hp0, fun v H1 hq => ⟨szc rfl, fun p hp => ⟨_, rfl, hq p hp⟩⟩⟩
    match σ', hl with
    | [x0, x1, x2], _ =>
    rcases he with ⟨rfl, dd, v, rfl, hd, hq⟩ | ⟨rfl, dd, v, rfl, hd, hq⟩ | ⟨rfl, dd, v, u, rfl, hd, hq⟩
    · refine ⟨true, T.exm ("BadHall", 1) (by simp) "BadHall" (by decide +kernel), fun _ a ha => ?_, fun z => by cases z⟩
      exact ⟨_, rfl, rfl, rfl, dd, _, v, rfl, hd, rfl, szc rfl, fun p hp => ⟨_, rfl, hq p hp⟩⟩
    · refine ⟨false, T.exm ("BadRule", 2) (by simp) "BadHall" (by decide +kernel), fun z => (by cases z), fun _ => ?_⟩
      refine ⟨true, T.exm ("BadRule", 2) (by simp) "BadRule" (by decide +kernel), fun _ a ha => ?_, fun z => by cases z⟩
      exact ⟨_, rfl, rfl, rfl, dd, _, v, rfl, hd, rfl, szc rfl, fun p hp => ⟨_, rfl, hq p hp⟩⟩
    · have hx := T.exm ("BadText", 9) (by simp)
      refine ⟨false, hx "BadHall" (by decide +kernel), fun z => (by cases z), fun _ => ?_⟩
      refine ⟨false, hx "BadRule" (by decide +kernel), fun z => (by cases z), fun _ => ?_⟩
      refine ⟨false, hx "BadCall" (by decide +kernel), fun z => (by cases z), fun _ => ?_⟩
      refine ⟨false, hx "BadNumber" (by decide +kernel), fun z => (by cases z), fun _ => ?_⟩
      refine ⟨false, hx "BadPlan" (by decide +kernel), fun z => (by cases z), fun _ => ?_⟩
      refine ⟨false, hx "BadShare" (by decide +kernel), fun z => (by cases z), fun _ => ?_⟩
      refine ⟨false, hx "BadLog" (by decide +kernel), fun z => (by cases z), fun _ => ?_⟩
      refine ⟨false, hx "BadPaper" (by decide +kernel), fun z => (by cases z), fun _ => ?_⟩
      refine ⟨true, hx "BadText" (by decide +kernel), fun _ a ha => ?_, fun z => by cases z⟩
      exact ⟨_, rfl, rfl, rfl, dd, _, v, rfl, hd, look_two v u, _, rfl, rfl, rfl, dd, _, u, rfl, hd, rfl, szc rfl, fun p hp => ⟨_, rfl, hq p hp⟩⟩
end K95

set_option Elab.async false
set_option linter.all false
set_option maxRecDepth 100000
set_option maxHeartbeats 4000000
/-! Where a lambda is made, all but the tables stays; what may be shown. -/
namespace K95
open PySem PySem.Spec PyProof.Rows L2
open Evl (Ex ex_l ex_t fresh_back)
open TL (tl)
open LamX
section
variable {K : PySem.W.Frag} {H H' H1 : Hp}
theorem en_t (e : ExtN H H') {a : Addr} {xs : List V} (h : SqT K H a xs) : SqT K H' a xs := by
  rcases h with (h | ⟨o, h⟩) | h
  · exact .inl (.inl (e _ _ h fun ps z => by cases z))
  · exact .inl (.inr ⟨o, e _ _ h fun ps z => by cases z⟩)
  · exact .inr h
theorem en_l (e : ExtN H H') {a : Addr} {xs : List V} (h : SqL K H a xs) : SqL K H' a xs := by
  rcases h with (h | ⟨o, h⟩) | h
  · exact .inl (.inl (e _ _ h fun ps z => by cases z))
  · exact .inl (.inr ⟨o, e _ _ h fun ps z => by cases z⟩)
  · exact .inr h
mutual
theorem Dp.en (e : ExtN H H') : ∀ {v : V} {d : PyData}, Dp K H v d → Dp K H' v d
  | _, _, .non => .non
  | _, _, .bl b => .bl b
  | _, _, .int i => .int i
  | _, _, .str x => .str x
  | _, _, .lst h1 h2 => .lst (en_l e h1) (DpAll.en e h2)
  | _, _, .tup h1 h2 => .tup (en_t e h1) (DpAll.en e h2)
theorem DpAll.en (e : ExtN H H') : ∀ {vs : List V} {ds : List PyData}, DpAll K H vs ds → DpAll K H' vs ds
  | _, _, .nil => .nil
  | _, _, .cons h1 h2 => .cons (Dp.en e h1) (DpAll.en e h2)
end
theorem en_lst (e : ExtN H H') {a : Addr} {xs : List V} (h : H a = some (.lst xs)) : H' a = some (.lst xs) := e _ _ h fun ps z => by cases z
theorem Mach.en {am ac ag : Addr} {b : Nat} (h : Mach H am ac ag b) (e : ExtN H H') : Mach H' am ac ag b :=
  ⟨let ⟨n, h1, h2⟩ := h.d; ⟨n, h1, e _ _ h2 fun ps z => by cases z⟩, let ⟨cs, h1, h2⟩ := h.c; ⟨cs, en_lst e h1, h2⟩, let ⟨cs, h1, h2⟩ := h.g; ⟨cs, en_lst e h1, h2⟩, h.mc, h.mg, h.cg⟩
theorem Odd.en {v : V} (e : ExtN H H') (o : Odd K H v) : Odd K H' v := by
  rcases o with rfl | ⟨i, rfl⟩ | ⟨b, rfl⟩ | ⟨a, rfl, hS⟩ | ⟨a, rfl, hS⟩
  · exact .inl rfl
  · exact .inr (.inl ⟨i, rfl⟩)
  · exact .inr (.inr (.inl ⟨b, rfl⟩))
  · exact .inr (.inr (.inr (.inl ⟨a, rfl, en_t e hS⟩)))
  · exact .inr (.inr (.inr (.inr ⟨a, rfl, en_l e hS⟩)))
/-- all but lists and dicts stays -/
def Nl (H H' : Hp) : Prop := ∀ b o, H b = some o → (∀ xs, o ≠ .lst xs) → (∀ kvs, o ≠ .dK kvs) → H' b = some o
theorem Nl.of (e : Ex H H') : Nl H H' := fun b o h _ _ => e b o h
theorem Nl.dw {am ac ag : Addr} {b : Nat} (d : Dw am ag H H') (M : Mach H am ac ag b) : Nl H H' := fun p o h h1 h2 => by
  obtain ⟨n, _, e1⟩ := M.d
  obtain ⟨gs, e3, _⟩ := M.g
  refine d p o (fun z => ?_) (fun z => ?_) h
  · rw [z, e1] at h
    exact h2 _ (Option.some.inj h).symm
  · rw [z, e3] at h
    exact h1 _ (Option.some.inj h).symm
theorem Nl.upd {a : Addr} {xs : List V} {o : HO} (h : H a = some (.lst xs)) : Nl H (upd H a o) := fun p u hp h1 h2 => by
  rw [upd_ne]
  · exact hp
  · intro z
    rw [z, h] at hp
    exact h1 _ (Option.some.inj hp).symm
theorem TabS.nl {P : Addr} {q : Str} (e : Nl H H') (h : TabS H P q) : TabS H' P q := by
  obtain ⟨ps, h1, h2, h3⟩ := h
  refine ⟨ps, e _ _ h1 (fun _ z => by cases z) (fun _ z => by cases z), h2, fun pos cv hc => ?_⟩
  obtain ⟨c, rfl, hc2⟩ := h3 pos cv hc
  exact ⟨c, rfl, e _ _ hc2 (fun _ z => by cases z) (fun _ z => by cases z)⟩
theorem Tabs.nl {T : List (Addr × Str)} (e : Nl H H') (h : Tabs T H) : Tabs T H' := fun p hp => TabS.nl e (h p hp)
end
/-! ### a def's code object -/
theorem code_at {K : PySem.W.Frag} {mg : Str → Option Value} {x : Str} {i : Nat} (d : DF K mg x i) {cdv : Value} (e : (fdOf K x).code = cdv) : cdv = .ref (He.codeOf K (x, none)) := by
  obtain ⟨oc, od, dV, kV, doc, pm, an, cdv', ct, osl, e1, lk, hcd, _⟩ := d.F.ex
  obtain ⟨c, rfl⟩ := He.codeIn_ref hcd
  have e2 : (fdOf K x).code = .ref c := by rw [e1] <;> rfl
  rw [e2] at e
  have lk' : K.lookup (He.fAd K (x, none)) = some ⟨oc, od, .func (fdOf K x), osl⟩ := lk
  rw [← e, He.codeOf_eq lk' e2]
/-- _law_said(lambda: body) -/
theorem pe_said {X : Cx} (T : Txt X.K X.mg) {Tb : List (Addr × Str)} {c P : Addr} {k : Nat} {params : Arguments} {body : Expr} {scope : Scope} {t : XK → TE} {p lpos pos : Pos}
    (TB : TabB X.base X.mg c P) (hcode : X.env.code = .ref c) (hmT : (P, X.env.qual ++ "<lambda>") ∈ Tb) (hu : ∀ p ∈ Tb, p.1 = P → p.2 = X.env.qual ++ "<lambda>") (hr : Room (k + 2) X.A) (L : LamS X.env.scope scope)
    (hbody : ∀ (A : Around) (outer : List Env) (s : Shared) (H : Hp) (E : XK) (f c' : Addr), Room k (A.deeper (lamEnv X scope s.heap.objs.size f c')) → PE (lamCx X A outer s H E scope f c') body (t E))
    (hg : Gl X "_law_said" := by rfl) (hdef : defaultsOf params X.env = ([], []) := by rfl)
    (hbind : ∀ (q : Str) (cl : List (Str × Addr)) (pm cv ctv : Value), bindArgs (PySem.W.kla_fn "<lambda>" q params body scope cl pm cv ctv) ⟨[], []⟩ = pure [] := by intros; rfl) :
    PE X (.Call (.Name "_law_said" p) [.Lambda params body scope lpos] [] pos) (tLam Tb (TSaid X.K) t) := by
  obtain ⟨oc, od, dV, kV, doc, pm, an, cdv, ct, osl, e1, lk, hcd, _, _⟩ := T.d_law_said.F.ex
  have hb := bd_law_said T
  rw [e1] at lk hb
  exact pe_lamcall (a := "_law_call") hg T.d_law_said.g T.d_law_said.kp lk hcd hb scLaw_said rfl (Or.inl rfl) (said_gives T cdv _) TB hcode hmT hu hr L hdef hbind hbody
theorem passF {P : Program} {w : World} {X : Cx} : Passes (L2.CX P w) X (fun _ _ _ => False) := fun _ _ _ _ _ _ _ ⟨_, _, _, _, _, _, _, _, _, _, _, _, z⟩ => z.elim
/-! ### what may be shown -/
theorem num_short {n : Int} (h : 0 ≤ n ∧ n < 10000000) : (PyData.shown (.int n)).length ≤ 13 := by
  have := PyProof.Rows.toString_length_le (v := n) h.1 (k := 7) (by decide) (by omega)
  show (Str.ofString (toString n)).length ≤ 13
  omega
theorem num_wt {n : Int} (h : 0 ≤ n ∧ n < 10000000) : PyData.weight (.int n) ≤ 24 := by
  have h2 : n.natAbs < 2 ^ 24 := by omega
  show (if n == 0 then 0 else n.natAbs.log2 + 1) ≤ 24
  by_cases hz : n = 0
  · subst hz
    decide
  · have h0 : n.natAbs ≠ 0 := by omega
    have := (Nat.log2_lt h0).mpr h2
    rw [if_neg (by simpa using hz)]
    omega
/-- small ints, texts of few signs within, a bound on the weight -/
structure Sml (d : PyData) (wt dp : Nat) : Prop where
  lay : d.canLay0 = true
  sh : d.showable = true
  it : d.intsShort 13 = true
  w : d.weight ≤ wt
  d : d.depth ≤ dp
structure Smls (ds : List PyData) (wt dp : Nat) : Prop where
  lay : PyData.canLayAll0 ds = true
  sh : PyData.showableAll ds = true
  it : PyData.intsShortAll 13 ds = true
  w : PyData.weightAll ds ≤ wt
  d : PyData.depthAll ds ≤ dp
theorem Smls.nil : Smls [] 0 0 := ⟨rfl, rfl, rfl, Nat.le_refl _, Nat.le_refl _⟩
theorem Smls.cons {d : PyData} {ds : List PyData} {a b m : Nat} (h : Sml d a m) (t : Smls ds b m) : Smls (d :: ds) (a + 1 + b) m :=
  ⟨by simp only [PyData.canLayAll0, h.lay, t.lay, Bool.and_self], by simp only [PyData.showableAll, h.sh, t.sh, Bool.and_self], by simp only [PyData.intsShortAll, h.it, t.it, Bool.and_self],
    by have := h.w; have := t.w; simp only [PyData.weightAll]; omega, by have := h.d; have := t.d; simp only [PyData.depthAll]; omega⟩
theorem Smls.mono {ds : List PyData} {a b m n : Nat} (h : Smls ds a m) (h1 : a ≤ b) (h2 : m ≤ n) : Smls ds b n := ⟨h.lay, h.sh, h.it, Nat.le_trans h.w h1, Nat.le_trans h.d h2⟩
theorem Sml.mono {d : PyData} {a b m n : Nat} (h : Sml d a m) (h1 : a ≤ b) (h2 : m ≤ n) : Sml d b n := ⟨h.lay, h.sh, h.it, Nat.le_trans h.w h1, Nat.le_trans h.d h2⟩
theorem Sml.tup {ds : List PyData} {a m : Nat} (t : Smls ds a m) : Sml (.tuple ds) a (m + 1) :=
  ⟨by simp only [PyData.canLay0, t.lay], by simp only [PyData.showable, t.sh], by simp only [PyData.intsShort, t.it], by simp only [PyData.weight]; exact t.w, by have := t.d; simp only [PyData.depth]; omega⟩
theorem Sml.lst {ds : List PyData} {a m : Nat} (t : Smls ds a m) : Sml (.list ds) a (m + 1) :=
  ⟨by simp only [PyData.canLay0, t.lay], by simp only [PyData.showable, t.sh], by simp only [PyData.intsShort, t.it], by simp only [PyData.weight]; exact t.w, by have := t.d; simp only [PyData.depth]; omega⟩
theorem Sml.int {n : Int} (h : 0 ≤ n ∧ n < 10000000) : Sml (.int n) 24 0 :=
  ⟨rfl, by simp only [PyData.showable]; exact decide_eq_true (log_small h.1 h.2), by simp only [PyData.intsShort]; exact decide_eq_true (num_short h), num_wt h, Nat.le_refl _⟩
theorem Sml.str {x : Str} (h : Sg x) {n : Nat} (hl : x.length ≤ n) : Sml (.str x) n 0 := ⟨h.lay, rfl, rfl, hl, Nat.le_refl _⟩
theorem Sml.non : Sml .none 0 0 := ⟨rfl, rfl, rfl, Nat.le_refl _, Nat.le_refl _⟩
theorem Sml.shw {d : PyData} {a m : Nat} (h : Sml d a m) (ha : a ≤ 100000) (hm : m ≤ 50) : Shw d := by
  refine ⟨h.sh, PyData.hasDict_of_canLay d h.lay, Nat.le_trans h.d hm, ?_⟩
  have h1 := PyData.shown_le 13 (by decide) d (PyData.leavesShort_of_canLay0 13 d h.lay h.it)
  have h2 := h.w
  have h3 : (13 + 2) * d.weight ≤ 15 * 100000 := Nat.mul_le_mul (by decide) (by omega)
  exact Nat.le_trans h1 (Nat.le_trans (show (13 + 2) * d.weight + 13 ≤ 2000000 by omega) (by decide))
theorem smls_ints : ∀ {ns : List Int}, (∀ n ∈ ns, 0 ≤ n ∧ n < 10000000) → Smls (dIs ns) (25 * ns.length) 0
  | [], _ => .nil
  | n :: ns, h => (Smls.cons (Sml.int (h n List.mem_cons_self)) (smls_ints fun m hm => h m (List.mem_cons_of_mem _ hm))).mono (by rw [List.length_cons]; omega) (Nat.le_refl _)
theorem Rl.sml {nf : Nat} : ∀ {r : Rl}, r.Wf nf → Sml r.d (r.size * (25 * nf + 40)) (r.size + 1)
  | .pl w ns, h => by
    have hw : ∀ w ∈ plW, w.length ≤ 7 ∧ (tl w).all (fun c => decide (c < 0x110000)) = true := by decide +kernel
    obtain ⟨h1, h2, h3⟩ := h
    have hl := (hw w h1).1
    have hs : Sg w := Sg.lit (hw w h1).2
    refine (Sml.tup (Smls.cons (Sml.str hs hl |>.mono (Nat.le_refl _) (Nat.zero_le 1)) (Smls.cons (Sml.tup (smls_ints h3)) (Smls.nil.mono (Nat.le_refl _) (Nat.zero_le 1))))).mono ?_ (Nat.le_refl _)
    show 7 + 1 + (25 * ns.length + 1 + 0) ≤ 1 * (25 * nf + 40)
    rw [h2]
    omega
  | .cb w a b, h => by
    have hw : ∀ w ∈ cbW, w.length ≤ 7 ∧ (tl w).all (fun c => decide (c < 0x110000)) = true := by decide +kernel
    obtain ⟨h1, h2, h3⟩ := h
    have hl := (hw w h1).1
    have hs : Sg w := Sg.lit (hw w h1).2
    have ha := Rl.sml h2
    have hb := Rl.sml h3
    have hsz : (Rl.cb w a b).size = 1 + a.size + b.size := rfl
    refine (Sml.tup (Smls.cons (Sml.str hs hl |>.mono (Nat.le_refl _) (Nat.zero_le (a.size + b.size + 1))) (Smls.cons (ha.mono (Nat.le_refl _) (by omega)) (Smls.cons (hb.mono (Nat.le_refl _) (by omega)) (Smls.nil.mono (Nat.le_refl _) (Nat.zero_le _)))))).mono ?_ (by rw [hsz]; omega)
    rw [hsz, Nat.add_mul, Nat.add_mul]
    omega
  | .ou a fee, h => by
    have ha := Rl.sml h.1
    have hs : Sg "oust" := Sg.lit (by decide +kernel)
    have hsz : (Rl.ou a fee).size = 1 + a.size := rfl
    have hl : ("oust" : Str).length ≤ 4 := by decide +kernel
    refine (Sml.tup (Smls.cons (Sml.str hs hl |>.mono (Nat.le_refl _) (Nat.zero_le (a.size + 1))) (Smls.cons ha (Smls.cons ((Sml.int h.2).mono (Nat.le_refl _) (Nat.zero_le _)) (Smls.nil.mono (Nat.le_refl _) (Nat.zero_le _)))))).mono ?_ (by rw [hsz]; omega)
    rw [hsz, Nat.add_mul]
    omega
theorem badF_path {s : Int} : ∀ (f : Nat) (st : List (Rl × List Int)) (p : List Int), (∀ q ∈ st, q.2.length ≤ 4 ∧ ∀ n ∈ q.2, 0 ≤ n ∧ n < 10000000) → badF s f st = some p → p.length ≤ 4 ∧ ∀ n ∈ p, 0 ≤ n ∧ n < 10000000
  | 0, _, _, _, e => by cases e
  | f + 1, [], _, _, e => by cases e
  | f + 1, (r, u) :: st, p, h, e => by
    have hu : u.length ≤ 4 ∧ ∀ n ∈ u, 0 ≤ n ∧ n < 10000000 := h (r, u) List.mem_cons_self
    have e' : (if u.length > 3 ∨ r.word s (decide (u = [])) = false then some u else badF s f (r.kids u ++ st)) = some p := e
    by_cases c : u.length > 3 ∨ r.word s (decide (u = [])) = false
    · rw [if_pos c] at e'
      rw [← Option.some.inj e']
      exact hu
    · rw [if_neg c] at e'
      have h3 : u.length ≤ 3 := by
        by_cases z : u.length > 3
        · exact absurd (.inl z) c
        · omega
      refine badF_path f _ p (fun q hq => ?_) e'
      have one : ∀ j : Int, 0 ≤ j ∧ j < 10000000 → (u ++ [j]).length ≤ 4 ∧ ∀ n ∈ u ++ [j], 0 ≤ n ∧ n < 10000000 := fun j hj => by
        refine ⟨by rw [List.length_append, List.length_singleton]; omega, fun n hn => ?_⟩
        rcases List.mem_append.mp hn with hn | hn
        · exact hu.2 n hn
        · rw [List.mem_singleton.mp hn]
          exact hj
      rcases List.mem_append.mp hq with hq | hq
      · cases r with
        | pl w ns => cases hq
        | cb w a b =>
          rcases List.mem_cons.mp hq with rfl | hq
          · exact one 1 (by decide)
          · rw [List.mem_singleton.mp hq]
            exact one 2 (by decide)
        | ou a fee =>
          rw [List.mem_singleton.mp hq]
          exact one 1 (by decide)
      · exact h q (List.mem_cons_of_mem _ hq)
theorem firstBad_le {ws : List Str} : ∀ {p n e : Nat}, firstBad ws p n = some e → e ≤ ws.length
  | _, 0, _, h => by cases h
  | p, n + 1, e, h => by
    unfold firstBad at h
    by_cases c : badAt ws p = true
    · rw [if_pos c] at h
      have := Option.some.inj h
      omega
    · rw [if_neg c] at h
      exact firstBad_le h
theorem parse_err : ∀ {f : Nat} {ws : List Str} {k nf m e : Nat}, k ≤ ws.length → m ≤ 7 → parse f ws k nf m = .error e → e ≤ ws.length
  | 0, _, k, _, _, e, hk, _, h => by
    have : k = e := by injection h
    omega
  | f + 1, ws, k, nf, m, e, hk, hm, h => by
    unfold parse at h
    cases hw : ws[k]? with
    | none =>
      rw [hw] at h
      have : k = e := by injection h
      omega
    | some w =>
      rw [hw] at h
      dsimp only at h
      have hkl : k < ws.length := (List.getElem?_eq_some_iff.mp hw).1
      by_cases c1 : w ∉ wnames ∨ m = 7
      · rw [if_pos c1] at h
        have : k = e := by injection h
        omega
      rw [if_neg c1] at h
      have hm7 : m ≠ 7 := fun z => c1 (.inr z)
      by_cases c2 : w ∈ cbW
      · rw [if_pos c2] at h
        cases ea : parse f ws (k + 1) nf (m + 1) with
        | error z =>
          rw [ea] at h
          have : z = e := by injection h
          rw [← this]
          exact parse_err (by omega) (by omega) ea
        | ok ra =>
          obtain ⟨a, ka, ma⟩ := ra
          rw [ea] at h
          dsimp only at h
          obtain ⟨a1, a2, a3, a4, a5⟩ := parse_ok (by omega) ea
          cases eb : parse f ws ka nf ma with
          | error z =>
            rw [eb] at h
            have : z = e := by injection h
            rw [← this]
            exact parse_err a2 a5 eb
          | ok rb =>
            obtain ⟨b, kb, mb⟩ := rb
            rw [eb] at h
            cases h
      · rw [if_neg c2] at h
        cases eb : firstBad ws (k + 1) (if w = "oust" then 1 else nf) with
        | some z =>
          rw [eb] at h
          have : z = e := by injection h
          rw [← this]
          exact firstBad_le eb
        | none =>
          rw [eb] at h
          dsimp only at h
          by_cases c3 : w = "oust"
          · rw [if_neg (fun z => z c3)] at h
            rw [if_pos c3] at eb
            obtain ⟨n1, n2⟩ := firstBad_none (by omega) eb
            cases ea : parse f ws (k + 2) nf (m + 1) with
            | error z =>
              rw [ea] at h
              have : z = e := by injection h
              rw [← this]
              exact parse_err (by omega) (by omega) ea
            | ok ra =>
              obtain ⟨a, ka, ma⟩ := ra
              rw [ea] at h
              cases h
          · rw [if_pos c3] at h
            cases h
/-- what is due may be shown -/
theorem due_shw (s : Int) {nf : Nat} (hn : nf ≤ 100) {x : Str} (hx : x.length ≤ 900000) : Shw (due s nf x).d := by
  have hr := (row0_b hx).1
  have tx : Sg "text" := Sg.lit (by decide +kernel)
  have tr : Sg "rule" := Sg.lit (by decide +kernel)
  have l4 : ("text" : Str).length ≤ 4 := by decide +kernel
  have r4 : ("rule" : Str).length ≤ 4 := by decide +kernel
  have text : ∀ l k : Nat, l ≤ 1000000 → k ≤ 1000000 → Shw (Rd.text l k).d := fun l k h1 h2 =>
    (Sml.tup (Smls.cons (Sml.str tx l4) (Smls.cons (Sml.int ⟨by omega, by omega⟩) (Smls.cons (Sml.int ⟨by omega, by omega⟩) Smls.nil)))).shw (by decide) (by decide)
  unfold due
  cases ep : parse 8 (row0 x) 0 nf 0 with
  | error e =>
    have := parse_err (Nat.zero_le _) (by omega) ep
    exact text 0 e (by omega) (by omega)
  | ok rr =>
    obtain ⟨r, k1, m1⟩ := rr
    obtain ⟨a1, a2, a3, a4, a5⟩ := parse_ok (by omega) ep
    dsimp only
    by_cases c1 : k1 < (row0 x).length
    · rw [if_pos c1]
      exact text 0 k1 (by omega) (by omega)
    rw [if_neg c1]
    by_cases c2 : 1 < (rowsOf x).length
    · rw [if_pos c2]
      exact text 1 0 (by decide) (by decide)
    rw [if_neg c2]
    cases hb : bad s r with
    | none =>
      have hs := Rl.sml a3
      have hz : r.size * (25 * nf + 40) ≤ 7 * 2540 := Nat.mul_le_mul (by omega) (by omega)
      exact (Sml.lst (Smls.cons (hs.mono hz (show r.size + 1 ≤ 8 by omega)) (Smls.nil.mono (Nat.le_refl _) (Nat.zero_le 8)))).shw (by decide) (by decide)
    | some p =>
      obtain ⟨p1, p2⟩ := badF_path 8 _ p (fun q hq => by rw [List.mem_singleton.mp hq]; exact ⟨Nat.zero_le _, fun n hn => by cases hn⟩) hb
      exact (Sml.tup (Smls.cons ((Sml.str tr r4).mono (Nat.le_refl _) (Nat.zero_le 1)) (Smls.cons ((Sml.tup (smls_ints p2)).mono (show 25 * p.length ≤ 100 by omega) (Nat.le_refl _)) (Smls.nil.mono (Nat.le_refl _) (Nat.zero_le 1))))).shw (by decide) (by decide)
end K95

set_option Elab.async false
set_option linter.all false
set_option maxRecDepth 100000
set_option maxHeartbeats 4000000
/-! The hall (1, (5,)): odd values, and texts told by hand. -/
namespace K95
open PySem PySem.Spec PyProof.Rows L2
open Evl (Ex ex_l ex_t fresh_back)
open TL (tl)
open LamX
/-- the tables of law and of _law_hand_right, with their lambdas' names -/
def TT (K : PySem.W.Frag) : List (Addr × Str) := [((cL K).2, (envOfC "law" (defScope (top 64)) 0 0 .none).qual ++ "<lambda>"), ((cR K).2, (envOfC "_law_hand_right" (defScope (top 63)) 0 0 .none).qual ++ "<lambda>")]
theorem tt_R {K : PySem.W.Frag} {mg : Str → Option Value} (T : Txt K mg) : ∀ p ∈ TT K, p.1 = (cR K).2 → p.2 = (envOfC "_law_hand_right" (defScope (top 63)) 0 0 .none).qual ++ "<lambda>" := fun p hp e => by
  rcases List.mem_cons.mp hp with rfl | hp
  · exact absurd e T.tne
  · rw [List.mem_singleton.mp hp]
theorem tt_L {K : PySem.W.Frag} {mg : Str → Option Value} (T : Txt K mg) : ∀ p ∈ TT K, p.1 = (cL K).2 → p.2 = (envOfC "law" (defScope (top 64)) 0 0 .none).qual ++ "<lambda>" := fun p hp e => by
  rcases List.mem_cons.mp hp with rfl | hp
  · rfl
  · rw [List.mem_singleton.mp hp] at e
    exact absurd e.symm T.tne
/-! ### what is said -/
section
variable {K : PySem.W.Frag} {H : Hp} {Q : VK}
theorem said_hall (q : ∀ H' u, Ex H H' → Dp K H' u (.tuple [.str "hall", .str "form"]) → Q u H') : Err K H (ESaid K Q) "BadHall" ["part"] [.str "form"] := fun H' d e hd =>
  .inl ⟨rfl, d, .str "form", rfl, hd, fun p hp => q _ _ (e.trans (Ex.new hp)) (tup_new hp (.cons (.str _) (.cons (.str _) .nil)))⟩
theorem said_rule {p : List Int} (q : ∀ H' u, Ex H H' → Dp K H' u (.tuple [.str "rule", .tuple (dIs p)]) → Q u H') : ErrP K H (ESaid K Q) p := fun H' d pa e hp hd =>
  .inr (.inl ⟨rfl, d, .ref pa, rfl, hd, fun t ht => q _ _ (e.trans (Ex.new ht)) (tup_new ht (.cons (.str _) (.cons (ints_dp hp) .nil)))⟩)
theorem said_text {v u : V} {dv du : PyData} (hv : ∀ H', Dp K H' v dv) (hu : ∀ H', Dp K H' u du) (q : ∀ H' u, Ex H H' → Dp K H' u (.tuple [.str "text", dv, du]) → Q u H') : Err K H (ESaid K Q) "BadText" ["line", "word"] [v, u] := fun H' d e hd =>
  .inr (.inr ⟨rfl, d, v, u, rfl, hd, fun t ht => q _ _ (e.trans (Ex.new ht)) (tup_new ht (.cons (.str _) (.cons (hv _) (.cons (hu _) .nil))))⟩)
theorem said_read {rd : Rd} (q : ∀ H' u, Ex H H' → Dp K H' u rd.d → Q u H') : readEnd K H (QSaid Q) (ESaid K Q) rd := by
  cases rd with
  | ok r => exact fun H' v e dv p hp => q _ _ (e.trans (Ex.new hp)) (lst_new hp (.cons dv .nil))
  | text l k => exact said_text (fun _ => .int _) (fun _ => .int _) q
  | rule p => exact said_rule q
end
theorem en_mut {H0 H : Hp} {a : Addr} {o : HO} (e : ExtN H0 H) (h : H0 a = none) : ExtN H0 (upd H a o) := fun b u hb hn => by
  rw [upd_ne (ne_of_none hb h)]
  exact e b u hb hn
theorem Dp.hall15 (K : PySem.W.Frag) : HallOk 1 [5] := ⟨by decide, by decide, by decide, by decide, fun f hf => by rw [List.mem_singleton.mp hf]; decide, rfl⟩
theorem en_mut2 {H0 H4 H8 : Hp} {a : Addr} {o : HO} (e4 : ExtN H0 H4) (h : H4 a = none) (e : ExtN H0 H8) : ExtN H0 (upd H8 a o) := fun b u hb hn => by
  rw [upd_ne (ne_of_none (e4 b u hb hn) h)]
  exact e b u hb hn
/-- all but the tables and D stays -/
def EnD (D : Addr) (H H' : Hp) : Prop := ∀ b o, b ≠ D → H b = some o → (∀ ps, o ≠ .tbl ps) → H' b = some o
theorem lc_en {J : It} {n : Nat} {G : Hp → Prop} {Y : Nat → Hp → V → Hp → Prop} {g : TG} {te : TE} {vs : List Nat} {σ : L2.St} {H1 : Hp} {D : Addr} {Qd : Hp → Prop} {Tb : List (Addr × Str)} (w : Walk J n G Y) (R : Nat → V → Hp → Prop) (hn : n ≤ 16000000) (hD : H1 D = none) (hT : Tabs Tb H1)
    (hG : ∀ H, ExtN H1 H → G H) (hR : ∀ i y H H', R i y H → EnD D H H' → (∃ acc, H' D = some (.lst acc)) → R i y H')
    (hs : ∀ i x H H' (k : VK), i < n → ExtN H1 H → Tabs Tb H → Y i H x H' → (∃ acc, H D = some (.lst acc)) → (∀ y H4, ExtN H H4 → Tabs Tb H4 → R i y H4 → k y H4) → g x (wipe σ vs) H' fun σ2 H2 => wipe σ2 vs = wipe σ vs ∧ te σ2 H2 k)
    (hd : ∀ H acc, ExtN H1 H → Tabs Tb H → H D = some (.lst acc) → acc.length = n → (∀ j y, acc[j]? = some y → R j y H) → Qd H) : LcBody J g tYes te vs σ H1 D Qd := by
  have enD : ∀ {H H' : Hp}, ExtN H H' → EnD D H H' := fun e b o _ h1 h2 => e b o h1 h2
  have enU : ∀ {H : Hp} {o : HO}, EnD D H (upd H D o) := fun b u n h1 _ => by rw [upd_ne n]; exact h1
  refine lc_it w (fun i H => ExtN H1 H ∧ Tabs Tb H ∧ ∃ acc : List V, H D = some (.lst acc) ∧ acc.length = i ∧ ∀ j y, acc[j]? = some y → R j y H) ⟨en_mut (ExtN.refl H1) hD, Tabs.ext hT (Ex.new hD), [], upd_same, rfl, fun j y e => by simp at e⟩ (fun i H _ p => hG H p.1) (fun i x H H' hi p y => ?_) (fun H p => ?_)
  · obtain ⟨e, t, acc, ha, hl, hr⟩ := p
    refine hs i x H H' _ hi e t y ⟨acc, ha⟩ fun y H4 e4 t4 r4 => ?_
    have ha4 := en_lst e4 ha
    refine ⟨acc, ha4, Nat.lt_of_lt_of_le (by omega : acc.length < 16000000) (by decide), en_mut (e.trans e4) hD, Tabs.nl (Nl.upd ha4) t4, acc ++ [y], upd_same, by simp [hl], fun j z hz => ?_⟩
    by_cases hj : j < acc.length
    · rw [List.getElem?_append_left hj] at hz
      exact hR j z _ _ (hR j z _ _ (hr j z hz) (enD e4) ⟨_, ha4⟩) enU ⟨_, upd_same⟩
    · rw [List.getElem?_append_right (by omega)] at hz
      have hj0 : j - acc.length = 0 := by
        by_cases h0 : j - acc.length = 0
        · exact h0
        · rw [List.getElem?_eq_none (by simp; omega)] at hz
          cases hz
      rw [hj0] at hz
      have ez : y = z := by simpa using hz
      have ej : j = i := by omega
      rw [← ez, ej]
      exact hR i y _ _ r4 enU ⟨_, upd_same⟩
  · obtain ⟨e, t, acc, ha, hl, hr⟩ := p
    exact hd H acc e t ha hl hr
/-- what is said, aside of D -/
def DpS (K : PySem.W.Frag) (H : Hp) (D : Addr) (u : V) (d : PyData) : Prop := (noL d = true ∧ Dp K H u d) ∨ ∃ (p : Addr) (v : V) (r : Rl), u = .ref p ∧ p ≠ D ∧ H p = some (.lst [v]) ∧ Dp K H v r.d ∧ d = .list [r.d]
theorem DpS.dp {K : PySem.W.Frag} {H : Hp} {D : Addr} {u : V} {d : PyData} (h : DpS K H D u d) : Dp K H u d := by
  rcases h with ⟨_, h⟩ | ⟨p, v, r, rfl, _, h1, h2, rfl⟩
  · exact h
  · exact .lst (SqL.of h1) (.cons h2 .nil)
theorem DpS.en {K : PySem.W.Frag} {H H' : Hp} {D : Addr} {u : V} {d : PyData} (hD : ∃ acc, H D = some (.lst acc)) (h : DpS K H D u d) (e : EnD D H H') : DpS K H' D u d := by
  obtain ⟨acc, hD⟩ := hD
  have tx : Tx H H' := fun b o ho hb => by
    refine e b o (fun z => ?_) hb (fun ps z => ?_)
    · rw [z, hD] at hb
      rcases ho with ⟨_, rfl⟩ | ⟨_, _, rfl⟩ <;> cases hb
    · rcases ho with ⟨_, rfl⟩ | ⟨_, _, rfl⟩ <;> cases z
  rcases h with ⟨h0, h⟩ | ⟨p, v, r, rfl, hp, h1, h2, rfl⟩
  · exact .inl ⟨h0, Dp.tx tx h0 h⟩
  · exact .inr ⟨p, v, r, rfl, hp, e _ _ hp h1 (fun _ z => by cases z), Dp.tx tx (Rl.noL r) h2, rfl⟩
theorem saidS_read {K : PySem.W.Frag} {H : Hp} {Q : VK} {D : Addr} {rd : Rd} (hD : ∃ acc, H D = some (.lst acc)) (q : ∀ H' u, Ex H H' → DpS K H' D u rd.d → Q u H') : readEnd K H (QSaid Q) (ESaid K Q) rd := by
  obtain ⟨acc, hD⟩ := hD
  cases rd with
  | ok r => exact fun H' v e dv p hp => q _ _ (e.trans (Ex.new hp)) (.inr ⟨p, v, r, rfl, (ne_of_none (e _ _ hD) hp).symm, upd_same, Dp.ex (Ex.new hp) dv, rfl⟩)
  | text l k => exact said_text (fun _ => .int _) (fun _ => .int _) fun H' u e du => q _ _ e (.inl ⟨rfl, du⟩)
  | rule p => exact said_rule fun H' u e du => q _ _ e (.inl ⟨by have := noLs_ints p; simp only [Rd.d, noL, noLs, this, Bool.and_self], du⟩)
def four : Str := "any any kept 0 kept 1 any kept 0 kept 1"
def hands : List Str := [four, "oust 9 " ++ four, "all kept 0 all kept 0 all kept 0 kept 0", "all kept 0 oust 1 kept 0", "all kept 0 all kept 0 all kept 0 all kept 0 kept 0", "oust 100 kept 0", "kept 2", "any kept 2 kept 0"]
def k0 : PyData := .tuple [.str "kept", .tuple [.int 0]]
def k1 : PyData := .tuple [.str "kept", .tuple [.int 1]]
def dues : List PyData := [.list [.tuple [.str "any", .tuple [.str "any", k0, k1], .tuple [.str "any", k0, k1]]], .tuple [.str "text", .int 0, .int 11],
  .list [.tuple [.str "all", k0, .tuple [.str "all", k0, .tuple [.str "all", k0, k0]]]], .tuple [.str "rule", .tuple [.int 2]], .tuple [.str "text", .int 0, .int 10],
  .tuple [.str "rule", .tuple []], .tuple [.str "rule", .tuple []], .tuple [.str "rule", .tuple [.int 1]]]
theorem hands_due : hands.map (fun x => (due 1 1 x).d) = dues := by
  kernel_rfl
theorem szc' {n : Nat} (h : Nat.ble (n + 1) 1000 = true) : n < sizeLine := Nat.lt_of_lt_of_le (Nat.le_of_ble_eq_true h) (by decide)
def spHand (K : PySem.W.Frag) : Sp := fun vs H Q _ => ∃ hv : V, vs = [hv] ∧ Dp K H hv (hallD 1 [5]) ∧ Tabs (TT K) H ∧ ∀ H', Q (.bl true) H'
section
variable {w : World} {K : PySem.W.Frag} {mg : Str → Option Value} {base : Heap}
abbrev nLaw_hand_right : List Str := ["_law_hall_so", "_law_odd", "_law_told_so", "_law_four", "_law_some", "_law_none", "_law_one", "_law_due", "_law_far"]
theorem scLaw_hand_right : FnScope nLaw_hand_right ["_law_hall_so"] (defScope (top 63)) := ⟨rfl, rfl, rfl, by decide +kernel, rfl, by decide +kernel, by decide +kernel⟩
theorem ok_hand_right (T : Txt K mg) (hTB : TabB base mg (cR K).1 (cR K).2) : FnOkG PR w K mg base CX0 17 (ga K "_law_hand_right") (fdOf K "_law_hand_right") ["_law_hall_so"] (spHand K) := by
  refine FunD.okG T.d_law_hand_right.F scLaw_hand_right (fun vs H Q E h => ?_) (fun cdv A outer s H vs Q E hcd hG hr h => ?_)
  · obtain ⟨hv, rfl, _⟩ := h
    rfl
  obtain rfl := code_at T.d_law_hand_right hcd
  refine ⟨_, (pss_cons (ps_for (passes_of rfl) rfl (pi_tup (pe_tup (pa_cons pe_non (pa_cons pe_int (pa_cons (pe_tup pa_nil) (pa_cons (pe_lst (pa_cons pe_str pa_nil)) (pa_cons pe_bl pa_nil))))))) (pg_name (i := 1) scLaw_hand_right.nd rfl (Or.inr rfl))
      (pss_cons (ps_set (i := 2) scLaw_hand_right.nd rfl (Or.inl rfl) (pe_lst (pa_cons (pe_said (k := 14) T hTB rfl (.tail _ (.head _)) (tt_R T) (hr.mono (by decide)) (lamS_by (sc := defScope (top 63)) (by decide +kernel)) (fun A outer s H E f c' hr' => (pe_call (ok_read_rule T) (hr'.mono (by decide)) rfl T.dread_rule.g T.dread_rule.kp (bdread_rule T) .nil (passes_call (takes_of rfl rfl rfl rfl) (fun _ _ _ _ h => h)) (pa_cons (pv 0) (pa_cons (pv 1) pa_nil))))) pa_nil)))
      (pss_cons (ps_expr (pe_bm PySem.F.plainAttrs_list PySem.F.slot_list_append PySem.F.type_list_append mt_append (pv 2) (pa_cons (pe_said (k := 14) T hTB rfl (.tail _ (.head _)) (tt_R T) (hr.mono (by decide)) (lamS_by (sc := defScope (top 63)) (by decide +kernel)) (fun A outer s H E f c' hr' => (pe_call (ok_read_rule T) (hr'.mono (by decide)) rfl T.dread_rule.g T.dread_rule.kp (bdread_rule T) .nil (passes_call (takes_of rfl rfl rfl rfl) (fun _ _ _ _ h => h)) (pa_cons (pv 1) (pa_cons pe_non pa_nil))))) pa_nil)))
      (pss_cons (ps_if (pt_not (pt_val (pe_callG (ok_law_like T) hG (hr.mono (by decide)) rfl T.d_law_like.g T.d_law_like.kp (bd_law_like T) pass0 (pa_cons (pv 2) (pa_cons (pe_lst (pa_cons (pe_tup (pa_cons pe_str (pa_cons pe_non (pa_cons pe_non pa_nil)))) (pa_cons (pe_tup (pa_cons pe_str (pa_cons pe_str pa_nil))) pa_nil))) pa_nil)))))
        (pss_one (ps_ret pe_bl))
        pss_nil)
      (pss_cons (ps_set (i := 2) scLaw_hand_right.nd rfl (Or.inl rfl) (pe_lst (pa_cons (pe_said (k := 14) T hTB rfl (.tail _ (.head _)) (tt_R T) (hr.mono (by decide)) (lamS_by (sc := defScope (top 63)) (by decide +kernel)) (fun A outer s H E f c' hr' => (pe_call (ok_rule_text T) (hr'.mono (by decide)) rfl T.drule_text.g T.drule_text.kp (bdrule_text T) .nil (passes_call (takes_of rfl rfl rfl rfl) (fun _ _ _ _ h => h)) (pa_cons (pv 0) (pa_cons (pv 1) pa_nil))))) pa_nil)))
      (pss_cons (ps_expr (pe_bm PySem.F.plainAttrs_list PySem.F.slot_list_append PySem.F.type_list_append mt_append (pv 2) (pa_cons (pe_said (k := 14) T hTB rfl (.tail _ (.head _)) (tt_R T) (hr.mono (by decide)) (lamS_by (sc := defScope (top 63)) (by decide +kernel)) (fun A outer s H E f c' hr' => (pe_call (ok_rule_text T) (hr'.mono (by decide)) rfl T.drule_text.g T.drule_text.kp (bdrule_text T) .nil (passes_call (takes_of rfl rfl rfl rfl) (fun _ _ _ _ h => h)) (pa_cons (pv 1) (pa_cons pe_non pa_nil))))) pa_nil)))
      (pss_one (ps_if (pt_not (pt_val (pe_callG (ok_law_like T) hG (hr.mono (by decide)) rfl T.d_law_like.g T.d_law_like.kp (bd_law_like T) pass0 (pa_cons (pv 2) (pa_cons (pe_lst (pa_cons (pe_tup (pa_cons pe_str (pa_cons (pe_tup pa_nil) pa_nil))) (pa_cons (pe_tup (pa_cons pe_str (pa_cons pe_str pa_nil))) pa_nil))) pa_nil)))))
        (pss_one (ps_ret pe_bl))
        pss_nil))))))))
    (pss_cons (ps_set (i := 3) scLaw_hand_right.nd rfl (Or.inl rfl) pe_str)
    (pss_cons (ps_set (i := 4) scLaw_hand_right.nd rfl (Or.inl rfl) (pe_lst (pa_cons (pv 3) (pa_cons (pe_op op_add_str pe_str (pv 3)) (pa_cons pe_str pa_nil)))))
    (pss_cons (ps_set (i := 4) scLaw_hand_right.nd rfl (Or.inl rfl) (pe_op op_cat (pv 4) (pe_lst (pa_cons pe_str (pa_cons pe_str pa_nil)))))
    (pss_cons (ps_set (i := 4) scLaw_hand_right.nd rfl (Or.inl rfl) (pe_op op_cat (pv 4) (pe_lst (pa_cons pe_str (pa_cons pe_str (pa_cons pe_str pa_nil))))))
    (pss_cons (ps_asg (pe_tup (pa_cons (pe_tup (pa_cons pe_str (pa_cons (pe_tup (pa_cons pe_int pa_nil)) pa_nil))) (pa_cons (pe_tup (pa_cons pe_str (pa_cons (pe_tup (pa_cons pe_int pa_nil)) pa_nil))) pa_nil))) (pg_tup rfl (pgs_cons (pg_name (i := 5) scLaw_hand_right.nd rfl (Or.inl rfl)) (pgs_cons (pg_name (i := 6) scLaw_hand_right.nd rfl (Or.inl rfl)) pgs_nil))))
    (pss_cons (ps_set (i := 7) scLaw_hand_right.nd rfl (Or.inl rfl) (pe_lst (pa_cons (pe_lst (pa_cons (pe_tup (pa_cons pe_str (pa_cons (pe_tup (pa_cons pe_str (pa_cons (pv 5) (pa_cons (pv 6) pa_nil)))) (pa_cons (pe_tup (pa_cons pe_str (pa_cons (pv 5) (pa_cons (pv 6) pa_nil)))) pa_nil)))) pa_nil)) (pa_cons (pe_tup (pa_cons pe_str (pa_cons pe_int (pa_cons pe_int pa_nil)))) pa_nil))))
    (pss_cons (ps_set (i := 7) scLaw_hand_right.nd rfl (Or.inl rfl) (pe_op op_cat (pv 7) (pe_lst (pa_cons (pe_lst (pa_cons (pe_tup (pa_cons pe_str (pa_cons (pv 5) (pa_cons (pe_tup (pa_cons pe_str (pa_cons (pv 5) (pa_cons (pe_tup (pa_cons pe_str (pa_cons (pv 5) (pa_cons (pv 5) pa_nil)))) pa_nil)))) pa_nil)))) pa_nil)) (pa_cons (pe_tup (pa_cons pe_str (pa_cons (pe_tup (pa_cons pe_int pa_nil)) pa_nil))) (pa_cons (pe_tup (pa_cons pe_str (pa_cons pe_int (pa_cons pe_int pa_nil)))) pa_nil))))))
    (pss_cons (ps_set (i := 7) scLaw_hand_right.nd rfl (Or.inl rfl) (pe_op op_cat (pv 7) (pe_lst (pa_cons (pe_tup (pa_cons pe_str (pa_cons (pe_tup pa_nil) pa_nil))) (pa_cons (pe_tup (pa_cons pe_str (pa_cons (pe_tup pa_nil) pa_nil))) (pa_cons (pe_tup (pa_cons pe_str (pa_cons (pe_tup (pa_cons pe_int pa_nil)) pa_nil))) pa_nil))))))
    (pss_one (ps_ret (pe_callG (ok_law_like T) hG (hr.mono (by decide)) rfl T.d_law_like.g T.d_law_like.kp (bd_law_like T) pass0 (pa_cons (pe_lc (own := [("_law_far", 8)]) (g := gName 8) (tt := tYes) rfl scLaw_hand_right.nd (pi_list (pv 4)) (blkOk_by (N := nLaw_hand_right) (sc := defScope (top 63)) (by decide +kernel)) (fun _ _ _ _ _ => pg_name (i := 8) scLaw_hand_right.nd rfl (Or.inr rfl)) (fun _ _ _ _ _ => pts_nil) (fun _ _ _ _ _ => (show PE _ _ (tLam (TT K) (TSaid K) _) from pe_said (k := 14) T hTB rfl (.tail _ (.head _)) (tt_R T) (hr.mono (by decide)) (LamS.mk rfl rfl rfl (by decide +kernel) (by intro y hy; rcases List.mem_cons.mp hy with rfl | hy; exact fun _ => (by first | exact .inl rfl | exact .inr rfl); rcases List.mem_cons.mp hy with rfl | hy; exact fun _ => (by first | exact .inl rfl | exact .inr rfl); rw [List.mem_singleton.mp hy]; intro e; cases e)) (fun A outer s H E f c' hr' => (pe_call (ok_read_rule T) (hr'.mono (by decide)) rfl T.dread_rule.g T.dread_rule.kp (bdread_rule T) .nil (passes_call (takes_of rfl rfl rfl rfl) (fun _ _ _ _ h => h)) (pa_cons (pv 0) (pa_cons (pv 8) pa_nil))))))) (pa_cons (pv 7) pa_nil)))))))))))))), ?_⟩
  obtain ⟨hv, rfl, dh, hT, q⟩ := h
  refine ⟨by decide, fun t0 ht0 => ⟨szc rfl, fun l0 hl0 => ⟨szc rfl, fun tp htp => ⟨_, rfl, ⟨_, SqT.of upd_same⟩, ?_⟩⟩⟩⟩
  have f1 := Ex.new (o := .tup []) ht0
  have f2 := Ex.new (o := .lst [.str "kept 0"]) hl0
  have f3 := Ex.new (o := .tup [.non, .int 5, .ref t0, .ref l0, .bl true]) htp
  have odds : ∀ x ∈ [V.non, .int 5, .ref t0, .ref l0, .bl true], Odd K (upd (upd (upd H t0 (.tup [])) l0 (.lst [.str "kept 0"])) tp (.tup [.non, .int 5, .ref t0, .ref l0, .bl true])) x := fun x hx => by
    rcases List.mem_cons.mp hx with rfl | hx
    · exact .inl rfl
    rcases List.mem_cons.mp hx with rfl | hx
    · exact .inr (.inl ⟨5, rfl⟩)
    rcases List.mem_cons.mp hx with rfl | hx
    · exact .inr (.inr (.inr (.inl ⟨t0, rfl, ex_t (f2.trans f3) (SqT.of upd_same)⟩)))
    rcases List.mem_cons.mp hx with rfl | hx
    · exact .inr (.inr (.inr (.inr ⟨l0, rfl, ex_l f3 (SqL.of upd_same)⟩)))
    · rw [List.mem_singleton.mp hx]
      exact .inr (.inr (.inl ⟨true, rfl⟩))
  have htp0 : SqT K (upd (upd (upd H t0 (.tup [])) l0 (.lst [.str "kept 0"])) tp (.tup [.non, .int 5, .ref t0, .ref l0, .bl true])) tp [V.non, .int 5, .ref t0, .ref l0, .bl true] := SqT.of upd_same
  have dh0 := Dp.ex ((f1.trans f2).trans f3) dh
  have T0 := Tabs.ext hT ((f1.trans f2).trans f3)
  generalize upd (upd (upd H t0 (.tup [])) l0 (.lst [.str "kept 0"])) tp (.tup [.non, .int 5, .ref t0, .ref l0, .bl true]) = H0 at *
  refine for_it walk_tup (fun i σ H' => ∃ c1 c2 : Option V, σ = [some hv, c1, c2, none, none, none, none, none, none] ∧ ExtN H0 H' ∧ Tabs (TT K) H') ⟨_, _, rfl, ExtN.refl _, T0⟩ (fun i σ H' _ p => by obtain ⟨_, _, _, e, _⟩ := p; exact en_t e htp0) (fun i v σ H2' H2 hi p hY => ?_) (fun σ H2 p => ?_)
  · obtain ⟨c1, c2, rfl, n02, T2⟩ := p
    obtain ⟨rfl, hx⟩ := hY
    have od2 := Odd.en n02 (odds v (List.mem_of_getElem? hx))
    have dh2 := Dp.en n02 dh0
    clear hx

    -- (read_rule)
    refine ⟨T2, fun H3 n3 T3 p0 hp0 => ?_⟩
    have x3 := Ex.new (o := .lst []) hp0
    have dh3 := Dp.ex x3 (Dp.en n3 dh2)
    have od3 := Odd.ex x3 (Odd.en n3 od2)
    refine ⟨_, rfl, _, rfl, hv, v, rfl, .inr (.inl ⟨1, [5], Dp.hall15 K, dh3, od3, said_text (fun _ => .non) (fun _ => .non) fun H4 u1 e4 d4 => ?_⟩)⟩
    have n24 : ExtN H2 H4 := n3.trans (ExtN.of (x3.trans e4))
    have T4 : Tabs (TT K) H4 := Tabs.ext T3 (x3.trans e4)
    refine ⟨szc rfl, fun l1 hl1 => ?_⟩
    have x5 := Ex.new (o := .lst [u1]) hl1
    have T5 := Tabs.ext T4 x5
    have d5 := Dp.ex x5 d4
    have hl5 : upd H4 l1 (.lst [u1]) l1 = some (.lst [u1]) := upd_same
    have n25 := n24.trans (ExtN.of x5)
    show tSeq _ _ _ _ (upd H4 l1 (.lst [u1]))
    generalize upd H4 l1 (.lst [u1]) = H5 at *
    refine ⟨_, rfl, .inl ⟨rfl, _, SqL.of hl5⟩, T5, fun H6 n6 T6 p2 hp2 => ?_⟩
    have x6 := Ex.new (o := .lst []) hp2
    have od6 := Odd.ex x6 (Odd.en n6 (Odd.en n25 od2))
    refine ⟨_, rfl, v, .non, rfl, .inr (.inr ⟨od6, said_hall fun H7 u2 e7 d7 => ?_⟩)⟩
    have n57 : ExtN H5 H7 := n6.trans (ExtN.of (x6.trans e7))
    have T7 : Tabs (TT K) H7 := Tabs.ext T6 (x6.trans e7)
    have hl7 := en_lst n57 hl5
    refine ⟨l1, [u1], u2, rfl, rfl, hl7, szc' rfl, ?_⟩
    have tx : Tx H7 (upd H7 l1 (.lst ([u1] ++ [u2]))) := Tx.upd (.inr (.inl ⟨_, hl7⟩))
    have d8 := Dp.tx tx rfl (Dp.en n57 d5)
    have g8 := Dp.tx tx rfl d7
    have hl8 : upd H7 l1 (.lst ([u1] ++ [u2])) l1 = some (.lst [u1, u2]) := upd_same
    have n28 : ExtN H2 (upd H7 l1 (.lst ([u1] ++ [u2]))) := en_mut2 n24 hl1 (n25.trans n57)
    have T8 : Tabs (TT K) (upd H7 l1 (.lst ([u1] ++ [u2]))) := Tabs.nl (Nl.upd hl7) T7
    show tSeq _ _ _ _ (upd H7 l1 (.lst ([u1] ++ [u2])))
    generalize upd H7 l1 (.lst ([u1] ++ [u2])) = H8 at *
    have sh : Shw (.list [.tuple [.str "text", .none, .none], .tuple [.str "hall", .str "form"]]) := ⟨by decide +kernel, by decide +kernel, by decide +kernel, by decide +kernel⟩
    refine ⟨_, rfl, szc rfl, fun a1 ha1 => ⟨szc rfl, fun a2 ha2 => ⟨szc rfl, fun a3 ha3 => ?_⟩⟩⟩
    have y1 := Ex.new (o := .tup [.str "text", .non, .non]) ha1
    have y2 := Ex.new (o := .tup [.str "hall", .str "form"]) ha2
    have y3 := Ex.new (o := .lst [.ref a1, .ref a2]) ha3
    have y := (y1.trans y2).trans y3
    refine ⟨l1, a3, _, rfl, .lst (ex_l y (SqL.of hl8)) (.cons (Dp.ex y d8) (.cons (Dp.ex y g8) .nil)), lst_new ha3 (.cons (Dp.ex y2 (tup_new ha1 (.cons (.str _) (.cons .non (.cons .non .nil))))) (.cons (tup_new ha2 (.cons (.str _) (.cons (.str _) .nil))) .nil)), sh, ⟨_, rfl, iteF ?_⟩⟩
    have n02 := (n02.trans n28).trans (ExtN.of y)
    have T2 := Tabs.ext T8 y
    have od2 := Odd.ex y (Odd.en n28 od2)
    have dh2 := Dp.ex y (Dp.en n28 dh2)
    show tSeq _ _ _ _ (upd (upd (upd H8 a1 (.tup [.str "text", .non, .non])) a2 (.tup [.str "hall", .str "form"])) a3 (.lst [.ref a1, .ref a2]))
    clear sh n28 T8 d8 g8 hl8 tx hl7 T7 n57 od6 d7 e7 x6 hp2 T6 n6 n25 hl5 d5 T5 x5 hl1 T4 n24 d4 e4 od3 dh3 x3 hp0 T3 n3
    generalize upd (upd (upd H8 a1 (.tup [.str "text", .non, .non])) a2 (.tup [.str "hall", .str "form"])) a3 (.lst [.ref a1, .ref a2]) = H2 at *

    -- (rule_text)
    refine ⟨T2, fun H3 n3 T3 p0 hp0 => ?_⟩
    have x3 := Ex.new (o := .lst []) hp0
    have dh3 := Dp.ex x3 (Dp.en n3 dh2)
    have od3 := Odd.ex x3 (Odd.en n3 od2)
    refine ⟨_, rfl, _, rfl, hv, v, rfl, .inr (.inl ⟨1, [5], Dp.hall15 K, dh3, od3, said_rule fun H4 u1 e4 d4 => ?_⟩)⟩
    have n24 : ExtN H2 H4 := n3.trans (ExtN.of (x3.trans e4))
    have T4 : Tabs (TT K) H4 := Tabs.ext T3 (x3.trans e4)
    refine ⟨szc rfl, fun l1 hl1 => ?_⟩
    have x5 := Ex.new (o := .lst [u1]) hl1
    have T5 := Tabs.ext T4 x5
    have d5 := Dp.ex x5 d4
    have hl5 : upd H4 l1 (.lst [u1]) l1 = some (.lst [u1]) := upd_same
    have n25 := n24.trans (ExtN.of x5)
    show tSeq _ _ _ _ (upd H4 l1 (.lst [u1]))
    generalize upd H4 l1 (.lst [u1]) = H5 at *
    refine ⟨_, rfl, .inl ⟨rfl, _, SqL.of hl5⟩, T5, fun H6 n6 T6 p2 hp2 => ?_⟩
    have x6 := Ex.new (o := .lst []) hp2
    have od6 := Odd.ex x6 (Odd.en n6 (Odd.en n25 od2))
    refine ⟨_, rfl, v, .non, rfl, .inr (.inr ⟨od6, said_hall fun H7 u2 e7 d7 => ?_⟩)⟩
    have n57 : ExtN H5 H7 := n6.trans (ExtN.of (x6.trans e7))
    have T7 : Tabs (TT K) H7 := Tabs.ext T6 (x6.trans e7)
    have hl7 := en_lst n57 hl5
    refine ⟨l1, [u1], u2, rfl, rfl, hl7, szc' rfl, ?_⟩
    have tx : Tx H7 (upd H7 l1 (.lst ([u1] ++ [u2]))) := Tx.upd (.inr (.inl ⟨_, hl7⟩))
    have d8 := Dp.tx tx rfl (Dp.en n57 d5)
    have g8 := Dp.tx tx rfl d7
    have hl8 : upd H7 l1 (.lst ([u1] ++ [u2])) l1 = some (.lst [u1, u2]) := upd_same
    have n28 : ExtN H2 (upd H7 l1 (.lst ([u1] ++ [u2]))) := en_mut2 n24 hl1 (n25.trans n57)
    have T8 : Tabs (TT K) (upd H7 l1 (.lst ([u1] ++ [u2]))) := Tabs.nl (Nl.upd hl7) T7
    show tSeq _ _ _ _ (upd H7 l1 (.lst ([u1] ++ [u2])))
    generalize upd H7 l1 (.lst ([u1] ++ [u2])) = H8 at *
    have sh : Shw (.list [.tuple [.str "rule", .tuple []], .tuple [.str "hall", .str "form"]]) := ⟨by decide +kernel, by decide +kernel, by decide +kernel, by decide +kernel⟩
    refine ⟨_, rfl, by decide, fun a0 ha0 => ⟨szc rfl, fun a1 ha1 => ⟨szc rfl, fun a2 ha2 => ⟨szc rfl, fun a3 ha3 => ?_⟩⟩⟩⟩
    have y0 := Ex.new (o := .tup []) ha0
    have y1 := Ex.new (o := .tup [.str "rule", .ref a0]) ha1
    have y2 := Ex.new (o := .tup [.str "hall", .str "form"]) ha2
    have y3 := Ex.new (o := .lst [.ref a1, .ref a2]) ha3
    have y := ((y0.trans y1).trans y2).trans y3
    refine ⟨l1, a3, _, rfl, .lst (ex_l y (SqL.of hl8)) (.cons (Dp.ex y d8) (.cons (Dp.ex y g8) .nil)), lst_new ha3 (.cons (Dp.ex y2 (tup_new ha1 (.cons (.str _) (.cons (tup_new ha0 .nil) .nil)))) (.cons (tup_new ha2 (.cons (.str _) (.cons (.str _) .nil))) .nil)), sh, ⟨_, rfl, iteF ?_⟩⟩
    exact ⟨_, _, rfl, (n02.trans n28).trans (ExtN.of y), Tabs.ext T8 y⟩
  · obtain ⟨c1, c2, rfl, n02, T2⟩ := p
    have dh2 := Dp.en n02 dh0
    have sl : ∀ {n : Nat}, n ≤ 100000 → n ≤ sizeLine := fun h => Nat.le_trans h (by decide)
    refine ⟨_, rfl, _, rfl, _, _, rfl, rfl, sl (by decide +kernel), szc rfl, fun l1 hl1 => ⟨_, rfl, szc rfl, fun l2 hl2 => ?_⟩⟩
    have El1 := Ex.new (o := .lst [.str four, .str ("oust 9 " ++ four), .str "all kept 0 all kept 0 all kept 0 kept 0"]) hl1
    have El2 := Ex.new (o := .lst [.str "all kept 0 oust 1 kept 0", .str "all kept 0 all kept 0 all kept 0 all kept 0 kept 0"]) hl2
    refine ⟨_, _, _, _, rfl, rfl, El2 _ _ upd_same, upd_same, by decide, fun l3 hl3 => ⟨_, rfl, szc rfl, fun l4 hl4 => ?_⟩⟩
    have El3 := Ex.new (o := .lst [.str four, .str ("oust 9 " ++ four), .str "all kept 0 all kept 0 all kept 0 kept 0", .str "all kept 0 oust 1 kept 0", .str "all kept 0 all kept 0 all kept 0 all kept 0 kept 0"]) hl3
    have El4 := Ex.new (o := .lst [.str "oust 100 kept 0", .str "kept 2", .str "any kept 2 kept 0"]) hl4
    refine ⟨_, _, _, _, rfl, rfl, El4 _ _ upd_same, upd_same, by decide, fun l5 hl5 => ?_⟩
    have El5 := Ex.new (o := .lst (hands.map V.str)) hl5
    have EH3 := (((El1.trans El2).trans El3).trans El4).trans El5
    have T3 : Tabs (TT K) (upd (upd (upd (upd (upd H2 l1 (.lst [.str four, .str ("oust 9 " ++ four), .str "all kept 0 all kept 0 all kept 0 kept 0"])) l2 (.lst [.str "all kept 0 oust 1 kept 0", .str "all kept 0 all kept 0 all kept 0 all kept 0 kept 0"])) l3 (.lst [.str four, .str ("oust 9 " ++ four), .str "all kept 0 all kept 0 all kept 0 kept 0", .str "all kept 0 oust 1 kept 0", .str "all kept 0 all kept 0 all kept 0 all kept 0 kept 0"])) l4 (.lst [.str "oust 100 kept 0", .str "kept 2", .str "any kept 2 kept 0"])) l5 (.lst (hands.map V.str))) := Tabs.ext T2 EH3
    have dh3 : Dp K (upd (upd (upd (upd (upd H2 l1 (.lst [.str four, .str ("oust 9 " ++ four), .str "all kept 0 all kept 0 all kept 0 kept 0"])) l2 (.lst [.str "all kept 0 oust 1 kept 0", .str "all kept 0 all kept 0 all kept 0 all kept 0 kept 0"])) l3 (.lst [.str four, .str ("oust 9 " ++ four), .str "all kept 0 all kept 0 all kept 0 kept 0", .str "all kept 0 oust 1 kept 0", .str "all kept 0 all kept 0 all kept 0 all kept 0 kept 0"])) l4 (.lst [.str "oust 100 kept 0", .str "kept 2", .str "any kept 2 kept 0"])) l5 (.lst (hands.map V.str))) hv (hallD 1 [5]) := Dp.ex EH3 dh2
    have hl5H : SqL K (upd (upd (upd (upd (upd H2 l1 (.lst [.str four, .str ("oust 9 " ++ four), .str "all kept 0 all kept 0 all kept 0 kept 0"])) l2 (.lst [.str "all kept 0 oust 1 kept 0", .str "all kept 0 all kept 0 all kept 0 all kept 0 kept 0"])) l3 (.lst [.str four, .str ("oust 9 " ++ four), .str "all kept 0 all kept 0 all kept 0 kept 0", .str "all kept 0 oust 1 kept 0", .str "all kept 0 all kept 0 all kept 0 all kept 0 kept 0"])) l4 (.lst [.str "oust 100 kept 0", .str "kept 2", .str "any kept 2 kept 0"])) l5 (.lst (hands.map V.str))) l5 (hands.map V.str) := SqL.of upd_same
    show tSeq _ _ _ _ (upd (upd (upd (upd (upd H2 l1 (.lst [.str four, .str ("oust 9 " ++ four), .str "all kept 0 all kept 0 all kept 0 kept 0"])) l2 (.lst [.str "all kept 0 oust 1 kept 0", .str "all kept 0 all kept 0 all kept 0 all kept 0 kept 0"])) l3 (.lst [.str four, .str ("oust 9 " ++ four), .str "all kept 0 all kept 0 all kept 0 kept 0", .str "all kept 0 oust 1 kept 0", .str "all kept 0 all kept 0 all kept 0 all kept 0 kept 0"])) l4 (.lst [.str "oust 100 kept 0", .str "kept 2", .str "any kept 2 kept 0"])) l5 (.lst (hands.map V.str)))
    generalize (upd (upd (upd (upd (upd H2 l1 (.lst [.str four, .str ("oust 9 " ++ four), .str "all kept 0 all kept 0 all kept 0 kept 0"])) l2 (.lst [.str "all kept 0 oust 1 kept 0", .str "all kept 0 all kept 0 all kept 0 all kept 0 kept 0"])) l3 (.lst [.str four, .str ("oust 9 " ++ four), .str "all kept 0 all kept 0 all kept 0 kept 0", .str "all kept 0 oust 1 kept 0", .str "all kept 0 all kept 0 all kept 0 all kept 0 kept 0"])) l4 (.lst [.str "oust 100 kept 0", .str "kept 2", .str "any kept 2 kept 0"])) l5 (.lst (hands.map V.str))) = H3 at *
    clear El1 El2 El3 El4 El5
    refine ⟨szc rfl, fun a1 ha1 => ⟨szc rfl, fun a2 ha2 => ⟨szc rfl, fun b1 hb1 => ⟨szc rfl, fun b2 hb2 => ⟨szc rfl, fun tq htq => ⟨_, _, rfl, SqT.of upd_same, rfl, _, _, rfl, _, _, rfl, rfl, ?_⟩⟩⟩⟩⟩⟩
    have Ea1 := Ex.new (o := .tup [.int 0]) ha1
    have Ea2 := Ex.new (o := .tup [.str "kept", .ref a1]) ha2
    have Eb1 := Ex.new (o := .tup [.int 1]) hb1
    have Eb2 := Ex.new (o := .tup [.str "kept", .ref b1]) hb2
    have Etq := Ex.new (o := .tup [.ref a2, .ref b2]) htq
    have EEH4 : Ex H3 (upd (upd (upd (upd (upd H3 a1 (.tup [.int 0])) a2 (.tup [.str "kept", .ref a1])) b1 (.tup [.int 1])) b2 (.tup [.str "kept", .ref b1])) tq (.tup [.ref a2, .ref b2])) := ((((Ea1.trans Ea2).trans Eb1).trans Eb2).trans Etq)
    have dk0 : Dp K (upd (upd (upd (upd (upd H3 a1 (.tup [.int 0])) a2 (.tup [.str "kept", .ref a1])) b1 (.tup [.int 1])) b2 (.tup [.str "kept", .ref b1])) tq (.tup [.ref a2, .ref b2])) (.ref a2) k0 := Dp.ex ((Eb1.trans Eb2).trans Etq) (tup_new ha2 (.cons (.str _) (.cons (tup_new ha1 (.cons (.int _) .nil)) .nil)))
    have dk1 : Dp K (upd (upd (upd (upd (upd H3 a1 (.tup [.int 0])) a2 (.tup [.str "kept", .ref a1])) b1 (.tup [.int 1])) b2 (.tup [.str "kept", .ref b1])) tq (.tup [.ref a2, .ref b2])) (.ref b2) k1 := Dp.ex Etq (tup_new hb2 (.cons (.str _) (.cons (tup_new hb1 (.cons (.int _) .nil)) .nil)))
    show tSeq _ _ _ _ (upd (upd (upd (upd (upd H3 a1 (.tup [.int 0])) a2 (.tup [.str "kept", .ref a1])) b1 (.tup [.int 1])) b2 (.tup [.str "kept", .ref b1])) tq (.tup [.ref a2, .ref b2]))
    generalize (upd (upd (upd (upd (upd H3 a1 (.tup [.int 0])) a2 (.tup [.str "kept", .ref a1])) b1 (.tup [.int 1])) b2 (.tup [.str "kept", .ref b1])) tq (.tup [.ref a2, .ref b2])) = H4 at *
    have T4 := Tabs.ext T3 EEH4
    have dh4 := Dp.ex EEH4 dh3
    have hl5H4 := ex_l EEH4 hl5H
    clear Ea1 Ea2 Eb1 Eb2 Etq
    refine ⟨_, rfl, _, rfl, szc rfl, fun x1 hx1 => ⟨_, rfl, _, rfl, szc rfl, fun x2 hx2 => ⟨szc rfl, fun x3 hx3 => ⟨szc rfl, fun x4 hx4 => ⟨szc rfl, fun x5 hx5 => ⟨szc rfl, fun l6 hl6 => ?_⟩⟩⟩⟩⟩⟩
    have Ex1 := Ex.new (o := .tup [.str "any", .ref a2, .ref b2]) hx1
    have Ex2 := Ex.new (o := .tup [.str "any", .ref a2, .ref b2]) hx2
    have Ex3 := Ex.new (o := .tup [.str "any", .ref x1, .ref x2]) hx3
    have Ex4 := Ex.new (o := .lst [.ref x3]) hx4
    have Ex5 := Ex.new (o := .tup [.str "text", .int 0, .int 11]) hx5
    have El6 := Ex.new (o := .lst [.ref x4, .ref x5]) hl6
    have EEH5 : Ex H4 (upd (upd (upd (upd (upd (upd H4 x1 (.tup [.str "any", .ref a2, .ref b2])) x2 (.tup [.str "any", .ref a2, .ref b2])) x3 (.tup [.str "any", .ref x1, .ref x2])) x4 (.lst [.ref x3])) x5 (.tup [.str "text", .int 0, .int 11])) l6 (.lst [.ref x4, .ref x5])) := (((((Ex1.trans Ex2).trans Ex3).trans Ex4).trans Ex5).trans El6)
    have da1 : DpAll K (upd (upd (upd (upd (upd (upd H4 x1 (.tup [.str "any", .ref a2, .ref b2])) x2 (.tup [.str "any", .ref a2, .ref b2])) x3 (.tup [.str "any", .ref x1, .ref x2])) x4 (.lst [.ref x3])) x5 (.tup [.str "text", .int 0, .int 11])) l6 (.lst [.ref x4, .ref x5])) [.ref x4, .ref x5] [.list [.tuple [.str "any", .tuple [.str "any", k0, k1], .tuple [.str "any", k0, k1]]], .tuple [.str "text", .int 0, .int 11]] := .cons (Dp.ex (Ex5.trans El6) (lst_new hx4 (.cons (tup_new hx3 (.cons (.str _) (.cons (Dp.ex Ex2 (tup_new hx1 (.cons (.str _) (.cons dk0 (.cons dk1 .nil))))) (.cons (tup_new hx2 (.cons (.str _) (.cons (Dp.ex Ex1 dk0) (.cons (Dp.ex Ex1 dk1) .nil)))) .nil)))) .nil))) (.cons (Dp.ex El6 (tup_new hx5 (.cons (.str _) (.cons (.int _) (.cons (.int _) .nil))))) .nil)
    have hl6H : (upd (upd (upd (upd (upd (upd H4 x1 (.tup [.str "any", .ref a2, .ref b2])) x2 (.tup [.str "any", .ref a2, .ref b2])) x3 (.tup [.str "any", .ref x1, .ref x2])) x4 (.lst [.ref x3])) x5 (.tup [.str "text", .int 0, .int 11])) l6 (.lst [.ref x4, .ref x5])) l6 = some (.lst [.ref x4, .ref x5]) := upd_same
    show tSeq _ _ _ _ (upd (upd (upd (upd (upd (upd H4 x1 (.tup [.str "any", .ref a2, .ref b2])) x2 (.tup [.str "any", .ref a2, .ref b2])) x3 (.tup [.str "any", .ref x1, .ref x2])) x4 (.lst [.ref x3])) x5 (.tup [.str "text", .int 0, .int 11])) l6 (.lst [.ref x4, .ref x5]))
    generalize (upd (upd (upd (upd (upd (upd H4 x1 (.tup [.str "any", .ref a2, .ref b2])) x2 (.tup [.str "any", .ref a2, .ref b2])) x3 (.tup [.str "any", .ref x1, .ref x2])) x4 (.lst [.ref x3])) x5 (.tup [.str "text", .int 0, .int 11])) l6 (.lst [.ref x4, .ref x5])) = H5 at *
    have T5 := Tabs.ext T4 EEH5
    have dh5 := Dp.ex EEH5 dh4
    have hl5H5 := ex_l EEH5 hl5H4
    have dk05 := Dp.ex EEH5 dk0
    clear Ex1 Ex2 Ex3 Ex4 Ex5 El6
    refine ⟨_, rfl, _, rfl, _, rfl, _, rfl, _, rfl, szc rfl, fun w1 hw1 => ⟨szc rfl, fun w2 hw2 => ⟨szc rfl, fun w3 hw3 => ⟨szc rfl, fun w4 hw4 => ⟨szc rfl, fun w5 hw5 => ⟨szc rfl, fun w6 hw6 => ⟨szc rfl, fun w7 hw7 => ⟨szc rfl, fun w8 hw8 => ?_⟩⟩⟩⟩⟩⟩⟩⟩
    have Ew1 := Ex.new (o := .tup [.str "all", .ref a2, .ref a2]) hw1
    have Ew2 := Ex.new (o := .tup [.str "all", .ref a2, .ref w1]) hw2
    have Ew3 := Ex.new (o := .tup [.str "all", .ref a2, .ref w2]) hw3
    have Ew4 := Ex.new (o := .lst [.ref w3]) hw4
    have Ew5 := Ex.new (o := .tup [.int 2]) hw5
    have Ew6 := Ex.new (o := .tup [.str "rule", .ref w5]) hw6
    have Ew7 := Ex.new (o := .tup [.str "text", .int 0, .int 10]) hw7
    have Ew8 := Ex.new (o := .lst [.ref w4, .ref w6, .ref w7]) hw8
    refine ⟨_, _, _, _, rfl, rfl, (((((((Ew1.trans Ew2).trans Ew3).trans Ew4).trans Ew5).trans Ew6).trans Ew7).trans Ew8) _ _ hl6H, upd_same, szc rfl, fun l7 hl7 => ?_⟩
    have Ew1 := Ex.new (o := .tup [.str "all", .ref a2, .ref a2]) hw1
    have Ew2 := Ex.new (o := .tup [.str "all", .ref a2, .ref w1]) hw2
    have Ew3 := Ex.new (o := .tup [.str "all", .ref a2, .ref w2]) hw3
    have Ew4 := Ex.new (o := .lst [.ref w3]) hw4
    have Ew5 := Ex.new (o := .tup [.int 2]) hw5
    have Ew6 := Ex.new (o := .tup [.str "rule", .ref w5]) hw6
    have Ew7 := Ex.new (o := .tup [.str "text", .int 0, .int 10]) hw7
    have Ew8 := Ex.new (o := .lst [.ref w4, .ref w6, .ref w7]) hw8
    have El7 := Ex.new (o := .lst ([.ref x4, .ref x5] ++ [.ref w4, .ref w6, .ref w7])) hl7
    have EEH6 : Ex H5 (upd (upd (upd (upd (upd (upd (upd (upd (upd H5 w1 (.tup [.str "all", .ref a2, .ref a2])) w2 (.tup [.str "all", .ref a2, .ref w1])) w3 (.tup [.str "all", .ref a2, .ref w2])) w4 (.lst [.ref w3])) w5 (.tup [.int 2])) w6 (.tup [.str "rule", .ref w5])) w7 (.tup [.str "text", .int 0, .int 10])) w8 (.lst [.ref w4, .ref w6, .ref w7])) l7 (.lst ([.ref x4, .ref x5] ++ [.ref w4, .ref w6, .ref w7]))) := ((((((((Ew1.trans Ew2).trans Ew3).trans Ew4).trans Ew5).trans Ew6).trans Ew7).trans Ew8).trans El7)
    have da2 : DpAll K (upd (upd (upd (upd (upd (upd (upd (upd (upd H5 w1 (.tup [.str "all", .ref a2, .ref a2])) w2 (.tup [.str "all", .ref a2, .ref w1])) w3 (.tup [.str "all", .ref a2, .ref w2])) w4 (.lst [.ref w3])) w5 (.tup [.int 2])) w6 (.tup [.str "rule", .ref w5])) w7 (.tup [.str "text", .int 0, .int 10])) w8 (.lst [.ref w4, .ref w6, .ref w7])) l7 (.lst ([.ref x4, .ref x5] ++ [.ref w4, .ref w6, .ref w7]))) [.ref w4, .ref w6, .ref w7] [.list [.tuple [.str "all", k0, .tuple [.str "all", k0, .tuple [.str "all", k0, k0]]]], .tuple [.str "rule", .tuple [.int 2]], .tuple [.str "text", .int 0, .int 10]] := .cons (Dp.ex ((((Ew5.trans Ew6).trans Ew7).trans Ew8).trans El7) (lst_new hw4 (.cons (tup_new hw3 (.cons (.str _) (.cons (Dp.ex (Ew1.trans Ew2) dk05) (.cons (tup_new hw2 (.cons (.str _) (.cons (Dp.ex Ew1 dk05) (.cons (tup_new hw1 (.cons (.str _) (.cons dk05 (.cons dk05 .nil)))) .nil)))) .nil)))) .nil))) (.cons (Dp.ex ((Ew7.trans Ew8).trans El7) (tup_new hw6 (.cons (.str _) (.cons (tup_new hw5 (.cons (.int _) .nil)) .nil)))) (.cons (Dp.ex (Ew8.trans El7) (tup_new hw7 (.cons (.str _) (.cons (.int _) (.cons (.int _) .nil))))) .nil))
    have hl7H : (upd (upd (upd (upd (upd (upd (upd (upd (upd H5 w1 (.tup [.str "all", .ref a2, .ref a2])) w2 (.tup [.str "all", .ref a2, .ref w1])) w3 (.tup [.str "all", .ref a2, .ref w2])) w4 (.lst [.ref w3])) w5 (.tup [.int 2])) w6 (.tup [.str "rule", .ref w5])) w7 (.tup [.str "text", .int 0, .int 10])) w8 (.lst [.ref w4, .ref w6, .ref w7])) l7 (.lst ([.ref x4, .ref x5] ++ [.ref w4, .ref w6, .ref w7]))) l7 = some (.lst [.ref x4, .ref x5, .ref w4, .ref w6, .ref w7]) := upd_same
    show tSeq _ _ _ _ (upd (upd (upd (upd (upd (upd (upd (upd (upd H5 w1 (.tup [.str "all", .ref a2, .ref a2])) w2 (.tup [.str "all", .ref a2, .ref w1])) w3 (.tup [.str "all", .ref a2, .ref w2])) w4 (.lst [.ref w3])) w5 (.tup [.int 2])) w6 (.tup [.str "rule", .ref w5])) w7 (.tup [.str "text", .int 0, .int 10])) w8 (.lst [.ref w4, .ref w6, .ref w7])) l7 (.lst ([.ref x4, .ref x5] ++ [.ref w4, .ref w6, .ref w7])))
    generalize (upd (upd (upd (upd (upd (upd (upd (upd (upd H5 w1 (.tup [.str "all", .ref a2, .ref a2])) w2 (.tup [.str "all", .ref a2, .ref w1])) w3 (.tup [.str "all", .ref a2, .ref w2])) w4 (.lst [.ref w3])) w5 (.tup [.int 2])) w6 (.tup [.str "rule", .ref w5])) w7 (.tup [.str "text", .int 0, .int 10])) w8 (.lst [.ref w4, .ref w6, .ref w7])) l7 (.lst ([.ref x4, .ref x5] ++ [.ref w4, .ref w6, .ref w7]))) = H6 at *
    have T6 := Tabs.ext T5 EEH6
    have dh6 := Dp.ex EEH6 dh5
    have hl5H6 := ex_l EEH6 hl5H5
    have da26 := da_app (DpAll.ex EEH6 da1) da2
    clear Ew1 Ew2 Ew3 Ew4 Ew5 Ew6 Ew7 Ew8 El7
    refine ⟨_, rfl, by decide, fun v1 hv1 => ⟨szc rfl, fun v2 hv2 => ⟨by decide, fun v3 hv3 => ⟨szc rfl, fun v4 hv4 => ⟨szc rfl, fun v5 hv5 => ⟨szc rfl, fun v6 hv6 => ⟨szc rfl, fun v7 hv7 => ?_⟩⟩⟩⟩⟩⟩⟩
    have Ev1 := Ex.new (o := .tup []) hv1
    have Ev2 := Ex.new (o := .tup [.str "rule", .ref v1]) hv2
    have Ev3 := Ex.new (o := .tup []) hv3
    have Ev4 := Ex.new (o := .tup [.str "rule", .ref v3]) hv4
    have Ev5 := Ex.new (o := .tup [.int 1]) hv5
    have Ev6 := Ex.new (o := .tup [.str "rule", .ref v5]) hv6
    have Ev7 := Ex.new (o := .lst [.ref v2, .ref v4, .ref v6]) hv7
    refine ⟨_, _, _, _, rfl, rfl, ((((((Ev1.trans Ev2).trans Ev3).trans Ev4).trans Ev5).trans Ev6).trans Ev7) _ _ hl7H, upd_same, szc rfl, fun l8 hl8 => ?_⟩
    have Ev1 := Ex.new (o := .tup []) hv1
    have Ev2 := Ex.new (o := .tup [.str "rule", .ref v1]) hv2
    have Ev3 := Ex.new (o := .tup []) hv3
    have Ev4 := Ex.new (o := .tup [.str "rule", .ref v3]) hv4
    have Ev5 := Ex.new (o := .tup [.int 1]) hv5
    have Ev6 := Ex.new (o := .tup [.str "rule", .ref v5]) hv6
    have Ev7 := Ex.new (o := .lst [.ref v2, .ref v4, .ref v6]) hv7
    have El8 := Ex.new (o := .lst ([.ref x4, .ref x5, .ref w4, .ref w6, .ref w7] ++ [.ref v2, .ref v4, .ref v6])) hl8
    have EEH7 : Ex H6 (upd (upd (upd (upd (upd (upd (upd (upd H6 v1 (.tup [])) v2 (.tup [.str "rule", .ref v1])) v3 (.tup [])) v4 (.tup [.str "rule", .ref v3])) v5 (.tup [.int 1])) v6 (.tup [.str "rule", .ref v5])) v7 (.lst [.ref v2, .ref v4, .ref v6])) l8 (.lst ([.ref x4, .ref x5, .ref w4, .ref w6, .ref w7] ++ [.ref v2, .ref v4, .ref v6]))) := (((((((Ev1.trans Ev2).trans Ev3).trans Ev4).trans Ev5).trans Ev6).trans Ev7).trans El8)
    have da3 : DpAll K (upd (upd (upd (upd (upd (upd (upd (upd H6 v1 (.tup [])) v2 (.tup [.str "rule", .ref v1])) v3 (.tup [])) v4 (.tup [.str "rule", .ref v3])) v5 (.tup [.int 1])) v6 (.tup [.str "rule", .ref v5])) v7 (.lst [.ref v2, .ref v4, .ref v6])) l8 (.lst ([.ref x4, .ref x5, .ref w4, .ref w6, .ref w7] ++ [.ref v2, .ref v4, .ref v6]))) [.ref v2, .ref v4, .ref v6] [.tuple [.str "rule", .tuple []], .tuple [.str "rule", .tuple []], .tuple [.str "rule", .tuple [.int 1]]] := .cons (Dp.ex (((((Ev3.trans Ev4).trans Ev5).trans Ev6).trans Ev7).trans El8) (tup_new hv2 (.cons (.str _) (.cons (tup_new hv1 .nil) .nil)))) (.cons (Dp.ex (((Ev5.trans Ev6).trans Ev7).trans El8) (tup_new hv4 (.cons (.str _) (.cons (tup_new hv3 .nil) .nil)))) (.cons (Dp.ex (Ev7.trans El8) (tup_new hv6 (.cons (.str _) (.cons (tup_new hv5 (.cons (.int _) .nil)) .nil)))) .nil))
    have hl8H : (upd (upd (upd (upd (upd (upd (upd (upd H6 v1 (.tup [])) v2 (.tup [.str "rule", .ref v1])) v3 (.tup [])) v4 (.tup [.str "rule", .ref v3])) v5 (.tup [.int 1])) v6 (.tup [.str "rule", .ref v5])) v7 (.lst [.ref v2, .ref v4, .ref v6])) l8 (.lst ([.ref x4, .ref x5, .ref w4, .ref w6, .ref w7] ++ [.ref v2, .ref v4, .ref v6]))) l8 = some (.lst [.ref x4, .ref x5, .ref w4, .ref w6, .ref w7, .ref v2, .ref v4, .ref v6]) := upd_same
    generalize (upd (upd (upd (upd (upd (upd (upd (upd H6 v1 (.tup [])) v2 (.tup [.str "rule", .ref v1])) v3 (.tup [])) v4 (.tup [.str "rule", .ref v3])) v5 (.tup [.int 1])) v6 (.tup [.str "rule", .ref v5])) v7 (.lst [.ref v2, .ref v4, .ref v6])) l8 (.lst ([.ref x4, .ref x5, .ref w4, .ref w6, .ref w7] ++ [.ref v2, .ref v4, .ref v6]))) = H7 at *
    have T7 := Tabs.ext T6 EEH7
    have dh7 := Dp.ex EEH7 dh6
    have hl5H7 := ex_l EEH7 hl5H6
    have da37 : DpAll K H7 [.ref x4, .ref x5, .ref w4, .ref w6, .ref w7, .ref v2, .ref v4, .ref v6] dues := da_app (DpAll.ex EEH7 da26) da3
    have dD : Dp K H7 (.ref l8) (.list dues) := .lst (SqL.of hl8H) da37
    have hl8n : hands.length = 8 := rfl
    refine ⟨_, rfl, _, rfl, ⟨_, hl5H7⟩, fun D hD => ?_⟩
    refine lc_en (walk_list (K := K) (xs := hands.map V.str)) (fun i y Hy => (∃ acc, Hy D = some (.lst acc)) ∧ ∃ x, hands[i]? = some x ∧ DpS K Hy D y (due 1 1 x).d) (by rw [List.length_map, hl8n]; decide) hD T7 (fun Hy e => en_l e hl5H7) (fun i y Hy Hz hy e hz => ?_) (fun i x Hy Hz k hi e t hY hacc hk => ?_) (fun Hy acc e t hDy hla hR => ?_)
    · obtain ⟨h1, x, h2, h3⟩ := hy
      exact ⟨hz, x, h2, h3.en h1 e⟩
    · obtain ⟨rfl, hx⟩ := hY
      obtain ⟨u, hu, rfl⟩ := get_str hx
      have hul : ∀ u ∈ hands, u.length ≤ 900000 := by decide +kernel
      obtain ⟨acc, hacc⟩ := hacc
      refine ⟨rfl, t, fun H3 n3 T3 p0 hp0 => ?_⟩
      have x3 := Ex.new (o := .lst []) hp0
      have n03 := n3.trans (ExtN.of x3)
      have hacc3 := en_lst n03 hacc
      refine ⟨_, rfl, _, rfl, hv, .str u, rfl, .inl ⟨1, [5], u, Dp.hall15 K, Dp.en n03 (Dp.en e dh7), rfl, hul u (List.mem_of_getElem? hu), saidS_read ⟨_, hacc3⟩ fun H4 y e4 d4 => ?_⟩⟩
      exact hk y H4 (n03.trans (ExtN.of e4)) (Tabs.ext T3 (x3.trans e4)) ⟨⟨_, e4 _ _ hacc3⟩, u, hu, d4⟩
    · have dA : Dp K Hy (.ref D) (.list dues) := by
        refine .lst (SqL.of hDy) (da_of (by rw [hla, List.length_map, hl8n] <;> rfl) fun j y d hy hd => ?_)
        obtain ⟨_, x, h2, h3⟩ := hR j y hy
        rw [← hands_due, List.getElem?_map, h2] at hd
        obtain rfl := Option.some.inj hd
        exact h3.dp
      have sh : Shw (.list dues) := ⟨by decide +kernel, by decide +kernel, by decide +kernel, by decide +kernel⟩
      exact ⟨_, rfl, D, l8, _, rfl, dA, Dp.en e dD, sh, q _⟩
end
end K95

set_option Elab.async false
set_option linter.all false
set_option maxRecDepth 100000
set_option maxHeartbeats 4000000
/-! The law. -/
namespace K95
open PySem PySem.Spec PyProof.Rows L2
open Evl (Ex ex_l ex_t fresh_back)
open TL (tl)
open LamX
def spLaw (K : PySem.W.Frag) : Sp := fun vs H Q _ => ∃ (a : Addr) (ns : List Int), vs = [.ref a] ∧ SqL K H a (ns.map V.int) ∧ ns.length ≤ 1000000 ∧ Tabs (TT K) H ∧ ∀ H', Q (.bl true) H'
/-- the texts' length grows so -/
def bnd : Nat → Nat
  | 0 => 300
  | i + 1 => if i < 3 then 3 * bnd i + 3 else 2 * bnd i + 30
theorem bnd_mono (i : Nat) : bnd i ≤ bnd (i + 1) := by
  show bnd i ≤ if i < 3 then 3 * bnd i + 3 else 2 * bnd i + 30
  split <;> omega
theorem bnd_le {i : Nat} (h : i ≤ 7) : bnd i ≤ 300000 := by
  have : ∀ i, i ≤ 7 → bnd i ≤ 300000 := by decide
  exact this i h
theorem dp_ref {K : PySem.W.Frag} {H : Hp} {v : V} {rd : Rd} (h : Dp K H v rd.d) : ∃ p, v = .ref p := by
  cases rd with
  | ok r => obtain ⟨a, _, e, _⟩ := dp_lst h; exact ⟨a, e⟩
  | text l k => obtain ⟨a, _, e, _⟩ := dp_tup h; exact ⟨a, e⟩
  | rule p => obtain ⟨a, _, e, _⟩ := dp_tup h; exact ⟨a, e⟩
theorem txt_sg {nf : Nat} {r : Rl} (h : r.Wf nf) : Sg r.txt := by
  rw [← txt_join]
  refine Sg.join (Sg.lit (by decide +kernel)) fun p hp => ?_
  have : ∀ {r : Rl}, r.Wf nf → ∀ w ∈ r.ws, Sg w := by
    intro r
    induction r with
    | pl w ns =>
      intro h x hx
      have hw : ∀ w ∈ plW, (tl w).all (fun c => decide (c < 0x110000)) = true := by decide +kernel
      rcases List.mem_cons.mp hx with rfl | hx
      · exact Sg.lit (hw _ h.1)
      · obtain ⟨n, hn, rfl⟩ := List.mem_map.mp hx
        intro c hc
        rw [tl_numS (h.2.2 n hn).1] at hc
        have := TL.numL_digits _ c hc
        omega
    | cb w a b iha ihb =>
      intro h x hx
      have hw : ∀ w ∈ cbW, (tl w).all (fun c => decide (c < 0x110000)) = true := by decide +kernel
      rcases List.mem_cons.mp hx with rfl | hx
      · exact Sg.lit (hw _ h.1)
      · rcases List.mem_append.mp hx with hx | hx
        · exact iha h.2.1 x hx
        · exact ihb h.2.2 x hx
    | ou a fee iha =>
      intro h x hx
      rcases List.mem_cons.mp hx with rfl | hx
      · exact Sg.lit (by decide +kernel)
      · rcases List.mem_cons.mp hx with rfl | hx
        · intro c hc
          rw [tl_numS h.2.1] at hc
          have := TL.numL_digits _ c hc
          omega
        · exact iha h.1 x hx
  exact this h p hp
section
variable {w : World} {K : PySem.W.Frag} {mg : Str → Option Value} {base : Heap}
abbrev nLaw : List Str := ["_law_script", "_law_m", "_law_turn", "_law_hall_so", "_law_rule_so", "_law_sheet", "_law_told_so", "_law_some", "_law_again", "_law_near", "_law_one"]
theorem scLaw : FnScope nLaw ["_law_script"] (defScope (top 64)) := ⟨rfl, rfl, rfl, by decide +kernel, rfl, by decide +kernel, by decide +kernel⟩
theorem ok_law (T : Txt K mg) (hTB : TabB base mg (cL K).1 (cL K).2) (hTBR : TabB base mg (cR K).1 (cR K).2) : FnOkG PR w K mg base CX0 20 (ga K "law") (fdOf K "law") ["_law_script"] (spLaw K) := by
  refine FunD.okG T.dlaw.F scLaw (fun vs H Q E h => ?_) (fun cdv A outer s H vs Q E hcd hG hr h => ?_)
  · obtain ⟨a, ns, rfl, _⟩ := h
    rfl
  obtain rfl := code_at T.dlaw hcd
  refine ⟨_, (pss_cons (ps_set (i := 1) scLaw.nd rfl (Or.inl rfl) (pe_call (ok_law_begun T) (hr.mono (by decide)) rfl T.d_law_begun.g T.d_law_begun.kp (bd_law_begun T) .nil pass0 (pa_cons (pv 0) pa_nil)))
    (pss_cons (ps_for (passes_of rfl) rfl (pi_range1 rfl T.f_range (pa_cons (pe_op op_add pe_int (pe_callB (call_min2 rfl) rfl T.f_min (by decide +kernel) (pa_cons pe_int (pa_cons (pe_callB call_len rfl T.f_len (by decide +kernel) (pa_cons (pv 0) pa_nil)) pa_nil)))) pa_nil)) (pg_name (i := 2) scLaw.nd rfl (Or.inl rfl))
      (pss_cons (ps_set (i := 3) scLaw.nd rfl (Or.inr rfl) (pe_call (ok_law_hall T) (hr.mono (by decide)) rfl T.d_law_hall.g T.d_law_hall.kp (bd_law_hall T) .nil pass0 (pa_cons (pv 1) (pa_cons pe_int (pa_cons pe_int pa_nil)))))
      (pss_cons (ps_set (i := 4) scLaw.nd rfl (Or.inl rfl) (pe_call (ok_law_rule T) (hr.mono (by decide)) rfl T.d_law_rule.g T.d_law_rule.kp (bd_law_rule T) .nil pass0 (pa_cons (pv 1) (pa_cons (pv 3) pa_nil))))
      (pss_cons (ps_set (i := 5) scLaw.nd rfl (Or.inl rfl) (pe_call (ok_law_rule_text T 7) (hr.mono (by decide)) rfl T.d_law_rule_text.g T.d_law_rule_text.kp (bd_law_rule_text T) .nil pass0 (pa_cons (pv 4) pa_nil)))
      (pss_cons (ps_set (i := 6) scLaw.nd rfl (Or.inl rfl) (pe_lst (pa_cons (pe_call (ok_rule_text T) (hr.mono (by decide)) rfl T.drule_text.g T.drule_text.kp (bdrule_text T) .nil passF (pa_cons (pv 3) (pa_cons (pv 4) pa_nil))) (pa_cons (pe_call (ok_read_rule T) (hr.mono (by decide)) rfl T.dread_rule.g T.dread_rule.kp (bdread_rule T) .nil passF (pa_cons (pv 3) (pa_cons (pv 5) pa_nil))) pa_nil))))
      (pss_cons (ps_expr (pe_bm PySem.F.plainAttrs_list PySem.F.slot_list_append PySem.F.type_list_append mt_append (pv 6) (pa_cons (pe_call (ok_rule_text T) (hr.mono (by decide)) rfl T.drule_text.g T.drule_text.kp (bdrule_text T) .nil passF (pa_cons (pv 3) (pa_cons (pv 4) pa_nil))) pa_nil)))
      (pss_cons (ps_if (pt_not (pt_val (pe_callG (ok_law_like T) hG (hr.mono (by decide)) rfl T.d_law_like.g T.d_law_like.kp (bd_law_like T) pass0 (pa_cons (pv 6) (pa_cons (pe_lst (pa_cons (pv 5) (pa_cons (pv 4) (pa_cons (pv 5) pa_nil)))) pa_nil)))))
        (pss_one (ps_ret pe_bl))
        pss_nil)
      (pss_cons (ps_set (i := 7) scLaw.nd rfl (Or.inl rfl) (pe_lst (pa_cons (pv 5) (pa_cons (pe_op op_add_str (pv 5) pe_str) (pa_cons (pe_op op_add_str pe_str (pv 5)) (pa_cons (pe_op op_add_str (pv 5) pe_str) (pa_cons (pe_op op_add_str pe_str (pv 5)) (pa_cons (pe_slice sl_str (pv 5) po_none (po_some (pe_un un_neg pe_int))) (pa_cons pe_str pa_nil)))))))))
      (pss_cons (ps_expr (pe_bm PySem.F.plainAttrs_list PySem.F.slot_list_append PySem.F.type_list_append mt_append (pv 7) (pa_cons (pe_op op_add_str (pv 5) pe_str) pa_nil)))
      (pss_cons (ps_for (passes_of rfl) rfl (pi_range1 rfl T.f_range (pa_cons pe_int pa_nil)) (pg_name (i := 8) scLaw.nd rfl (Or.inl rfl))
        (pss_cons (ps_set (i := 9) scLaw.nd rfl (Or.inl rfl) (pe_ix ix_list (pv 7) (pe_call (ok_law_draw T) (hr.mono (by decide)) rfl T.d_law_draw.g T.d_law_draw.kp (bd_law_draw T) .nil pass0 (pa_cons (pv 1) (pa_cons (pe_callB call_len rfl T.f_len (by decide +kernel) (pa_cons (pv 7) pa_nil)) pa_nil))) (fun _ _ => rfl)))
        (pss_one (ps_if (pt_cmpR op_gt (pv 8) pe_int (nomark _))
          (pss_one (ps_expr (pe_bm PySem.F.plainAttrs_list PySem.F.slot_list_append PySem.F.type_list_append mt_append (pv 7) (pa_cons (pe_call (ok_law_word_bent T) (hr.mono (by decide)) rfl T.d_law_word_bent.g T.d_law_word_bent.kp (bd_law_word_bent T) .nil pass0 (pa_cons (pv 1) (pa_cons (pv 9) pa_nil))) pa_nil))))
          (pss_one (ps_expr (pe_bm PySem.F.plainAttrs_list PySem.F.slot_list_append PySem.F.type_list_append mt_append (pv 7) (pa_cons (pe_call (ok_law_bent T) (hr.mono (by decide)) rfl T.d_law_bent.g T.d_law_bent.kp (bd_law_bent T) .nil pass0 (pa_cons (pv 1) (pa_cons (pv 9) (pa_cons pe_str pa_nil)))) pa_nil))))))))
      (pss_one (ps_for (passes_of rfl) rfl (pi_list (pv 7)) (pg_name (i := 10) scLaw.nd rfl (Or.inr rfl))
        (pss_one (ps_if (pt_not (pt_val (pe_callG (ok_law_like T) hG (hr.mono (by decide)) rfl T.d_law_like.g T.d_law_like.kp (bd_law_like T) pass0 (pa_cons (pe_said (k := 14) T hTB rfl (.head _) (tt_L T) (hr.mono (by decide)) (lamS_by (sc := defScope (top 64)) (by decide +kernel)) (fun A outer s H E f c' hr' => (pe_call (ok_read_rule T) (hr'.mono (by decide)) rfl T.dread_rule.g T.dread_rule.kp (bdread_rule T) .nil (passes_call (takes_of rfl rfl rfl rfl) (fun _ _ _ _ h => h)) (pa_cons (pv 3) (pa_cons (pv 10) pa_nil))))) (pa_cons (pe_call (ok_law_rule_due T) (hr.mono (by decide)) rfl T.d_law_rule_due.g T.d_law_rule_due.kp (bd_law_rule_due T) .nil pass0 (pa_cons (pv 3) (pa_cons (pv 10) pa_nil))) pa_nil)))))
          (pss_one (ps_ret pe_bl))
          pss_nil))))))))))))))
    (pss_one (ps_ret (pe_callG (ok_hand_right T hTBR) hG (hr.mono (by decide)) rfl T.d_law_hand_right.g T.d_law_hand_right.kp (bd_law_hand_right T) pass0 (pa_cons (pe_tup (pa_cons pe_int (pa_cons (pe_tup (pa_cons pe_int pa_nil)) pa_nil))) pa_nil)))))), ?_⟩
  obtain ⟨a, ns, rfl, hS, hl, hT, q⟩ := h
  refine ⟨_, rfl, a, ns, rfl, hS, hl, fun H1 am ac ag e1 M1 => ?_⟩
  have T1 := Tabs.ext hT e1
  have hS1 := ex_l e1 hS
  have sl : ∀ {n : Nat}, n ≤ 5000000 → n ≤ sizeLine := fun h => Nat.le_trans h (by decide)
  have sl' : ∀ {n : Nat}, n < 5000000 → n < sizeLine := fun h => Nat.lt_of_lt_of_le h (by decide)
  have lapp : ∀ x y : Str, (x ++ y).length = x.length + y.length := fun x y => by rw [TL.len_tl, TL.tl_append, List.length_append, ← TL.len_tl, ← TL.len_tl]
  refine ⟨_, rfl, _, _, rfl, .inl ⟨_, hS1, rfl⟩, _, _, rfl, _, _, rfl, rfl, _, rfl, ?_, ?_, ?_⟩
  · split <;> omega
  · split <;> omega
  obtain ⟨n, hn⟩ : ∃ n : Nat, n = ((4 : Int) + if ((ns.map V.int).length : Int) < 8 then ((ns.map V.int).length : Int) else 8).toNat := ⟨_, rfl⟩
  have hn12 : n ≤ 12 := by
    rw [hn]
    split <;> omega
  rw [← hn]
  refine for_it walk_range (fun i σ H' => ∃ c2 c3 c4 c5 c6 c7 c8 c9 c10 : Option V, σ = [some (.ref a), some (.ref am), c2, c3, c4, c5, c6, c7, c8, c9, c10] ∧ Tabs (TT K) H' ∧ Mach H' am ac ag (100 * (13 - i)))
    ⟨_, _, _, _, _, _, _, _, _, rfl, T1, M1.mono (by omega)⟩ (fun _ _ _ _ _ => trivial) (fun i x σ H2' H2 hi p hY => ?_) (fun σ H2 p => ?_)
  · obtain ⟨c2, c3, c4, c5, c6, c7, c8, c9, c10, rfl, T2, M2⟩ := p
    obtain ⟨rfl, rfl⟩ := hY
    obtain ⟨b, hb⟩ : ∃ b, b = 100 * (13 - (i + 1)) := ⟨_, rfl⟩
    have M2 : Mach H2 am ac ag (b + 40 + 20 + 10) := M2.mono (by omega)
    rw [← hb]
    clear hi
    -- a hall, a rule, its text
    refine ⟨_, rfl, am, ac, ag, b + 40 + 20, rfl, M2, fun H3 hv s fs d3 M3 ok dh3 => ?_⟩
    have T3 := Tabs.nl (Nl.dw d3 M2) T2
    have nh := noL_hall s fs
    refine ⟨_, rfl, _, rfl, am, ac, ag, b + 40, hv, s, fs, rfl, M3, ok, dh3, fun H4 rv r d4 M4 wf hz hbad dr4 => ?_⟩
    have T4 := Tabs.nl (Nl.dw d4 M3) T3
    have dh4 := Dp.tx (d4.tx M3) nh dh3
    have h4 := ok.f4
    refine ⟨_, rfl, rv, r, fs.length, rfl, dr4, wf, by omega, by omega, by omega, fun H5 e5 => ?_⟩
    have hdue := due_txt (s := s) wf (by omega) hbad
    have htl : r.txt.length ≤ 288 := by
      have h1 := txt_len wf
      have h2 : r.size * (fs.length + 2) ≤ 6 * 6 := Nat.mul_le_mul hz (by omega)
      omega
    have hsg := txt_sg wf
    generalize htx : r.txt = t at *
    have dh5 := Dp.ex e5 dh4
    have dr5 := Dp.ex e5 dr4
    -- the text told, read back, told again
    refine ⟨_, rfl, _, rfl, _, _, rfl, .inl ⟨s, fs, r, ok, dh5, dr5, wf, by omega, hbad, fun H6 e6 => ?_⟩⟩
    rw [htx]
    refine ⟨_, rfl, _, rfl, _, _, rfl, .inl ⟨s, fs, t, ok, Dp.ex e6 dh5, rfl, by omega, ?_⟩⟩
    rw [hdue]
    intro H7 v2 e7 dv2
    refine ⟨szc rfl, fun l1 hl1 => ?_⟩
    have e8 := Ex.new (o := .lst [.str t, v2]) hl1
    have e48 := ((e5.trans e6).trans e7).trans e8
    have e58 := (e6.trans e7).trans e8
    have hl8 : upd H7 l1 (.lst [.str t, v2]) l1 = some (.lst [.str t, v2]) := upd_same
    have dv8 := Dp.ex e8 dv2
    have hl1M := (M4.ex ((e5.trans e6).trans e7)).fm hl1
    show tSeq _ _ _ _ (upd H7 l1 (.lst [.str t, v2]))
    generalize upd H7 l1 (.lst [.str t, v2]) = H8 at *
    refine ⟨_, rfl, .inl ⟨rfl, _, SqL.of hl8⟩, _, rfl, _, rfl, _, _, rfl, .inl ⟨s, fs, r, ok, Dp.ex e48 dh4, Dp.ex e48 dr4, wf, by omega, hbad, fun H9 e9 => ?_⟩⟩
    rw [htx]
    have hl9 := e9 _ _ hl8
    refine ⟨l1, _, _, rfl, rfl, hl9, szc' rfl, ?_⟩
    have e49 := e48.trans e9
    have tx : Tx H9 (upd H9 l1 (.lst ([.str t, v2] ++ [.str t]))) := Tx.upd (.inr (.inl ⟨_, hl9⟩))
    have dh10 := Dp.tx tx nh (Dp.ex e49 dh4)
    have dr10 := Dp.tx tx (Rl.noL r) (Dp.ex e49 dr4)
    have dv10 := Dp.tx tx (Rl.noL r) (Dp.ex e9 dv8)
    have T10 := Tabs.nl (Nl.upd (o := .lst ([.str t, v2] ++ [.str t])) hl9) (Tabs.ext T4 e49)
    have M10 := (M4.ex e49).aside (o := .lst ([.str t, v2] ++ [.str t])) hl1M.1 hl1M.2.1 hl1M.2.2
    have hl10 : upd H9 l1 (.lst ([.str t, v2] ++ [.str t])) l1 = some (.lst [.str t, v2, .str t]) := upd_same
    show tSeq _ _ _ _ (upd H9 l1 (.lst ([.str t, v2] ++ [.str t])))
    generalize upd H9 l1 (.lst ([.str t, v2] ++ [.str t])) = H10 at *
    clear tx hl9 hl8 dv8 hl1M dv2 dr5 dh5 dh3 d3 d4 T2 T3 T4 M2 M3 M4 dr4 dh4
    have sh : Shw (.list [.str t, r.d, .str t]) := by
      have hs := Rl.sml wf
      have hz2 : r.size * (25 * fs.length + 40) ≤ 6 * 140 := Nat.mul_le_mul hz (by omega)
      have ht := (Sml.str hsg (n := 300) (by omega)).mono (Nat.le_refl _) (Nat.zero_le 7)
      exact (Sml.lst (Smls.cons ht (Smls.cons (hs.mono hz2 (show r.size + 1 ≤ 7 by omega)) (Smls.cons ht (Smls.nil.mono (Nat.le_refl _) (Nat.zero_le 7)))))).shw (by decide) (by decide)
    refine ⟨_, rfl, _, rfl, _, rfl, _, rfl, szc rfl, fun l2 hl2 => ?_⟩
    have e11 := Ex.new (o := .lst [.str t, rv, .str t]) hl2
    refine ⟨l1, l2, .list [.str t, r.d, .str t], rfl, .lst (ex_l e11 (SqL.of hl10)) (.cons (.str _) (.cons (Dp.ex e11 dv10) (.cons (.str _) .nil))), lst_new hl2 (.cons (.str _) (.cons dr10 (.cons (.str _) .nil))), sh, ⟨_, rfl, iteF ?_⟩⟩
    -- texts near it
    have l1' : ("\n" : Str).length = 1 := rfl
    have l2' : (" " : Str).length = 1 := rfl
    have l3' : (" 0" : Str).length = 2 := rfl
    have hcut := cutS_length t none (some (-1))
    refine ⟨_, rfl, _, rfl, _, _, rfl, rfl, sl (by omega), _, rfl, _, _, rfl, rfl, sl (by omega), _, rfl, _, _, rfl, rfl, sl (by omega), _, rfl, _, _, rfl, rfl, sl (by omega), ?_⟩
    refine ⟨_, rfl, _, rfl, _, rfl, _, rfl, sl (by omega), szc rfl, fun ls hls => ?_⟩
    have e12 := Ex.new (o := .lst ([t, t ++ "\n", "\n" ++ t, t ++ " ", " " ++ t, cutS t none (some (-1)), ""].map V.str)) hls
    have e1012 := e11.trans e12
    have hls12 : upd (upd H10 l2 (.lst [.str t, rv, .str t])) ls (.lst ([t, t ++ "\n", "\n" ++ t, t ++ " ", " " ++ t, cutS t none (some (-1)), ""].map V.str)) ls = some (.lst ([t, t ++ "\n", "\n" ++ t, t ++ " ", " " ++ t, cutS t none (some (-1)), ""].map V.str)) := upd_same
    have hlsM := (M10.ex e11).fm hls
    have dh12 := Dp.ex e1012 dh10
    have T12 := Tabs.ext T10 e1012
    have M12 := M10.ex e1012
    show tSeq _ _ _ _ (upd (upd H10 l2 (.lst [.str t, rv, .str t])) ls (.lst ([t, t ++ "\n", "\n" ++ t, t ++ " ", " " ++ t, cutS t none (some (-1)), ""].map V.str)))
    generalize upd (upd H10 l2 (.lst [.str t, rv, .str t])) ls (.lst ([t, t ++ "\n", "\n" ++ t, t ++ " ", " " ++ t, cutS t none (some (-1)), ""].map V.str)) = H12 at *
    refine ⟨_, rfl, .inl ⟨rfl, _, SqL.of hls12⟩, _, rfl, _, _, rfl, rfl, sl (by omega), ls, _, _, rfl, rfl, hls12, szc' rfl, ?_⟩
    obtain ⟨ts, hts⟩ : ∃ ts : List Str, ts = [t, t ++ "\n", "\n" ++ t, t ++ " ", " " ++ t, cutS t none (some (-1)), "", t ++ " 0"] := ⟨_, rfl⟩
    have hts8 : ts.length = 8 := by rw [hts] <;> rfl
    have htsP : ∀ x ∈ ts, Sg x ∧ x.length ≤ bnd 0 := by
      have g1 : Sg "\n" := Sg.lit (by decide +kernel)
      have g2 : Sg " " := Sg.lit (by decide +kernel)
      have g3 : Sg " 0" := Sg.lit (by decide +kernel)
      have g4 : Sg "" := Sg.lit (by decide +kernel)
      have hb0 : bnd 0 = 300 := rfl
      rw [hb0, hts]
      intro x hx
      rcases List.mem_cons.mp hx with rfl | hx
      · exact ⟨hsg, by omega⟩
      rcases List.mem_cons.mp hx with rfl | hx
      · exact ⟨hsg.app g1, by rw [lapp]; omega⟩
      rcases List.mem_cons.mp hx with rfl | hx
      · exact ⟨g1.app hsg, by rw [lapp]; omega⟩
      rcases List.mem_cons.mp hx with rfl | hx
      · exact ⟨hsg.app g2, by rw [lapp]; omega⟩
      rcases List.mem_cons.mp hx with rfl | hx
      · exact ⟨g2.app hsg, by rw [lapp]; omega⟩
      rcases List.mem_cons.mp hx with rfl | hx
      · exact ⟨hsg.cut _ _, by omega⟩
      rcases List.mem_cons.mp hx with rfl | hx
      · exact ⟨g4, by decide +kernel⟩
      rw [List.mem_singleton.mp hx]
      exact ⟨hsg.app g3, by rw [lapp]; omega⟩
    have hH13 : upd H12 ls (.lst ([t, t ++ "\n", "\n" ++ t, t ++ " ", " " ++ t, cutS t none (some (-1)), ""].map V.str ++ [.str (t ++ " 0")])) = upd H12 ls (.lst (ts.map V.str)) := by rw [hts] <;> rfl
    show tSeq _ _ _ _ (upd H12 ls (.lst ([t, t ++ "\n", "\n" ++ t, t ++ " ", " " ++ t, cutS t none (some (-1)), ""].map V.str ++ [.str (t ++ " 0")])))
    rw [hH13]
    have dh13 := Dp.tx (Tx.upd (o := .lst (ts.map V.str)) (.inr (.inl ⟨_, hls12⟩))) nh dh12
    have T13 := Tabs.nl (Nl.upd (o := .lst (ts.map V.str)) hls12) T12
    have M13 := M12.aside (o := .lst (ts.map V.str)) hlsM.1 hlsM.2.1 hlsM.2.2
    have hls13 : upd H12 ls (.lst (ts.map V.str)) ls = some (.lst (ts.map V.str)) := upd_same
    generalize upd H12 ls (.lst (ts.map V.str)) = H13 at *
    clear hH13 hls12 e12 e1012 e11 T12 T10 M12 M10 dh12 dh10 hts dv10 dr10 hl10
    refine ⟨8, rfl, by decide, by decide, ?_⟩
    refine for_it (n := 8) walk_range (fun j σ H' => ∃ (us : List Str) (c8 c9 c10 : Option V), σ = [some (.ref a), some (.ref am), some (.int (0 + (i : Int))), some hv, some rv, some (.str t), some (.ref l1), some (.ref ls), c8, c9, c10] ∧ Tabs (TT K) H' ∧ Mach H' am ac ag (b + 5 * (8 - j)) ∧ Dp K H' hv (hallD s fs) ∧ H' ls = some (.lst (us.map V.str)) ∧ us.length = 8 + j ∧ ∀ x ∈ us, Sg x ∧ x.length ≤ bnd j)
      ⟨ts, _, _, _, rfl, T13, M13, dh13, hls13, hts8, htsP⟩ (fun _ _ _ _ _ => trivial) (fun j x σ H14' H14 hj p hY => ?_) (fun σ H14 p => ?_)
    · obtain ⟨us, c8, c9, c10, rfl, T14, M14, dh14, hls14, hul, husP⟩ := p
      obtain ⟨rfl, rfl⟩ := hY
      have M14 : Mach H14 am ac ag (b + 5 * (8 - (j + 1)) + 4 + 1) := M14.mono (by omega)
      have hml : (us.map V.str).length = us.length := List.length_map _
      refine ⟨_, rfl, _, rfl, _, rfl, _, _, rfl, .inl ⟨_, SqL.of hls14, rfl⟩, am, ac, ag, _, b + 5 * (8 - (j + 1)) + 4, rfl, M14, by rw [hml]; omega, by rw [hml]; omega, fun H15 r15 d15 M15 r0 r1 => ?_⟩
      obtain ⟨k, rfl⟩ := Int.eq_ofNat_of_zero_le r0
      have hk : k < us.length := by rw [hml] at r1; omega
      have hls15 := d15 _ _ hlsM.1 hlsM.2.2 hls14
      refine ⟨_, _, _, _, rfl, rfl, SqL.of hls15, atI_nat (by rw [List.getElem?_map, List.getElem?_eq_getElem hk] <;> rfl), ?_⟩
      obtain ⟨xs, xl⟩ := husP _ (List.getElem_mem hk)
      generalize us[k] = near at *
      have T15 := Tabs.nl (Nl.dw d15 M14) T14
      have dh15 := Dp.tx (d15.tx M14) nh dh14
      have hbj := bnd_le (show j ≤ 7 by omega)
      have fin : ∀ H16 y, Dw am ag H15 H16 → Mach H16 am ac ag (b + 5 * (8 - (j + 1))) → Sg y → y.length ≤ bnd (j + 1) → H16 ls = some (.lst (us.map V.str)) ∧ (us.map V.str).length < sizeLine ∧ ∃ (us' : List Str) (d8 d9 d10 : Option V), [some (.ref a), some (.ref am), some (.int (0 + (i : Int))), some hv, some rv, some (.str t), some (.ref l1), some (.ref ls), some (.int (0 + (j : Int))), some (.str near), c10] = [some (V.ref a), some (V.ref am), some (V.int (0 + (i : Int))), some hv, some rv, some (V.str t), some (V.ref l1), some (V.ref ls), d8, d9, d10] ∧ Tabs (TT K) (upd H16 ls (.lst (us.map V.str ++ [.str y]))) ∧ Mach (upd H16 ls (.lst (us.map V.str ++ [.str y]))) am ac ag (b + 5 * (8 - (j + 1))) ∧ Dp K (upd H16 ls (.lst (us.map V.str ++ [.str y]))) hv (hallD s fs) ∧ upd H16 ls (.lst (us.map V.str ++ [.str y])) ls = some (.lst (us'.map V.str)) ∧ us'.length = 8 + (j + 1) ∧ ∀ x ∈ us', Sg x ∧ x.length ≤ bnd (j + 1) := fun H16 y d16 M16 sy ly => by
        have hls16 := d16 _ _ hlsM.1 hlsM.2.2 hls15
        refine ⟨hls16, sl' (by rw [hml]; omega), us ++ [y], _, _, _, rfl, Tabs.nl (Nl.upd hls16) (Tabs.nl (Nl.dw d16 M15) T15), M16.aside hlsM.1 hlsM.2.1 hlsM.2.2, Dp.tx (Tx.upd (.inr (.inl ⟨_, hls16⟩))) nh (Dp.tx (d16.tx M15) nh dh15), by rw [upd_same, List.map_append] <;> rfl, by rw [List.length_append, List.length_singleton]; omega, fun x hx => ?_⟩
        rcases List.mem_append.mp hx with hx | hx
        · have := husP x hx
          have := bnd_mono j
          exact ⟨(husP x hx).1, by omega⟩
        · rw [List.mem_singleton.mp hx]
          exact ⟨sy, ly⟩
      refine ⟨_, rfl, _, _, rfl, rfl, _, rfl, ?_⟩
      by_cases hj2 : 2 < j
      · refine iteB (decide_eq_true (by omega)) ?_
        refine ⟨_, rfl, .inl ⟨rfl, _, SqL.of hls15⟩, _, rfl, _, rfl, am, ac, ag, _, near, rfl, M15, by omega, xs, fun H16 y d16 M16 sy ly => ?_⟩
        obtain ⟨f1, f2, f3⟩ := fin H16 y d16 M16 sy (by show y.length ≤ if j < 3 then _ else _; rw [if_neg (by omega)]; omega)
        exact ⟨ls, _, _, rfl, rfl, f1, f2, f3⟩
      · refine iteB0 (decide_eq_false (by omega)) ?_
        refine ⟨_, rfl, .inl ⟨rfl, _, SqL.of hls15⟩, _, rfl, _, rfl, am, ac, ag, _, near, "0123456789 \nanykept", rfl, M15, by omega, xs, by decide +kernel, by decide +kernel, Sg.lit (by decide +kernel), fun H16 y d16 M16 sy ly => ?_⟩
        obtain ⟨f1, f2, f3⟩ := fin H16 y d16 M16 sy (by show y.length ≤ if j < 3 then _ else _; rw [if_pos (by omega)]; omega)
        exact ⟨ls, _, _, rfl, rfl, f1, f2, f3⟩
    -- each read
    · obtain ⟨us, c8, c9, c10, rfl, T14, M14, dh14, hls14, hul, husP⟩ := p
      have M14 : Mach H14 am ac ag b := M14.mono (by omega)
      have hus9 : ∀ x ∈ us, Sg x ∧ x.length ≤ 900000 := fun x hx => ⟨(husP x hx).1, Nat.le_trans (husP x hx).2 (by decide)⟩
      refine ⟨_, rfl, _, rfl, ⟨_, SqL.of hls14⟩, for_it walk_list (fun j σ H' => ∃ c10 : Option V, σ = [some (.ref a), some (.ref am), some (.int (0 + (i : Int))), some hv, some rv, some (.str t), some (.ref l1), some (.ref ls), c8, c9, c10] ∧ ExtN H14 H' ∧ Tabs (TT K) H')
        ⟨_, rfl, ExtN.refl _, T14⟩ (fun j σ H' _ p => by obtain ⟨_, _, e, _⟩ := p; exact en_l e (SqL.of hls14)) (fun j x σ H15' H15 hj p hY => ?_) (fun σ H15 p => ?_)⟩
      · obtain ⟨c10, rfl, n15, T15⟩ := p
        obtain ⟨rfl, hx⟩ := hY
        obtain ⟨one, hone, rfl⟩ := get_str hx
        obtain ⟨os, ol⟩ := hus9 _ (List.mem_of_getElem? hone)
        have dh15 := Dp.en n15 dh14
        refine ⟨T15, fun H16 n16 T16 p0 hp0 => ?_⟩
        have x16 := Ex.new (o := .lst []) hp0
        refine ⟨_, rfl, _, rfl, hv, .str one, rfl, .inl ⟨s, fs, one, ok, Dp.ex x16 (Dp.en n16 dh15), rfl, ol, said_read fun H17 u1 e17 d17 => ?_⟩⟩
        have x17 := x16.trans e17
        refine ⟨_, rfl, _, rfl, hv, s, fs, one, rfl, ok, Dp.ex x17 (Dp.en n16 dh15), ol, os, fun H18 u2 e18 d18 => ?_⟩
        obtain ⟨q1, rfl⟩ := dp_ref d17
        obtain ⟨q2, rfl⟩ := dp_ref d18
        refine ⟨q1, q2, _, rfl, Dp.ex e18 d17, d18, due_shw s (by omega) ol, ⟨_, rfl, iteF ?_⟩⟩
        exact ⟨_, rfl, (n15.trans n16).trans (ExtN.of (x17.trans e18)), Tabs.ext T16 (x17.trans e18)⟩
      · obtain ⟨c10, rfl, n15, T15⟩ := p
        exact ⟨_, _, _, _, _, _, _, _, _, rfl, T15, M14.en n15⟩
  · obtain ⟨c2, c3, c4, c5, c6, c7, c8, c9, c10, rfl, T2, M2⟩ := p
    refine ⟨szc rfl, fun a1 ha1 => ⟨szc rfl, fun a2 ha2 => ?_⟩⟩
    exact ⟨_, rfl, tup_new ha2 (.cons (.int _) (.cons (tup_new ha1 (.cons (.int _) .nil)) .nil)), Tabs.ext T2 ((Ex.new ha1).trans (Ex.new ha2)), q⟩
end
end K95

set_option Elab.async false
set_option linter.all false
set_option maxRecDepth 100000
set_option maxHeartbeats 4000000
/-! The end: the head's run, the walk of the law. -/
namespace K95
open PySem PySem.Spec PyProof.Rows L2
open LamX
theorem walk : PySem.W.WalkO qv names (PySem.W.XL qv []) hkZ.says R.toRowW (HandSHeadRun.topDef R.prog 64) [] (fun f vs => PySem.call f vs) := by
  refine Att.attach_callB (l := PySem.Challenge.rw_booklimits_k95_whole_texts_of_rules) (n := 63) rfl (by kernel_rfl) fun w s₀ s₁ mg mb fa o pm cd doc a vs ns G Y ho hd hcd hmg0 hobj hints hlen hbits hg => ?_
  obtain ⟨K, KX, c, ini⟩ := Y
  have hmg : mg ("law" : PySem.Str) = some (.ref fa) := by
    have e : (HandSHeadRun.topDef R.prog 64).name = ("law" : PySem.Str) := by kernel_rfl
    rw [← e]
    exact hmg0
  have T : Txt K mg := txt_of KX G.T.g c ini
  have efa : fa = ga K "law" := by
    have := hmg.symm.trans T.dlaw.g
    injection this with h
    injection h
  subst efa
  have inL : (("law", none) : He.Defn) ∈ tf := List.mem_cons_self
  have inR : (("_law_hand_right", none) : He.Defn) ∈ tf := List.mem_cons_of_mem _ List.mem_cons_self
  have both : ∀ {P : Addr × Addr → Prop}, P (cL K) → P (cR K) → ∀ p ∈ [cL K, cR K], P p := fun h1 h2 p hp => by
    rcases List.mem_cons.mp hp with rfl | hp
    · exact h1
    · rw [List.mem_singleton.mp hp]
      exact h2
  refine law_callG (K := K) (cs := [cL K, cR K]) (CX := CX0) (k := 20) (fd := fdOf K "law") (x := "_law_script") (sp := spLaw K) KX G.T.g G.T.b G.T.builtins G.T.nolimit hg
    (both (c.empty _ inL) (c.empty _ inR)) (both (c.out _ inL) (c.out _ inR)) (both (PySem.W.codeHd_of_K KX (c.hd _ inL)) (PySem.W.codeHd_of_K KX (c.hd _ inR))) G.T.bmain hobj hints (Nat.le_trans hlen (by decide)) ⟨rfl, by decide, by decide⟩ (fun base hKb hGb hTB => ?_) ?_ (fun H hH hS => ?_) (fun H e s' z => z)
  · exact ok_law T (hTB _ List.mem_cons_self) (hTB _ (List.mem_cons_of_mem _ List.mem_cons_self))
  · have b := FunD.bindsA (ps := ["_law_script"]) T.dlaw.F fun _ _ _ _ _ _ us hl => match us, hl with | [_], _ => rfl
    exact fun s v => b s [v] rfl
  · refine ⟨a, ns, rfl, hS, by omega, ?_, fun _ => rfl⟩
    intro p hp
    rcases List.mem_cons.mp hp with rfl | hp
    · exact TabS.nil (hH (cL K) List.mem_cons_self)
    · rw [List.mem_singleton.mp hp]
      exact TabS.nil (hH (cR K) (List.mem_cons_of_mem _ List.mem_cons_self))
end K95
open PySem PySem.W PySem.Calls PyProof.Rows
theorem PySem.Challenge.cw_booklimits_k95_whole_texts_of_rules_holds : PySem.Challenge.rw_booklimits_k95_whole_texts_of_rules.Holds := by
  w_on; o_law
  refine HandSHeadRun.head_any (r := K95.R) (q := K95.qv) (H := K95.hkZ) (ob := K95.ob) (M := 6000) (loose := K95.names) (d := HandSHeadRun.topDef K95.R.prog 64) (kwd := []) K95.ob_eq
    (by kernel_rfl) (fun s => by kernel_rfl) K95.run (by kernel_rfl) (by kernel_rfl) (by kernel_rfl) (by rfl) (by first | assumption | decide +kernel) (by decide +kernel) ⟨rfl, rfl, rfl, rfl, rfl, by decide +kernel⟩ ?hw ?hc
  case hw => w_witness2
  case hc => exact K95.walk

