import PyProof.Rows.All
import HandS.ForMost
import HandS.ForExc
import HandS.Defaults
import HandS.HeadHook3
import HandS.IsInst
import HandS.Deep
import HandS.Wide
import HandS.Conv
import KE.KDictKeyed
import HandS.Lambda
import HandS.TupAny
import HandS.TupMul
import HandS.RaiseMore
import HandS.Small
import HandS.Strs
import HandS.Style
import HandS.Head0
import HandS.Head1
import HandS.Head2
import HandS.HeadEnd
import HandS.EndBits
import HandS.HeadNt
import HandS.Zip
import PyProof.Rows.SortShellAny
import HandS.DictComp
import HandS.FStr
import HandS.SetFor
import HandS.Set
import KE.KCallOwn
import KE.KOpsOwn
import HandS.ClsMeth
import HandS.Property
import HandS.SlotsOwn
import HandS.Star
import HandS.Codes
import PyProof.Draws
import HandS.TryMany
import HandS.ExcOwn
import HandS.HeadHook1
import HandS.ExcInit
import HandS.ExcField
import HandS.ExcIs
import KE.KExcSuper
import KE.KExcIs
import PySem.Challenge.RW_dragswaps_k17_texts_spoilt
set_option maxHeartbeats 2000000
set_option Elab.async false
set_option linter.all false
set_option maxRecDepth 100000
namespace MP
open PySem L2
open PySem.Spec PyProof.Rows
abbrev Frag := PySem.W.Frag
/-- the defs that may make lambdas: those that a cell shows; their code objects' tables, and the lambdas' qualified names -/
def lamDefs : List Str := []
def tabOf (K : Frag) (x : Str) : Option (Addr × Str) := match K.lookup (He.ga K x) with
  | some ⟨_, _, .func fd, _⟩ => if fd.scope.names.any (fun y => decide (y.2 = .cell)) then (match fd.code with
    | .ref c => (match K.lookup c with
      | some ⟨_, _, .fields vs, _⟩ => (match (vs[11]? : Option Value) with
        | some (.ref P) => some (P, fd.qualname ++ ".<locals>." ++ "<lambda>")
        | _ => none)
      | _ => none)
    | _ => none) else none
  | _ => none
def tabsK (K : Frag) : List (Addr × Str) := lamDefs.filterMap (tabOf K)
/-- the values of a dict in the ground -/
def valsD (K : Frag) (a : Addr) (vs : List V) : Bool := match K.lookup a with
  | some ⟨_, _, .dict es _, _⟩ => He.relAll vs (es.toList.map (·.val))
  | _ => false
/-! ## the Hook: .. and tests of one's own -/
abbrev AlM : Type := He.AlT × Bool × List He5.FnW
def obsM (fa : List He.Fa) (fn : List He.DefD) (ts : List He.Tab) (tt : List (Frag → Bool)) (da : List He5.DefA) (K : Frag) : AlM := (He.obsT fa fn ts K, (tt.all fun t => t K) && da.all fun d => d.ok K, da.map fun d => He5.fnA K (d.at_ K))
def valM (fn : List He.DefD) (ts : List He.Tab) (da : List He5.DefA) (w : World) : AlM := (He.valT fn ts w, true, da.map He5.DefA.val)
def memS (s : Stmt) (j : Nat) : Stmt := match s with
  | .ClassDef _ _ _ b _ _ _ _ _ _ _ => b.getD j (.Pass ⟨0, 0, 0, 0⟩)
  | _ => .Pass ⟨0, 0, 0, 0⟩
def clsB (c : Str) (K : Frag) : Bool := PySem.W.selfFirst K (He.ga K c) && (PySem.W.noSeq K (He.ga K c) && (decide (PySem.W.findIn K (.ref (He.ga K c)) "__class__" = some (some (.builtin "object.__class__"))) &&
  (decide (PySem.W.specialIn K (.builtin "object.__class__") "__get__" = some (some (.builtin "getset_descriptor.__get__"))) && (decide (PySem.W.takesIn K (.builtin "object.__class__") = some true) &&
  (decide (PySem.W.mroIn K (He.ga K c) (.type "object") = some true) && (decide (PySem.W.kitOne K (.ref (He.ga K c)) (.ref (He.ga K c)) = some true) && (["NoneType", "bool", "int", "str", "tuple", "list", "dict"] : List String).all fun t => decide (PySem.W.kitOne K (.type t) (.ref (He.ga K c)) = some false)))))))
def methB (c m : Str) (K : Frag) : Bool := PySem.W.fnIn K (He.ma K (He.ga K c) m)
def propB (c f : Str) (K : Frag) : Bool := decide (PySem.W.findIn K (.ref (He.ga K c)) f = some (some (.ref (He.ma K (He.ga K c) f)))) && (decide (PySem.W.specialIn K (.ref (He.ma K (He.ga K c) f)) "__get__" = some (some (.builtin "property.__get__"))) &&
  (decide (PySem.W.takesIn K (.ref (He.ma K (He.ga K c) f)) = some true) && (match PySem.W.recIn K (He.ma K (He.ga K c) f) "property" with
    | some (.ref _ :: _) => true
    | _ => false)))
def cmetB (c m : Str) (K : Frag) : Bool := He5.wrapB K (He.ga K c) "classmethod" "classmethod.__get__" m && (PySem.W.fnIn K (He5.wf K (He.ga K c) "classmethod" m) && (PySem.W.readsIn K (He.ga K c) (.type "type") &&
  decide (PySem.W.specialIn K (.ref (He.ga K c)) "__getattribute__" = some (some (.builtin "type.__getattribute__")))))
def noDict (x : Str) (K : Frag) : Bool := match K.lookup (He.ga K x) with
  | some o => decide (o.cls = .type "tuple") && o.dict.isNone
  | none => false
/-- what is looked at: the module's dict, some of its objects with what they name, and the classes with all that hangs on them -/
def kidsS (g : Addr → Option Obj) (a : Addr) : List Addr := match g a with
  | some o => (He.refsD o).filter fun b => !(Nat.beq b mainGlobals)
  | none => []
def treeS (g : Addr → Option Obj) : Nat → Addr → List Addr
  | 0, a => [a]
  | n + 1, a => a :: (kidsS g a).flatMap (treeS g n)
structure Sel where
  flat : List Str
  deep : List Str
def selS (q : Sel) (g : Addr → Option Obj) : List Addr :=
  mainGlobals :: ((if q.deep.isEmpty then [] else [cStatics]) ++ q.flat.flatMap (fun x => treeS g 1 (He.ga (He.frG g [mainGlobals]) x)) ++ q.deep.flatMap (fun x => treeS g 4 (He.ga (He.frG g [mainGlobals]) x)))
def obsMG (n : Sel) (fa : List He.Fa) (fn : List He.DefD) (ts : List He.Tab) (tt : List (Frag → Bool)) (da : List He5.DefA) (g : Addr → Option Obj) : AlM := obsM fa fn ts tt da (He.frG g (selS n g))
def SaysM (fa : List He.Fa) (fn : List He.DefD) (ts : List He.Tab) (tt : List (Frag → Bool)) (da : List He5.DefA) (w : World) (K : Frag) : Prop := obsM fa fn ts tt da K = valM fn ts da w
def hookM (n : Sel) (fa : List He.Fa) (fn : List He.DefD) (ts : List He.Tab) (tt : List (Frag → Bool)) (da : List He5.DefA) : PySem.W.Hook where
  α := AlM
  obs := fun s => obsMG n fa fn ts tt da s.heap.get?
  val := fun w => valM fn ts da w
  says := fun w h => ∃ K : Frag, K.In h ∧ SaysM fa fn ts tt da w K
  of := fun _ _ e => ⟨_, He.frG_in, e⟩
  keeps := fun _ _ _ ⟨K, hK, c⟩ k => ⟨K, PySem.W.Frag.In.keeps hK k, c⟩
theorem obsMG_eq {n : Sel} {fa : List He.Fa} {fn : List He.DefD} {ts : List He.Tab} {tt : List (Frag → Bool)} {da : List He5.DefA} {g : Addr → Option Obj} {s : Shared} (q : ∀ a, g a = s.heap.get? a) : obsMG n fa fn ts tt da g = (hookM n fa fn ts tt da).obs s := by
  have e : g = s.heap.get? := funext q
  subst e
  rfl
theorem run3 {α β γ δ : Type} {x : Option α} {f : α → β} {g : α → γ} {h : α → δ} {a : β} {b : γ} {c : δ} (k : x.map (fun s => (f s, g s)) = some (a, b)) (l : x.map h = some c) : x.map (fun s => (f s, g s, h s)) = some (a, b, c) := by
  cases x with
  | none => cases k
  | some s =>
    obtain ⟨k1, k2⟩ := Prod.mk.inj (Option.some.inj k)
    exact congrArg some (Prod.ext k1 (Prod.ext k2 (Option.some.inj l)))
section
variable {fa : List He.Fa} {fn : List He.DefD} {ts : List He.Tab} {tt : List (Frag → Bool)} {da : List He5.DefA} {w : World} {K : Frag}
theorem SaysM.t (c : SaysM fa fn ts tt da w K) : He.SaysT fa fn ts w K := congrArg (fun z : AlM => z.1) c
theorem SaysM.d (c : SaysM fa fn ts tt da w K) : He.SaysD fa fn K := c.t.d
theorem SaysM.fact (c : SaysM fa fn ts tt da w K) (i : Nat) {f : He.Fa} (q : fa[i]? = some f) : f.ok K = true := c.d.fact i q
theorem SaysM.test (c : SaysM fa fn ts tt da w K) (i : Nat) {f : Frag → Bool} (q : tt[i]? = some f) : f K = true :=
  List.all_eq_true.mp (Bool.and_eq_true_iff.mp (show ((tt.all fun t => t K) && da.all fun d => d.ok K) = true from congrArg (fun z : AlM => z.2.1) c)).1 f (List.mem_of_getElem? q)
theorem SaysM.defA (c : SaysM fa fn ts tt da w K) (i : Nat) {d : He5.DefA} (h : da[i]? = some d) : ∃ fd, FunD K d.name d.qual d.params d.body d.scope (d.dvs K) (d.kws K) (d.at_ K) fd := by
  have c2 := (Bool.and_eq_true_iff.mp (show ((tt.all fun t => t K) && da.all fun d => d.ok K) = true from congrArg (fun z : AlM => z.2.1) c)).2
  have e : da.map (fun d => He5.fnA K (d.at_ K)) = da.map He5.DefA.val := congrArg (fun z : AlM => z.2.2) c
  have e2 : (da.map fun d => He5.fnA K (d.at_ K))[i]? = (da.map He5.DefA.val)[i]? := by rw [e]
  rw [List.getElem?_map, List.getElem?_map, h] at e2
  exact He5.DefA.funD (Option.some.inj e2) (List.all_eq_true.mp c2 d (List.mem_of_getElem? h))
theorem SaysM.keys (c : SaysM fa fn ts tt da w K) (i : Nat) {t : He.Tab} (q : ts[i]? = some t) : He.dicW K (t.1 K) = some (He.keysIn w.params t.2) := by
  have e : ts.map (fun t => He.dicW K (t.1 K)) = ts.map fun t => some (He.keysIn w.params t.2) := congrArg (fun z : AlM => z.1.2) c
  have e2 := congrArg (fun l => l[i]?) e
  simp only [List.getElem?_map, q, Option.map_some] at e2
  exact Option.some.inj e2
end

def catB (c f : Str) (zs : List Str) (K : Frag) : Bool := PySem.W.readsIn K (He.ga K c) (.type "type") && (match PySem.W.findCls K (.ref (He.ga K c)) (.type "type") f with
  | some (.val (.ref a)) => PySem.W.handedIn (.ref a) && (match K.lookup a with
    | some ⟨.type t, none, .seq its _, _⟩ => decide (t = "tuple") && (decide (its.size ≤ sizeLine) && He.relAll ((zs.map He.Dv.str).map (He.Dv.v K)) its.toList)
    | _ => false)
  | _ => false)
def clsVE (K : PySem.W.Frag) (C : Addr) : Bool := match K.lookup C with
  | some ⟨.type "type", _, .cls cd, sl⟩ => (match cd.mro, sl.toList with
    | .ref C' :: bm, [_, _, _, _, some (.builtin n), _] => C' == C && (n == "ValueError.__new__" && (!cd.hasDel && (cd.hasDict && PySem.HandSPX.refsVE bm)))
    | _, _ => false)
  | _ => false
def oexB (K : PySem.W.Frag) (C : Addr) : Bool := clsVE K C && (decide (PySem.W.findIn K (.ref C) "__setattr__" = some (some (.builtin "object.__setattr__"))) && (decide (PySem.W.subIn K (.ref C) (.type "BaseException") = some true) &&
  (decide (PySem.W.typeIn K (.ref C) = some (.type "type")) && PySem.W.keepIn K (.ref C))))
def supBody (fn m : Str) : FuncBody → Bool
  | .stmts [.Expr (.Call (.Attribute (.Call (.Name s p0) [] [] p1) i p2) [.Constant (.str m') j p3] [] p4) p5, .Assign [.Attribute (.Name se q1) a q2] (.Name b q3) q4] =>
    s == ("super" : Str) && (i == ("__init__" : Str) && (m' == m && (se == ("self" : Str) && (a == fn && (b == fn && p2.endLine == p4.line)))))
  | _ => false
def supParams (fn : Str) : Arguments → Bool
  | ⟨[], [⟨a, _, _⟩, ⟨b, _, _⟩], none, [], _, none, _⟩ => a == ("self" : Str) && b == fn
  | _ => false
def supScope (fn : Str) (sc : Scope) : Bool := decide (sc.names.lookup ("super" : Str) = some .globalImplicit) && (decide (sc.names.lookup ("__class__" : Str) = some .free) && (decide (sc.names.lookup ("self" : Str) = some .local) && (decide (sc.names.lookup fn = some .local) &&
  (decide (sc.kind = .function) && (!sc.isCoroutine && (!sc.isGenerator && sc.names.all fun x => decide (x.2 ≠ .cell)))))))
def supClo (K : PySem.W.Frag) (C : Addr) : List (Str × Addr) → Bool
  | [(x, cc)] => x == ("__class__" : Str) && (match K.lookup cc with
    | some ⟨_, _, .cell (some (.ref D)), _⟩ => D == C
    | _ => false)
  | _ => false
def supCode (K : PySem.W.Frag) (file : Str) : Value → Bool
  | .ref cda => (match K.lookup cda with
    | some ⟨_, _, .fields vs, _⟩ => (match (vs[2]? : Option Value) with
      | some (.str f _) => file == f
      | _ => false)
    | _ => false)
  | _ => false
def supFn (K : PySem.W.Frag) (C : Addr) (fn m file : Str) (f : Addr) : Bool := match K.lookup f with
  | some ⟨_, _, .func fd, _⟩ => supBody fn m fd.body && (supParams fn fd.params && (supScope fn fd.scope && (supClo K C fd.closure && (supCode K file fd.code && (PySem.W.codeIn K fd.code fd.qualname &&
    (fd.globals == mainGlobals && (fd.builtins == builtinsNs && decide (fd.defaults = .none))))))))
  | _ => false
def supB (c fn m file : Str) (K : PySem.W.Frag) : Bool := oexB K (He.ga K c) && (decide (PySem.W.mroIn K (He.ga K c) (.ref (He.ga K c)) = some true) && (decide (PySem.W.ks_superIn K (He.ga K c) (He.ga K c) "__init__" = some (some (.builtin "ValueError.__init__"))) &&
  (decide (PySem.W.subIn K (.ref (He.ga K c)) (.type "ValueError") = some true) && (decide (PySem.W.nsIn K cStatics "thirdparty.any" = some none) && (decide (PySem.W.findIn K (.ref (He.ga K c)) fn = some none) && (match PySem.W.findIn K (.ref (He.ga K c)) "__init__" with
    | some (some (.ref f)) => decide (PySem.W.typeIn K (.ref f) = some (.type "function")) && supFn K (He.ga K c) fn m file f
    | _ => false))))))
def excB (c : Str) (K : PySem.W.Frag) : Bool := decide (PySem.W.findIn K (.ref (He.ga K c)) "__getattribute__" = some (some (.builtin "BaseException.__getattribute__"))) && (decide (PySem.W.findIn K (.ref (He.ga K c)) "__getattr__" = some none) &&
  (decide (PySem.W.subIn K (.ref (He.ga K c)) (.type "BaseException") = some true) && (PySem.W.hasDictIn K (He.ga K c) && (decide (PySem.W.findIn K (.ref (He.ga K c)) "__class__" = some (some (.builtin "object.__class__"))) &&
  (decide (PySem.W.specialIn K (.builtin "object.__class__") "__get__" = some (some (.builtin "getset_descriptor.__get__"))) && (decide (PySem.W.takesIn K (.builtin "object.__class__") = some true) && decide (PySem.W.mroIn K (He.ga K c) (.type "object") = some true)))))))
def tryLB (c bs : Str) (K : PySem.W.Frag) : Bool := excB c K && (decide (PySem.W.findIn K (.ref (He.ga K c)) "line" = some none) && (decide (PySem.W.exmOne K (.ref (He.ga K c)) (.ref (He.ga K c)) = some true) && decide (PySem.W.kitOne K (.ref (He.ga K c)) (.ref (He.ga K bs)) = some true)))
end MP
set_option maxHeartbeats 2000000
namespace LW
open PySem L2 MP
open PySem.Spec PyProof.Rows
abbrev pw : Program := PySem.Challenge.pw_dragswaps_k17_texts_spoilt
def top (i : Nat) : Stmt := pw.main.body.getD i (.Pass ⟨0, 0, 0, 0⟩)
/-! ### the head -/
def fnD : List He.DefD := ([⟨("is_among", none), "is_among", "is_among", defArgs (top 13), defBody (top 13), defScope (top 13), [], []⟩, ⟨("is_number", none), "is_number", "is_number", defArgs (top 12), defBody (top 12), defScope (top 12), [], []⟩, ⟨("is_point", none), "is_point", "is_point", defArgs (top 14), defBody (top 14), defScope (top 14), [], []⟩, ⟨("is_comparison", none), "is_comparison", "is_comparison", defArgs (top 15), defBody (top 15), defScope (top 15), [], []⟩, ⟨("is_good_condition", none), "is_good_condition", "is_good_condition", defArgs (top 16), defBody (top 16), defScope (top 16), [], []⟩, ⟨("is_good_rule", none), "is_good_rule", "is_good_rule", defArgs (top 17), defBody (top 17), defScope (top 17), [], []⟩, ⟨("point_in", none), "point_in", "point_in", defArgs (top 80), defBody (top 80), defScope (top 80), [], []⟩, ⟨("comparison_in", none), "comparison_in", "comparison_in", defArgs (top 81), defBody (top 81), defScope (top 81), [], []⟩, ⟨("split_at", none), "split_at", "split_at", defArgs (top 82), defBody (top 82), defScope (top 82), [], []⟩, ⟨("joined", none), "joined", "joined", defArgs (top 22), defBody (top 22), defScope (top 22), [], []⟩, ⟨("joint_of", none), "joint_of", "joint_of", defArgs (top 23), defBody (top 23), defScope (top 23), [], []⟩, ⟨("point_words", none), "point_words", "point_words", defArgs (top 76), defBody (top 76), defScope (top 76), [], []⟩] : List He.DefD) ++ ([⟨("comparison_words", none), "comparison_words", "comparison_words", defArgs (top 77), defBody (top 77), defScope (top 77), [], []⟩, ⟨("parts_of", none), "parts_of", "parts_of", defArgs (top 20), defBody (top 20), defScope (top 20), [], []⟩, ⟨("condition_line", none), "condition_line", "condition_line", defArgs (top 78), defBody (top 78), defScope (top 78), [], []⟩, ⟨("condition_in", none), "condition_in", "condition_in", defArgs (top 83), defBody (top 83), defScope (top 83), [], []⟩, ⟨("rule_in", none), "rule_in", "rule_in", defArgs (top 84), defBody (top 84), defScope (top 84), [], []⟩, ⟨("_law_source", none), "_law_source", "_law_source", defArgs (top 93), defBody (top 93), defScope (top 93), [], []⟩, ⟨("_law_draw", none), "_law_draw", "_law_draw", defArgs (top 94), defBody (top 94), defScope (top 94), [], []⟩, ⟨("_law_of", none), "_law_of", "_law_of", defArgs (top 95), defBody (top 95), defScope (top 95), [], []⟩, ⟨("_law_known", none), "_law_known", "_law_known", defArgs (top 99), defBody (top 99), defScope (top 99), [], []⟩, ⟨("_law_point", none), "_law_point", "_law_point", defArgs (top 96), defBody (top 96), defScope (top 96), [], []⟩, ⟨("_law_comparison", none), "_law_comparison", "_law_comparison", defArgs (top 97), defBody (top 97), defScope (top 97), [], []⟩, ⟨("_law_condition", none), "_law_condition", "_law_condition", defArgs (top 98), defBody (top 98), defScope (top 98), [], []⟩] : List He.DefD) ++ ([⟨("_law_rule", none), "_law_rule", "_law_rule", defArgs (top 100), defBody (top 100), defScope (top 100), [], []⟩, ⟨("_law_parts", none), "_law_parts", "_law_parts", defArgs (top 101), defBody (top 101), defScope (top 101), [], []⟩, ⟨("_law_text", none), "_law_text", "_law_text", defArgs (top 102), defBody (top 102), defScope (top 102), [], []⟩, ⟨("_law_read", none), "_law_read", "_law_read", defArgs (top 103), defBody (top 103), defScope (top 103), [], []⟩, ⟨("_law_is_part", none), "_law_is_part", "_law_is_part", defArgs (top 104), defBody (top 104), defScope (top 104), [], []⟩, ⟨("_law_is_line", none), "_law_is_line", "_law_is_line", defArgs (top 105), defBody (top 105), defScope (top 105), [], []⟩, ⟨("is_rule", none), "is_rule", "is_rule", defArgs (top 27), defBody (top 27), defScope (top 27), [], []⟩, ⟨("_law_spoilt", none), "_law_spoilt", "_law_spoilt", defArgs (top 106), defBody (top 106), defScope (top 106), [], []⟩, ⟨("law", none), "law", "law", defArgs (top 107), defBody (top 107), defScope (top 107), [], []⟩] : List He.DefD)
def faD : List He.Fa := ([.glo "is_among", .glo "is_number", .glo "is_point", .glo "is_comparison", .glo "is_good_condition", .glo "is_good_rule", .glo "point_in", .glo "comparison_in", .glo "split_at", .glo "joined", .glo "joint_of", .glo "point_words"] : List He.Fa) ++ ([.glo "comparison_words", .glo "parts_of", .glo "condition_line", .glo "condition_in", .glo "rule_in", .glo "_law_source", .glo "_law_draw", .glo "_law_of", .glo "_law_known", .glo "_law_point", .glo "_law_comparison", .glo "_law_condition"] : List He.Fa) ++ ([.glo "_law_rule", .glo "_law_parts", .glo "_law_text", .glo "_law_read", .glo "_law_is_part", .glo "_law_is_line", .glo "is_rule", .glo "_law_spoilt", .glo "law", .free "isinstance", .free "str", .free "bool"] : List He.Fa) ++ ([.free "int", .free "len", .free "tuple", .free "list", .free "all", .free "enumerate", .free "abs", .free "range", .free "zip", .free "min", .glo "THINGS", .glo "TURNED"] : List He.Fa) ++ ([.glo "JOINTS", .str "FIGURES" "01234", .glo "WORDS", .glo "InvalidText", .free "super", .cls "Rule", .noat "Rule" "base", .glo "Rule", .mkr "Rule", .glo "DragError"] : List He.Fa)
def tabD : List He.Tab := [(fun K => He.ga K "TURNED", ["below", "above", "not below", "not above"])]
def testD : List (Frag → Bool) := ([fun K => He.tupB K "THINGS" ((["held", "place", "next"] : List Str).map He.Dv.str), fun K => valsD K (He.ga K "TURNED") ((["above", "below", "not above", "not below"] : List Str).map V.str), fun K => He.tupB K "JOINTS" ((["and", "or"] : List Str).map He.Dv.str), fun K => He.tupB K "WORDS" ((["down", "up"] : List Str).map He.Dv.str), fun K => (tabsK K).isEmpty, supB "InvalidText" "line" "not the text of a rule" pw.main.file, tryLB "InvalidText" "DragError", clsB "Rule", cmetB "Rule" "told", propB "Rule" "source"] : List (Frag → Bool))
def daD : List He5.DefA := ([⟨(fun K => He.ma K (He.ga K "Rule") "__init__"), "__init__", "Rule.__init__", defArgs (memS (top 91) 1), defBody (memS (top 91) 1), defScope (memS (top 91) 1), [], []⟩, ⟨(fun K => He5.wf K (He.ga K "Rule") "classmethod" "told"), "told", "Rule.told", defArgs (memS (top 91) 2), defBody (memS (top 91) 2), defScope (memS (top 91) 2), [], []⟩, ⟨(fun K => He5.wf K (He.ga K "Rule") "property" "source"), "source", "Rule.source", defArgs (memS (top 91) 3), defBody (memS (top 91) 3), defScope (memS (top 91) 3), [], []⟩] : List He5.DefA)
def looseD : List Str := (["DragError", "InvalidRule", "InvalidDrag", "InvalidPointer", "InvalidWord", "InvalidText", "THINGS", "TURNED", "JOINTS", "WORDS", "is_number", "is_among"] : List Str) ++ (["is_point", "is_comparison", "is_good_condition", "is_good_rule", "is_good_drag", "need_drag", "parts_of", "all_comparisons", "joined", "joint_of", "turned_point", "turned_condition"] : List Str) ++ (["turned_rule", "is_rule", "unit", "added", "factors_of", "inequality_of", "choice_of", "moves_at", "any_list", "pointer_past", "drag_of", "divisor"] : List Str) ++ (["neat", "turned", "both", "none_of", "summed", "without_one", "is_empty_promise", "value_between", "solution", "first_solution", "rests_at", "flicker_of"] : List Str) ++ (["stuck_of", "ascending", "slip_of", "is_calm", "beyond_of", "is_within", "parting_of", "is_alike", "MOST_POINTERS", "point_at", "is_so", "holds"] : List Str) ++ (["others_of", "spans_at", "turn_of", "rest_of", "places_of", "are_pointers", "need_pointers", "FIGURES", "point_words", "comparison_words", "condition_line", "lines_of"] : List Str) ++ (["point_in", "comparison_in", "split_at", "condition_in", "rule_in", "BOTH_WORDS", "word_index", "put_together", "both_together", "with_condition", "Rule", "_law_source"] : List Str) ++ (["_law_draw", "_law_of", "_law_point", "_law_comparison", "_law_condition", "_law_known", "_law_rule", "_law_parts", "_law_text", "_law_read", "_law_is_part", "_law_is_line"] : List Str) ++ (["_law_spoilt"] : List Str)
def selD : Sel := ⟨(["is_among", "is_number", "is_point", "is_comparison", "is_good_condition", "is_good_rule", "point_in", "comparison_in", "split_at", "joined", "joint_of", "point_words"] : List Str) ++ (["comparison_words", "parts_of", "condition_line", "condition_in", "rule_in", "_law_source", "_law_draw", "_law_of", "_law_known", "_law_point", "_law_comparison", "_law_condition"] : List Str) ++ (["_law_rule", "_law_parts", "_law_text", "_law_read", "_law_is_part", "_law_is_line", "is_rule", "_law_spoilt", "law", "THINGS", "TURNED", "JOINTS"] : List Str) ++ (["FIGURES", "WORDS"] : List Str), ["InvalidText", "DragError", "Rule"]⟩
abbrev RowH : PySem.W.OpenRow := PySem.W.OpenLaw.row PySem.Challenge.rw_dragswaps_k17_texts_spoilt
abbrev hk : PySem.W.Hook := hookM selD faD fnD tabD testD daD
def ob (s : PySem.W.SharedT) : AlM := obsMG selD faD fnD tabD testD daD (HandSHeadRun.getT s)
theorem ob_eq (s : PySem.W.SharedT) : ob s = hk.obs s.abs := obsMG_eq (HandSHeadRun.getT_eq s)
theorem runsOF (w : World) (os : OsState) : (HandSHeadRun.endF (HandSHeadRun.stepQ (HandSHeadRun.denQ HandSHeadRun.tabQ) RowH.prog (w.withFollow "special-get-raises" false)) 20000 RowH.prog (w.withFollow "special-get-raises" false) os).map (fun s => ob s) = some (hk.val (w.withFollow "special-get-raises" false)) := by kernel_rfl
theorem runsLF (w : World) (os : OsState) : (HandSHeadRun.endF (HandSHeadRun.stepQ (HandSHeadRun.denQ HandSHeadRun.tabQ) RowH.prog (w.withFollow "special-get-raises" false)) 20000 RowH.prog (w.withFollow "special-get-raises" false) os).map (fun s => (HandSHeadRun.looksF RowH.prog (PySem.W.boot_heap (w.withFollow "special-get-raises" false).params) s.abs, HandSHeadRun.seenQ (PySem.W.view RowH.prog [107]) looseD (importedModules RowH.prog.main.body) (fun s => PySem.W.xlAt (PySem.W.view RowH.prog [107]) [] s && PySem.W.recOk RowH.toRowW.records s) s.abs)) = some (true, PySem.W.openGood (PySem.W.view RowH.prog [107]) looseD) := by kernel_rfl
theorem runsF (w : World) : HandSHeadRun.RunEq RowH (PySem.W.view RowH.prog [107]) hk ob 20000 looseD (w.withFollow "special-get-raises" false) := fun os => MP.run3 (runsLF w os) (runsOF w os)
theorem runsOT (w : World) (os : OsState) : (HandSHeadRun.endF (HandSHeadRun.stepQ (HandSHeadRun.denQ HandSHeadRun.tabQ) RowH.prog (w.withFollow "special-get-raises" true)) 20000 RowH.prog (w.withFollow "special-get-raises" true) os).map (fun s => ob s) = some (hk.val (w.withFollow "special-get-raises" true)) := by kernel_rfl
theorem runsLT (w : World) (os : OsState) : (HandSHeadRun.endF (HandSHeadRun.stepQ (HandSHeadRun.denQ HandSHeadRun.tabQ) RowH.prog (w.withFollow "special-get-raises" true)) 20000 RowH.prog (w.withFollow "special-get-raises" true) os).map (fun s => (HandSHeadRun.looksF RowH.prog (PySem.W.boot_heap (w.withFollow "special-get-raises" true).params) s.abs, HandSHeadRun.seenQ (PySem.W.view RowH.prog [107]) looseD (importedModules RowH.prog.main.body) (fun s => PySem.W.xlAt (PySem.W.view RowH.prog [107]) [] s && PySem.W.recOk RowH.toRowW.records s) s.abs)) = some (true, PySem.W.openGood (PySem.W.view RowH.prog [107]) looseD) := by kernel_rfl
theorem runsT (w : World) : HandSHeadRun.RunEq RowH (PySem.W.view RowH.prog [107]) hk ob 20000 looseD (w.withFollow "special-get-raises" true) := fun os => MP.run3 (runsLT w os) (runsOT w os)
theorem runs (w : World) : HandSHeadRun.RunEq RowH (PySem.W.view RowH.prog [107]) hk ob 20000 looseD w :=
  PySem.W.byRow2 "special-get-raises" (P := fun w => HandSHeadRun.RunEq RowH (PySem.W.view RowH.prog [107]) hk ob 20000 looseD w) runsF runsT w

end LW
namespace MP
open PySem L2
open PySem.Spec PyProof.Rows

/-! ## places: where the store's cells lie, what else is reserved -/
structure Lo where
  l : List (Option Addr)
  z : List Addr
  x : Option Addr := none
def Lo.av (o : Lo) (a : Addr) : Prop := some a ∉ o.l ∧ a ∉ o.z
/-- a lambda's words: its qualified name, its parameters, its body, its names, those that it captures -/
structure LamD where
  q : Str
  params : Arguments
  body : Expr
  scope : Scope
  fr : List Str
/-! ## data, stores, the monad -/
inductive D where
  | non | bl (b : Bool) | int (i : Int) | str (s : Str)
  | tup (ds : List D) | lst (ds : List D) | dic (ks : List Key) (ds : List D)
  | scr (ns : List Int) | ref (n : Nat) | kset (ds : List D) | cls (c : Str) | exv | tupn (ds : List D)
  | thk (f : Addr) (P : Hp → Lo → Prop) | lam (L : LamD) (cl : List (Str × Addr))
  deriving Inhabited

inductive Cell where
  | dead | lst (ds : List D) | dic (ks : List Key) (ds : List D) | ins (c : Str) (fs : List Str) (ds : List D) | kset (ds : List D)
  deriving Inhabited

abbrev Store := List Cell
structure Exn where
  cls : Str
  arg : Option D

inductive R (α : Type) where
  | ok (a : α) (st : Store) | exn (e : Exn) (st : Store) | stuck

def M (α : Type) : Type := Store → R α
def M.pure {α : Type} (a : α) : M α := fun st => .ok a st
def M.bind {α β : Type} (m : M α) (f : α → M β) : M β := fun st => match m st with
  | .ok a st' => f a st'
  | .exn e st' => .exn e st'
  | .stuck => .stuck
instance : Monad M := { pure := M.pure, bind := M.bind }
def M.stuck {α : Type} : M α := fun _ => .stuck
def M.raise {α : Type} (e : Exn) : M α := fun st => .exn e st
def M.get : M Store := fun st => .ok st st
theorem M.ext {α : Type} {m m' : M α} (h : ∀ st, m st = m' st) : m = m' := funext h
instance : LawfulMonad M := LawfulMonad.mk'
  (id_map := fun x => M.ext fun st => by show (match x st with | .ok a st' => R.ok a st' | .exn e st' => .exn e st' | .stuck => .stuck) = x st; cases x st <;> rfl)
  (pure_bind := fun _ _ => rfl)
  (bind_assoc := fun x f g => M.ext fun st => by
    show M.bind (M.bind x f) g st = M.bind x (fun a => M.bind (f a) g) st
    unfold M.bind
    cases x st <;> rfl)
theorem bind_def {α β : Type} (m : M α) (f : α → M β) (st : Store) : (m >>= f) st = (match m st with
  | .ok a st' => f a st'
  | .exn e st' => .exn e st'
  | .stuck => .stuck) := rfl
theorem pure_def {α : Type} (a : α) (st : Store) : (Pure.pure a : M α) st = .ok a st := rfl

def wpR {α : Type} (r : R α) (Q : α → Store → Prop) (X : Exn → Store → Prop) : Prop := match r with
  | .ok a st => Q a st
  | .exn e st => X e st
  | .stuck => False
theorem wpR.mono {α : Type} {r : R α} {Q Q' : α → Store → Prop} {X X' : Exn → Store → Prop} (h : wpR r Q X) (hQ : ∀ a st, Q a st → Q' a st) (hX : ∀ e st, X e st → X' e st) : wpR r Q' X' := by
  cases r with
  | ok a st => exact hQ _ _ h
  | exn e st => exact hX _ _ h
  | stuck => exact h
theorem wpR.bind {α β : Type} {m : M α} {f : α → M β} {st : Store} {Q : β → Store → Prop} {X : Exn → Store → Prop} : wpR ((m >>= f) st) Q X ↔ wpR (m st) (fun a st' => wpR (f a st') Q X) X := by
  rw [bind_def]
  cases m st <;> exact Iff.rfl

def KTup (K : PySem.W.Frag) (a : Addr) (xs : List V) : Prop :=
  ∃ (o : Obj) (its : Array Value) (n : Nat), K.lookup a = some o ∧ o.cls = .type "tuple" ∧ o.data = .seq its n ∧ its.size ≤ sizeLine ∧ Vals xs its.toList

def KLst (K : PySem.W.Frag) (a : Addr) (xs : List V) : Prop :=
  ∃ (o : Obj) (its : Array Value) (n : Nat), K.lookup a = some o ∧ o.cls = .type "list" ∧ o.dict = none ∧ o.data = .seq its n ∧ its.size ≤ sizeLine ∧ Vals xs its.toList

/-! ### dicts with nested tuples of numbers as keys, all with the value True -/
mutual
def nk : D → Option NestedKey
  | .non => some .none
  | .bl b => some (.num (if b = true then 1 else 0))
  | .int i => some (.num i)
  | .tup ds => (nks ds).map NestedKey.tup
  | _ => none
def nks : List D → Option (List NestedKey)
  | [] => some []
  | d :: ds => (nk d).bind fun k => (nks ds).map (k :: ·)
end
mutual
def hashN : NestedKey → Int
  | .none => reduceHash 0xFCA86420
  | .num i => hashInt i
  | .text _ => 0
  | .tup ks => reduceHash (Builtin.Tuple.tupleHashOf (hashesN ks))
def hashesN : List NestedKey → List Int
  | [] => []
  | k :: ks => hashN k :: hashesN ks
end
mutual
theorem nk_hash {w : World} : ∀ (d : D) (k : NestedKey), nk d = some k → k.hash w = hashN k
  | .non, k, h => by cases (show some NestedKey.none = some k from h); rfl
  | .bl b, k, h => by cases (show some (NestedKey.num _) = some k from h); rfl
  | .int i, k, h => by cases (show some (NestedKey.num _) = some k from h); rfl
  | .tup ds, k, h => by
    obtain ⟨ks, e, rfl⟩ := Option.map_eq_some_iff.mp (show (nks ds).map NestedKey.tup = some k from h)
    show reduceHash (Builtin.Tuple.tupleHashOf (NestedKey.hashes w ks)) = reduceHash (Builtin.Tuple.tupleHashOf (hashesN ks))
    rw [nks_hash ds ks e]
  | .str _, _, h => by cases (show none = some _ from h)
  | .lst _, _, h => by cases (show none = some _ from h)
  | .dic _ _, _, h => by cases (show none = some _ from h)
  | .scr _, _, h => by cases (show none = some _ from h)
  | .ref _, _, h => by cases (show none = some _ from h)
  | .kset _, _, h => by cases (show none = some _ from h)
  | .cls _, _, h => by cases (show none = some _ from h)
  | .exv, _, h => by cases (show none = some _ from h)
  | .tupn _, _, h => by cases (show none = some _ from h)
  | .thk _ _, _, h => by cases (show none = some _ from h)
  | .lam _ _, _, h => by cases (show none = some _ from h)
theorem nks_hash {w : World} : ∀ (ds : List D) (ks : List NestedKey), nks ds = some ks → NestedKey.hashes w ks = hashesN ks
  | [], ks, h => by cases (show some [] = some ks from h); rfl
  | d :: ds, ks, h => by
    obtain ⟨k, e1, e2⟩ := Option.bind_eq_some_iff.mp (show (nk d).bind (fun k => (nks ds).map (k :: ·)) = some ks from h)
    obtain ⟨r, e3, rfl⟩ := Option.map_eq_some_iff.mp e2
    show NestedKey.hash w k :: NestedKey.hashes w r = hashN k :: hashesN r
    rw [nk_hash d k e1, nks_hash ds r e3]
end
abbrev KA := List (NestedKey × Addr)
def entN (k : NestedKey × Addr) : DictEntry := ⟨hashN k.1, .ref k.2, .bool true⟩
def KsAt (h : Heap) (a : Addr) (o : Obj) (kas : KA) : Prop := kas.length ≤ sizeLine ∧ (a == sysModules) = false ∧ h.get? a = some o ∧ o.ExactDict ∧ ∃ es ep, o.data = .dict es ep ∧ es.toList = kas.map entN
def KsO (a : Addr) (o : Obj) (kas : KA) : HO := .ext fun h => KsAt h a o kas
def SetN (a : Addr) (kas : KA) : HO := .ext fun h => ∃ o, KsAt h a o kas
theorem KsAt.new {P : Program} {w : World} {H : Hp} {h : Heap} {a : Addr} {o : Obj} {kas : KA} (k : KsAt h a o kas) : ObjOk P w H h a (KsO a o kas) :=
  ⟨k, ⟨o, k.2.2.1⟩, fun _ _ p q => ⟨p.1, p.2.1, q _ p.2.2.1, p.2.2.2⟩⟩
theorem KsAt.newN {P : Program} {w : World} {H : Hp} {h : Heap} {a : Addr} {o : Obj} {kas : KA} (k : KsAt h a o kas) : ObjOk P w H h a (SetN a kas) :=
  ⟨⟨o, k⟩, ⟨o, k.2.2.1⟩, fun _ _ ⟨o', p⟩ q => ⟨o', p.1, p.2.1, q _ p.2.2.1, p.2.2.2⟩⟩
def KsR (ds : List D) (kas : KA) : Prop := ds.map nk = kas.map (fun k => some k.1) ∧ (kas.map (·.1)).Nodup ∧ ∀ k ∈ kas, k.1.depth ≤ 8

/-! ## how the known grows -/
structure Lc (H : Hp) (o : Lo) (H' : Hp) (o' : Lo) : Prop where
  keep0 : ∀ a u, H a = some u → some a ∉ o.l → (∀ ps, u ≠ .tbl ps) → H' a = some u ∧ some a ∉ o'.l
  loc : ∀ (n : Nat) (x : Option Addr), o.l[n]? = some x → o'.l[n]? = some x ∨ o'.l[n]? = some none
  x : o'.x = o.x
structure Le (H : Hp) (o : Lo) (H' : Hp) (o' : Lo) : Prop extends Lc H o H' o' where
  z : o'.z = o.z
theorem Lc.keep {H : Hp} {o : Lo} {H' : Hp} {o' : Lo} (e : Lc H o H' o') (a : Addr) (u : HO) (h : H a = some u) (n : some a ∉ o.l) (nt : ∀ ps, u ≠ .tbl ps := by first | assumption | (intro _ z; cases z)) : H' a = some u ∧ some a ∉ o'.l := e.keep0 a u h n nt
theorem Lc.refl (H : Hp) (o : Lo) : Lc H o H o := ⟨fun _ _ h n _ => ⟨h, n⟩, fun _ _ h => .inl h, rfl⟩
theorem Le.refl (H : Hp) (o : Lo) : Le H o H o := ⟨Lc.refl _ _, rfl⟩
theorem Lc.trans {H H1 H2 : Hp} {o o1 o2 : Lo} (a : Lc H o H1 o1) (b : Lc H1 o1 H2 o2) : Lc H o H2 o2 :=
  ⟨fun p u h n nt => let ⟨h1, n1⟩ := a.keep p u h n; b.keep p u h1 n1, fun n x h => by
    rcases a.loc n x h with h | h
    · exact b.loc n x h
    · exact .inr ((b.loc n none h).elim id id), b.x.trans a.x⟩
theorem Le.trans {H H1 H2 : Hp} {o o1 o2 : Lo} (a : Le H o H1 o1) (b : Le H1 o1 H2 o2) : Le H o H2 o2 := ⟨a.toLc.trans b.toLc, b.z.trans a.z⟩
theorem Lc.av {H : Hp} {o : Lo} {H' : Hp} {o' : Lo} (e : Lc H o H' o') (hz : ∀ a ∈ o'.z, a ∈ o.z ∨ H a = none) {a : Addr} {u : HO} (h : H a = some u) (v : o.av a) (nt : ∀ ps, u ≠ .tbl ps := by first | assumption | (intro _ z; cases z)) : H' a = some u ∧ o'.av a :=
  let ⟨h1, n1⟩ := e.keep a u h v.1 nt
  ⟨h1, n1, fun q => (hz a q).elim v.2 fun e => by rw [h] at e; cases e⟩
/-- by such steps, and by what is written at reserved places -/
inductive Rch (H : Hp) (o : Lo) : Hp → Lo → Prop where
  | refl : Rch H o H o
  | le {H1 H2 : Hp} {o1 o2 : Lo} : Rch H o H1 o1 → Lc H1 o1 H2 o2 → (∀ a ∈ o2.z, a ∈ o1.z ∨ H1 a = none) → Rch H o H2 o2
  | av {H1 H2 : Hp} {o1 : Lo} {p : Addr} : Rch H o H1 o1 → p ∈ o1.z → (∀ b, b ≠ p → H2 b = H1 b) → Rch H o H2 o1
theorem Rch.trans {H H1 H2 : Hp} {o o1 o2 : Lo} (a : Rch H o H1 o1) (b : Rch H1 o1 H2 o2) : Rch H o H2 o2 := by
  induction b with
  | refl => exact a
  | le _ l z ih => exact .le ih l z
  | av _ p h ih => exact .av ih p h
/-- a thing that is known, unreserved, and no table: it stays so -/
theorem Rch.keep {H H' : Hp} {o o' : Lo} (r : Rch H o H' o') {a : Addr} {u : HO} (h : H a = some u) (v : o.av a) (nt : ∀ ps, u ≠ .tbl ps := by first | assumption | (intro _ z; cases z)) : H' a = some u ∧ o'.av a := by
  induction r with
  | refl => exact ⟨h, v⟩
  | le _ l z ih => exact l.av z ih.1 ih.2 nt
  | av _ p e ih => exact ⟨by rw [e _ (fun q => ih.2.2 (by rw [q]; exact p))]; exact ih.1, ih.2⟩
/-! ## closures -/
def LamO (f : Addr) (L : LamD) (c : Addr) (cl : List (Str × Addr)) : HO := .ext fun h => ∃ pm ctv, h.get? f = some (PySem.W.kla_obj "<lambda>" L.q L.params L.body L.scope cl pm c ctv)
/-- a lambda object, its code object -/
structure LamAt (H : Hp) (o : Lo) (L : LamD) (cl : List (Str × Addr)) (f : Addr) : Prop where
  ex : ∃ c, H f = some (LamO f L c cl) ∧ o.av f ∧ H c = some (LamX.CodeO c L.q) ∧ o.av c
theorem LamAt.rch {H H' : Hp} {o o' : Lo} {L : LamD} {cl : List (Str × Addr)} {f : Addr} (p : LamAt H o L cl f) (r : Rch H o H' o') : LamAt H' o' L cl f := by
  obtain ⟨c, h1, h2, h3, h4⟩ := p.ex
  obtain ⟨h6, h7⟩ := r.keep h1 h2
  obtain ⟨h8, h9⟩ := r.keep h3 h4 (by unfold LamX.CodeO; intro _ z; cases z)
  exact ⟨c, h6, h7, h8, h9⟩

mutual
def Rep (K : PySem.W.Frag) (H : Hp) (o : Lo) : D → V → Prop
  | .non, v => v = .non
  | .bl b, v => v = .bl b
  | .int i, v => v = .int i
  | .str s, v => v = .str s
  | .tup ds, v => ∃ a xs, v = .ref a ∧ ((H a = some (.tup xs) ∧ o.av a) ∨ KTup K a xs) ∧ Reps K H o ds xs
  | .lst ds, v => ∃ a xs, v = .ref a ∧ H a = some (.lst xs) ∧ o.av a ∧ Reps K H o ds xs
  | .dic ks ds, v => ∃ a kvs, v = .ref a ∧ H a = some (.dK kvs) ∧ o.av a ∧ kvs.map (·.1) = ks ∧ Reps K H o ds (kvs.map (·.2))
  | .scr ns, v => ∃ a, v = .ref a ∧ ((Rd H a (.lst (ns.map V.int)) ∧ o.av a) ∨ KLst K a (ns.map V.int))
  | .ref n, v => ∃ a, v = .ref a ∧ (o.l[n]? = some (some a) ∨ o.l[n]? = some none)
  | .kset ds, v => ∃ a ob kas, v = .ref a ∧ H a = some (KsO a ob kas) ∧ o.av a ∧ KsR ds kas ∧ Reps K H o ds (kas.map fun k => V.ref k.2)
  | .cls c, v => v = .ref (He.ga K c)
  | .exv, v => ∃ a, v = .ref a ∧ o.x = some a
  | .tupn ds, v => ∃ a ob xs, v = .ref a ∧ H a = some (.frz ob (.tup xs)) ∧ ob.dict = none ∧ o.av a ∧ Reps K H o ds xs
  | .thk f P, v => v = .ref f ∧ ∀ H' o', Rch H o H' o' → P H' o'
  | .lam L cl, v => ∃ f, v = .ref f ∧ LamAt H o L cl f
def Reps (K : PySem.W.Frag) (H : Hp) (o : Lo) : List D → List V → Prop
  | [], vs => vs = []
  | d :: ds, vs => ∃ v vs', vs = v :: vs' ∧ Rep K H o d v ∧ Reps K H o ds vs'
end

section
variable {K : PySem.W.Frag} {H H' : Hp} {o o' : Lo}
mutual
theorem Rep.monoC (e : Lc H o H' o') (hz : ∀ a ∈ o'.z, a ∈ o.z ∨ H a = none) : ∀ (d : D) (v : V), Rep K H o d v → Rep K H' o' d v
  | .non, v, h => h
  | .bl _, v, h => h
  | .int _, v, h => h
  | .str _, v, h => h
  | .tup ds, v, h => by
    obtain ⟨a, xs, rfl, h1, h2⟩ := h
    refine ⟨a, xs, rfl, ?_, Reps.monoC e hz ds xs h2⟩
    rcases h1 with ⟨h1, h3⟩ | h1
    · exact .inl (e.av hz h1 h3)
    · exact .inr h1
  | .lst ds, v, h => by
    obtain ⟨a, xs, rfl, h1, h3, h2⟩ := h
    obtain ⟨h4, h5⟩ := e.av hz h1 h3
    exact ⟨a, xs, rfl, h4, h5, Reps.monoC e hz ds xs h2⟩
  | .dic ks ds, v, h => by
    obtain ⟨a, kvs, rfl, h1, h3, hk, h2⟩ := h
    obtain ⟨h4, h5⟩ := e.av hz h1 h3
    exact ⟨a, kvs, rfl, h4, h5, hk, Reps.monoC e hz ds _ h2⟩
  | .scr ns, v, h => by
    obtain ⟨a, rfl, h1⟩ := h
    refine ⟨a, rfl, ?_⟩
    rcases h1 with ⟨h1, h3⟩ | h1
    · rcases h1 with h1 | ⟨ob, h1⟩
      · obtain ⟨h4, h5⟩ := e.av hz h1 h3
        exact .inl ⟨.inl h4, h5⟩
      · obtain ⟨h4, h5⟩ := e.av hz h1 h3
        exact .inl ⟨.inr ⟨ob, h4⟩, h5⟩
    · exact .inr h1
  | .ref n, v, h => by
    obtain ⟨a, rfl, h⟩ := h
    refine ⟨a, rfl, ?_⟩
    rcases h with h | h
    · exact e.loc n _ h
    · exact .inr ((e.loc n _ h).elim id id)
  | .cls _, v, h => h
  | .tupn ds, v, h => by
    obtain ⟨a, ob, xs, rfl, h1, hd, h3, h2⟩ := h
    obtain ⟨h4, h5⟩ := e.av hz h1 h3
    exact ⟨a, ob, xs, rfl, h4, hd, h5, Reps.monoC e hz ds xs h2⟩
  | .exv, v, h => by
    obtain ⟨a, rfl, h⟩ := h
    exact ⟨a, rfl, e.x.trans h⟩
  | .thk f P, v, h => ⟨h.1, fun H2 o2 r => h.2 H2 o2 ((Rch.refl.le e hz).trans r)⟩
  | .lam L cl, v, h => by
    obtain ⟨f, rfl, h1⟩ := h
    exact ⟨f, rfl, h1.rch (Rch.refl.le e hz)⟩
  | .kset ds, v, h => by
    obtain ⟨a, ob, kas, rfl, h1, h3, h4, h2⟩ := h
    obtain ⟨h5, h6⟩ := e.av hz h1 h3
    exact ⟨a, ob, kas, rfl, h5, h6, h4, Reps.monoC e hz ds _ h2⟩
theorem Reps.monoC (e : Lc H o H' o') (hz : ∀ a ∈ o'.z, a ∈ o.z ∨ H a = none) : ∀ (ds : List D) (vs : List V), Reps K H o ds vs → Reps K H' o' ds vs
  | [], _, h => h
  | d :: ds, _, h => by
    obtain ⟨v, vs, rfl, h1, h2⟩ := h
    exact ⟨v, vs, rfl, Rep.monoC e hz d v h1, Reps.monoC e hz ds vs h2⟩
end
theorem Rep.mono (e : Le H o H' o') (d : D) (v : V) (h : Rep K H o d v) : Rep K H' o' d v := Rep.monoC e.toLc (fun a q => .inl (by rw [← e.z]; exact q)) d v h
theorem Reps.mono (e : Le H o H' o') (ds : List D) (vs : List V) (h : Reps K H o ds vs) : Reps K H' o' ds vs := Reps.monoC e.toLc (fun a q => .inl (by rw [← e.z]; exact q)) ds vs h

mutual
theorem Rep.avoid {p : Addr} (hp : p ∈ o.z) (hH : ∀ b, b ≠ p → H' b = H b) : ∀ (d : D) (v : V), Rep K H o d v → Rep K H' o d v
  | .non, v, h => h
  | .bl _, v, h => h
  | .int _, v, h => h
  | .str _, v, h => h
  | .tup ds, v, h => by
    obtain ⟨a, xs, rfl, h1, h2⟩ := h
    refine ⟨a, xs, rfl, ?_, Reps.avoid hp hH ds xs h2⟩
    rcases h1 with ⟨h1, h3⟩ | h1
    · exact .inl ⟨by rw [hH a (fun q => h3.2 (by rw [q]; exact hp))]; exact h1, h3⟩
    · exact .inr h1
  | .lst ds, v, h => by
    obtain ⟨a, xs, rfl, h1, h3, h2⟩ := h
    exact ⟨a, xs, rfl, by rw [hH a (fun q => h3.2 (by rw [q]; exact hp))]; exact h1, h3, Reps.avoid hp hH ds xs h2⟩
  | .dic ks ds, v, h => by
    obtain ⟨a, kvs, rfl, h1, h3, hk, h2⟩ := h
    exact ⟨a, kvs, rfl, by rw [hH a (fun q => h3.2 (by rw [q]; exact hp))]; exact h1, h3, hk, Reps.avoid hp hH ds _ h2⟩
  | .scr ns, v, h => by
    obtain ⟨a, rfl, h1⟩ := h
    refine ⟨a, rfl, ?_⟩
    rcases h1 with ⟨h1, h3⟩ | h1
    · have e1 : H' a = H a := hH a (fun q => h3.2 (by rw [q]; exact hp))
      rcases h1 with h1 | ⟨ob, h1⟩
      · exact .inl ⟨.inl (by rw [e1]; exact h1), h3⟩
      · exact .inl ⟨.inr ⟨ob, by rw [e1]; exact h1⟩, h3⟩
    · exact .inr h1
  | .ref n, v, h => h
  | .cls _, v, h => h
  | .exv, v, h => h
  | .thk f P, v, h => ⟨h.1, fun H2 o2 r => h.2 H2 o2 ((Rch.refl.av hp hH).trans r)⟩
  | .lam L cl, v, h => by
    obtain ⟨f, rfl, h1⟩ := h
    exact ⟨f, rfl, h1.rch (Rch.refl.av hp hH)⟩
  | .tupn ds, v, h => by
    obtain ⟨a, ob, xs, rfl, h1, hd, h3, h2⟩ := h
    exact ⟨a, ob, xs, rfl, by rw [hH a (fun q => h3.2 (by rw [q]; exact hp))]; exact h1, hd, h3, Reps.avoid hp hH ds xs h2⟩
  | .kset ds, v, h => by
    obtain ⟨a, ob, kas, rfl, h1, h3, h4, h2⟩ := h
    exact ⟨a, ob, kas, rfl, by rw [hH a (fun q => h3.2 (by rw [q]; exact hp))]; exact h1, h3, h4, Reps.avoid hp hH ds _ h2⟩
theorem Reps.avoid {p : Addr} (hp : p ∈ o.z) (hH : ∀ b, b ≠ p → H' b = H b) : ∀ (ds : List D) (vs : List V), Reps K H o ds vs → Reps K H' o ds vs
  | [], _, h => h
  | d :: ds, _, h => by
    obtain ⟨v, vs, rfl, h1, h2⟩ := h
    exact ⟨v, vs, rfl, Rep.avoid hp hH d v h1, Reps.avoid hp hH ds vs h2⟩
end
/-! ## lists of representations -/
theorem Reps.length : ∀ {ds : List D} {vs : List V}, Reps K H o ds vs → vs.length = ds.length
  | [], vs, h => by cases (show vs = [] from h); rfl
  | d :: ds, vs, h => by
    obtain ⟨v, vs', rfl, _, h2⟩ := h
    simp [Reps.length h2]
theorem Reps.get : ∀ {ds : List D} {vs : List V} {i : Nat} {d : D}, Reps K H o ds vs → ds[i]? = some d → ∃ v, vs[i]? = some v ∧ Rep K H o d v
  | [], _, _, _, _, e => by simp at e
  | d :: ds, vs, 0, d', h, e => by
    obtain ⟨v, vs', rfl, h1, _⟩ := h
    simp at e; subst e
    exact ⟨v, by simp, h1⟩
  | d :: ds, vs, i + 1, d', h, e => by
    obtain ⟨v, vs', rfl, _, h2⟩ := h
    obtain ⟨v', e1, e2⟩ := Reps.get (i := i) h2 (by simpa using e)
    exact ⟨v', by simpa using e1, e2⟩
theorem Reps.getV {ds : List D} {vs : List V} {i : Nat} {v : V} (h : Reps K H o ds vs) (e : vs[i]? = some v) : ∃ d, ds[i]? = some d ∧ Rep K H o d v := by
  have hi : i < ds.length := by rw [← h.length]; exact (List.getElem?_eq_some_iff.mp e).1
  obtain ⟨v', e1, e2⟩ := h.get (List.getElem?_eq_getElem hi)
  rw [e] at e1; cases e1
  exact ⟨_, List.getElem?_eq_getElem hi, e2⟩
theorem Reps.append : ∀ {ds : List D} {vs : List V} {ds' : List D} {vs' : List V}, Reps K H o ds vs → Reps K H o ds' vs' → Reps K H o (ds ++ ds') (vs ++ vs')
  | [], vs, _, _, h, h' => by cases (show vs = [] from h); exact h'
  | d :: ds, vs, _, _, h, h' => by
    obtain ⟨v, vs1, rfl, h1, h2⟩ := h
    exact ⟨v, vs1 ++ _, rfl, h1, Reps.append h2 h'⟩
theorem Reps.take : ∀ (n : Nat) {ds : List D} {vs : List V}, Reps K H o ds vs → Reps K H o (ds.take n) (vs.take n)
  | 0, _, _, _ => by simp [Reps]
  | n + 1, [], vs, h => by cases (show vs = [] from h); simp [Reps]
  | n + 1, d :: ds, vs, h => by
    obtain ⟨v, vs1, rfl, h1, h2⟩ := h
    exact ⟨v, vs1.take n, rfl, h1, Reps.take n h2⟩
theorem Reps.drop : ∀ (n : Nat) {ds : List D} {vs : List V}, Reps K H o ds vs → Reps K H o (ds.drop n) (vs.drop n)
  | 0, _, _, h => h
  | n + 1, [], vs, h => by cases (show vs = [] from h); simp [Reps]
  | n + 1, d :: ds, vs, h => by
    obtain ⟨v, vs1, rfl, h1, h2⟩ := h
    exact Reps.drop n h2
theorem Reps.set : ∀ {ds : List D} {vs : List V} (i : Nat) {d : D} {v : V}, Reps K H o ds vs → Rep K H o d v → Reps K H o (ds.set i d) (vs.set i v)
  | [], vs, _, _, _, h, _ => by cases (show vs = [] from h); simp [Reps]
  | d :: ds, vs, 0, d', v', h, r => by
    obtain ⟨v, vs1, rfl, h1, h2⟩ := h
    exact ⟨v', vs1, rfl, r, h2⟩
  | d :: ds, vs, i + 1, d', v', h, r => by
    obtain ⟨v, vs1, rfl, h1, h2⟩ := h
    exact ⟨v, vs1.set i v', rfl, h1, Reps.set i h2 r⟩
theorem Reps.one {d : D} {v : V} (h : Rep K H o d v) : Reps K H o [d] [v] := ⟨v, [], rfl, h, rfl⟩
theorem Reps.nil_iff {ds : List D} {vs : List V} (h : Reps K H o ds vs) : vs = [] ↔ ds = [] := by
  have e := h.length
  constructor
  · intro q; subst q; exact List.length_eq_zero_iff.mp e.symm
  · intro q; subst q; exact List.length_eq_zero_iff.mp e
theorem Reps.ints : ∀ {ns : List Int} {vs : List V}, Reps K H o (ns.map D.int) vs → vs = ns.map V.int
  | [], vs, h => h
  | n :: ns, vs, h => by
    obtain ⟨v, vs', rfl, h1, h2⟩ := h
    cases (show v = .int n from h1)
    rw [Reps.ints h2]; rfl
theorem Reps.bls : ∀ {bs : List Bool} {vs : List V}, Reps K H o (bs.map D.bl) vs → vs = bs.map V.bl
  | [], vs, h => h
  | n :: ns, vs, h => by
    obtain ⟨v, vs', rfl, h1, h2⟩ := h
    cases (show v = .bl n from h1)
    rw [Reps.bls h2]; rfl
theorem Reps.strs : ∀ {ss : List Str} {vs : List V}, Reps K H o (ss.map D.str) vs → vs = ss.map V.str
  | [], vs, h => h
  | n :: ns, vs, h => by
    obtain ⟨v, vs', rfl, h1, h2⟩ := h
    cases (show v = .str n from h1)
    rw [Reps.strs h2]; rfl
theorem Reps.ofStrs : ∀ (ss : List Str), Reps K H o (ss.map D.str) (ss.map V.str)
  | [] => rfl
  | s :: ss => ⟨_, _, rfl, rfl, Reps.ofStrs ss⟩
theorem Reps.ofInts : ∀ (ns : List Int), Reps K H o (ns.map D.int) (ns.map V.int)
  | [] => rfl
  | s :: ss => ⟨_, _, rfl, rfl, Reps.ofInts ss⟩
theorem KTup.sq {a : Addr} {xs : List V} (h : KTup K a xs) : SqT K H a xs := .inr h
theorem tup_sq {a : Addr} {xs : List V} (h : (H a = some (.tup xs) ∧ o.av a) ∨ KTup K a xs) : SqT K H a xs := h.elim (fun h => .inl (.inl h.1)) fun h => .inr h

/-! ## what keeps all representations -/
def LeR (K : PySem.W.Frag) (H : Hp) (o : Lo) (H' : Hp) (o' : Lo) : Prop := ∀ d v, Rep K H o d v → Rep K H' o' d v
theorem Le.rep (e : Le H o H' o') : LeR K H o H' o' := fun d v => Rep.mono e d v
theorem LeR.reps (e : LeR K H o H' o') : ∀ {ds : List D} {vs : List V}, Reps K H o ds vs → Reps K H' o' ds vs
  | [], _, h => h
  | d :: ds, _, h => by
    obtain ⟨v, vs, rfl, h1, h2⟩ := h
    exact ⟨v, vs, rfl, e d v h1, LeR.reps e h2⟩
theorem LeR.trans {H1 : Hp} {o1 : Lo} (a : LeR K H o H1 o1) (b : LeR K H1 o1 H' o') : LeR K H o H' o' := fun d v h => b d v (a d v h)

/-! ## the store -/
def CellOk (K : PySem.W.Frag) (H : Hp) (o : Lo) (x : Option (Option Addr)) : Cell → Prop
  | .dead => x = some none
  | .lst ds => ∃ a xs, x = some (some a) ∧ H a = some (.lst xs) ∧ Reps K H o ds xs
  | .dic ks ds => ∃ a kvs, x = some (some a) ∧ H a = some (.dK kvs) ∧ kvs.map (·.1) = ks ∧ Reps K H o ds (kvs.map (·.2))
  | .ins c fs ds => ∃ a dx vs, x = some (some a) ∧ H a = some (.ins (He.ga K c) dx vs) ∧ vs.map (·.1) = fs ∧ Reps K H o ds (vs.map (·.2))
  | .kset ds => ∃ a kas, x = some (some a) ∧ H a = some (SetN a kas) ∧ KsR ds kas ∧ Reps K H o ds (kas.map fun k => V.ref k.2)
/-- the table of a code object: each code object that it tells bears the name -/
def TabK (H : Hp) (o : Lo) (p : Addr × Str) : Prop := ∃ ps : Array Value, H p.1 = some (.tbl ps) ∧ o.av p.1 ∧ TriplesOk ps.toList ∧ ∀ (pos : Pos) (cv : Value), codeAmong pos ps.toList = some cv → ∃ c, cv = .ref c ∧ H c = some (LamX.CodeO c p.2) ∧ o.av c
def KpA (H : Hp) (o : Lo) (H' : Hp) (o' : Lo) : Prop := ∀ a u, H a = some u → o.av a → H' a = some u ∧ o'.av a
theorem TabK.mono {H H' : Hp} {o o' : Lo} {p : Addr × Str} (t : TabK H o p) (k : KpA H o H' o') : TabK H' o' p := by
  obtain ⟨ps, h1, h2, h3, h4⟩ := t
  obtain ⟨h5, h6⟩ := k _ _ h1 h2
  refine ⟨ps, h5, h6, h3, fun pos cv e => ?_⟩
  obtain ⟨c, e1, e2, e3⟩ := h4 pos cv e
  obtain ⟨e4, e5⟩ := k _ _ e2 e3
  exact ⟨c, e1, e4, e5⟩
structure StOk (K : PySem.W.Frag) (H : Hp) (o : Lo) (st : Store) : Prop where
  len : o.l.length = st.length
  nd : ∀ (n m : Nat) (a : Addr), o.l[n]? = some (some a) → o.l[m]? = some (some a) → n = m
  zt : ∀ a ∈ o.z, (∃ u, H a = some u) ∧ some a ∉ o.l
  cell : ∀ (n : Nat) (c : Cell), st[n]? = some c → CellOk K H o o.l[n]? c
  tb : ∀ p ∈ tabsK K, TabK H o p
variable {st : Store}
theorem StOk.live (s : StOk K H o st) {a : Addr} (h : some a ∈ o.l) : ∃ u, H a = some u := by
  obtain ⟨n, hn, e⟩ := List.getElem_of_mem h
  have e1 : o.l[n]? = some (some a) := by rw [List.getElem?_eq_getElem hn, e]
  have hs : n < st.length := by rw [← s.len]; exact hn
  have c := s.cell n _ (List.getElem?_eq_getElem hs)
  rw [e1] at c
  cases q : st[n] with
  | dead => rw [q] at c; cases c
  | lst ds => rw [q] at c; obtain ⟨b, xs, e2, h2, _⟩ := c; cases e2; exact ⟨_, h2⟩
  | dic ks ds => rw [q] at c; obtain ⟨b, xs, e2, h2, _⟩ := c; cases e2; exact ⟨_, h2⟩
  | ins cc fs ds => rw [q] at c; obtain ⟨b, dx, xs, e2, h2, _⟩ := c; cases e2; exact ⟨_, h2⟩
  | kset ds => rw [q] at c; obtain ⟨b, xs, e2, h2, _⟩ := c; cases e2; exact ⟨_, h2⟩
theorem StOk.avOf (s : StOk K H o st) {p : Addr} (h : H p = none) : o.av p :=
  ⟨fun q => (by obtain ⟨u, e⟩ := s.live q; rw [h] at e; cases e), fun q => (by obtain ⟨⟨u, e⟩, _⟩ := s.zt p q; rw [h] at e; cases e)⟩
theorem CellOk.mono {x : Option (Option Addr)} {c : Cell} (h : CellOk K H o x c) (r : LeR K H o H' o') (k : ∀ a u, x = some (some a) → H a = some u → H' a = some u) : CellOk K H' o' x c := by
  cases c with
  | dead => exact h
  | lst ds => obtain ⟨a, xs, e, h1, h2⟩ := h; exact ⟨a, xs, e, k a _ e h1, r.reps h2⟩
  | dic ks ds => obtain ⟨a, xs, e, h1, h3, h2⟩ := h; exact ⟨a, xs, e, k a _ e h1, h3, r.reps h2⟩
  | ins c fs ds => obtain ⟨a, dx, xs, e, h1, h3, h2⟩ := h; exact ⟨a, dx, xs, e, k a _ e h1, h3, r.reps h2⟩
  | kset ds => obtain ⟨a, xs, e, h1, h3, h2⟩ := h; exact ⟨a, xs, e, k a _ e h1, h3, r.reps h2⟩
theorem Le.new {p : Addr} {u : HO} (h : H p = none) : Le H o (upd H p u) o :=
  ⟨⟨fun a w e n _ => ⟨by rw [upd_ne (ne_of_none e h)]; exact e, n⟩, fun _ _ e => .inl e, rfl⟩, rfl⟩
theorem KpA.new {p : Addr} {u : HO} (h : H p = none) : KpA H o (upd H p u) o := fun a w e v => ⟨by rw [upd_ne (ne_of_none e h)]; exact e, v⟩
theorem StOk.new {p : Addr} {u : HO} (s : StOk K H o st) (h : H p = none) : StOk K (upd H p u) o st :=
  ⟨s.len, s.nd, fun a ha => let ⟨⟨w, e⟩, n⟩ := s.zt a ha; ⟨⟨w, by rw [upd_ne (ne_of_none e h)]; exact e⟩, n⟩,
    fun n c e => (s.cell n c e).mono (Le.new h).rep fun a w _ e2 => by rw [upd_ne (ne_of_none e2 h)]; exact e2, fun q hq => (s.tb q hq).mono (KpA.new h)⟩
/-- a new object that is a value -/
theorem Rep.newTup {p : Addr} {ds : List D} {xs : List V} (s : StOk K H o st) (h : H p = none) (r : Reps K H o ds xs) : Rep K (upd H p (.tup xs)) o (.tup ds) (.ref p) :=
  ⟨p, xs, rfl, .inl ⟨upd_same, s.avOf h⟩, (Le.new h).rep.reps r⟩
theorem Rep.newLst {p : Addr} {ds : List D} {xs : List V} (s : StOk K H o st) (h : H p = none) (r : Reps K H o ds xs) : Rep K (upd H p (.lst xs)) o (.lst ds) (.ref p) :=
  ⟨p, xs, rfl, upd_same, s.avOf h, (Le.new h).rep.reps r⟩
theorem Rep.newDic {p : Addr} {kvs : List (Key × V)} {ds : List D} (s : StOk K H o st) (h : H p = none) (r : Reps K H o ds (kvs.map (·.2))) : Rep K (upd H p (.dK kvs)) o (.dic (kvs.map (·.1)) ds) (.ref p) :=
  ⟨p, kvs, rfl, upd_same, s.avOf h, rfl, (Le.new h).rep.reps r⟩
/-! ### a new cell -/
abbrev Lo.push (o : Lo) (p : Addr) : Lo := { o with l := o.l ++ [some p] }
theorem Le.alloc {p : Addr} {u : HO} (h : H p = none) : Le H o (upd H p u) (o.push p) :=
  ⟨⟨fun a w e n _ => ⟨by rw [upd_ne (ne_of_none e h)]; exact e, fun q => by
    rcases List.mem_append.mp q with q | q
    · exact n q
    · have q' : some a = some p := by simpa using q
      cases q'; rw [h] at e; cases e⟩, fun n x e => .inl (by
        rw [show (o.push p).l = o.l ++ [some p] from rfl, List.getElem?_append_left (List.getElem?_eq_some_iff.mp e).1]; exact e), rfl⟩, rfl⟩
theorem KpA.alloc {p : Addr} {u : HO} (h : H p = none) : KpA H o (upd H p u) (o.push p) := fun a w e v => ⟨by rw [upd_ne (ne_of_none e h)]; exact e, ⟨(fun q => by
    rcases List.mem_append.mp q with q | q
    · exact v.1 q
    · have q' : some a = some p := by simpa using q
      cases q'; rw [h] at e; cases e), v.2⟩⟩
theorem StOk.alloc {p : Addr} {u : HO} {c : Cell} (s : StOk K H o st) (h : H p = none) (hc : CellOk K (upd H p u) (o.push p) (some (some p)) c) : StOk K (upd H p u) (o.push p) (st ++ [c]) := by
  have av := s.avOf h
  refine ⟨by simp [s.len], fun n m a e1 e2 => ?_, fun a ha => ?_, fun n c' e => ?_, fun q hq => (s.tb q hq).mono (KpA.alloc h)⟩
  · have g : ∀ n, (o.l ++ [some p])[n]? = some (some a) → (n < o.l.length ∧ o.l[n]? = some (some a)) ∨ (n = o.l.length ∧ a = p) := fun n e => by
      by_cases hn : n < o.l.length
      · rw [List.getElem?_append_left hn] at e; exact .inl ⟨hn, e⟩
      · have hl := (List.getElem?_eq_some_iff.mp e).1
        simp at hl
        have : n = o.l.length := by omega
        subst this
        rw [List.getElem?_append_right (Nat.le_refl _)] at e
        simp at e
        exact .inr ⟨rfl, e.symm⟩
    rcases g n e1 with ⟨_, h1⟩ | ⟨rfl, h1⟩ <;> rcases g m e2 with ⟨_, h2⟩ | ⟨rfl, h2⟩
    · exact s.nd n m a h1 h2
    · subst h2; exact absurd (List.mem_of_getElem? h1) av.1
    · subst h1; exact absurd (List.mem_of_getElem? h2) av.1
    · rfl
  · obtain ⟨⟨w, e⟩, n⟩ := s.zt a ha
    refine ⟨⟨w, by rw [upd_ne (ne_of_none e h)]; exact e⟩, fun q => ?_⟩
    rcases List.mem_append.mp q with q | q
    · exact n q
    · have q' : some a = some p := by simpa using q
      cases q'; rw [h] at e; cases e
  · by_cases hn : n < st.length
    · rw [List.getElem?_append_left hn] at e
      have hn2 : n < o.l.length := by rw [s.len]; exact hn
      show CellOk _ _ _ ((o.l ++ [some p])[n]?) _
      rw [List.getElem?_append_left hn2]
      exact (s.cell n c' e).mono (Le.alloc h).rep fun a w _ e2 => by rw [upd_ne (ne_of_none e2 h)]; exact e2
    · have hl := (List.getElem?_eq_some_iff.mp e).1
      simp at hl
      have e3 : n = st.length := by omega
      subst e3
      rw [List.getElem?_append_right (Nat.le_refl _)] at e
      simp at e
      subst e
      show CellOk _ _ _ ((o.l ++ [some p])[st.length]?) _
      rw [← s.len, List.getElem?_append_right (Nat.le_refl _)]
      simpa using hc
theorem Rep.alloc {p : Addr} {u : HO} (s : StOk K H o st) : Rep K (upd H p u) (o.push p) (.ref st.length) (.ref p) :=
  ⟨p, rfl, .inl (by show (o.l ++ [some p])[st.length]? = _; rw [← s.len, List.getElem?_append_right (Nat.le_refl _)]; simp)⟩
/-! ### a cell is changed -/
theorem Le.write {a : Addr} {u : HO} (h : some a ∈ o.l) : Le H o (upd H a u) o :=
  ⟨⟨fun b w e n _ => ⟨by rw [upd_ne (fun q => n (by rw [q]; exact h))]; exact e, n⟩, fun _ _ e => .inl e, rfl⟩, rfl⟩
theorem KpA.write {a : Addr} {u : HO} (h : some a ∈ o.l) : KpA H o (upd H a u) o := fun b w e v => ⟨by rw [upd_ne (fun q => v.1 (by rw [q]; exact h))]; exact e, v⟩
theorem StOk.write {n : Nat} {a : Addr} {u : HO} {c : Cell} (s : StOk K H o st) (hl : o.l[n]? = some (some a)) (hc : CellOk K (upd H a u) o (some (some a)) c) : StOk K (upd H a u) o (st.set n c) := by
  have hm : some a ∈ o.l := List.mem_of_getElem? hl
  refine ⟨by simp [s.len], s.nd, fun b hb => ?_, fun m c' e => ?_, fun q hq => (s.tb q hq).mono (KpA.write hm)⟩
  · obtain ⟨⟨w, e⟩, nm⟩ := s.zt b hb
    exact ⟨⟨w, by rw [upd_ne (fun q => nm (by rw [q]; exact hm))]; exact e⟩, nm⟩
  · by_cases hn : n = m
    · subst hn
      have hn' : n < st.length := by rw [← s.len]; exact (List.getElem?_eq_some_iff.mp hl).1
      rw [List.getElem?_set_self hn'] at e
      cases e
      rw [hl]; exact hc
    · rw [List.getElem?_set_ne hn] at e
      exact (s.cell m c' e).mono (Le.write hm).rep fun b w e1 e2 => by
        rw [upd_ne (fun q => hn (by subst q; exact s.nd n m _ hl e1))]; exact e2
/-! ### a cell ends; what it held is a value from now on -/
theorem Le.free {n : Nat} : Le H o H { o with l := o.l.set n none } :=
  ⟨⟨fun a u e h _ => ⟨e, fun q => by
    rcases List.mem_or_eq_of_mem_set q with q | q
    · exact h q
    · cases q⟩, fun m x e => by
      by_cases hn : n = m
      · subst hn
        right
        exact List.getElem?_set_self (List.getElem?_eq_some_iff.mp e).1
      · left; show (o.l.set n none)[m]? = some x; rw [List.getElem?_set_ne hn]; exact e, rfl⟩, rfl⟩
theorem KpA.free {n : Nat} : KpA H o H { o with l := o.l.set n none } := fun a u e v => ⟨e, ⟨(fun q => by
    rcases List.mem_or_eq_of_mem_set q with q | q
    · exact v.1 q
    · cases q), v.2⟩⟩
theorem StOk.free {n : Nat} {a : Addr} (s : StOk K H o st) (hl : o.l[n]? = some (some a)) : StOk K H { o with l := o.l.set n none } (st.set n .dead) ∧ Lo.av { o with l := o.l.set n none } a := by
  have hn0 : n < o.l.length := (List.getElem?_eq_some_iff.mp hl).1
  have g : ∀ (m : Nat) (b : Addr), (o.l.set n none)[m]? = some (some b) → m ≠ n ∧ o.l[m]? = some (some b) := fun m b e => by
    by_cases hn : n = m
    · subst hn; rw [List.getElem?_set_self hn0] at e; cases e
    · rw [List.getElem?_set_ne hn] at e; exact ⟨Ne.symm hn, e⟩
  refine ⟨⟨by simp [s.len], fun m k b e1 e2 => s.nd m k b (g m b e1).2 (g k b e2).2, fun b hb => ?_, fun m c e => ?_, fun q hq => (s.tb q hq).mono KpA.free⟩, fun q => ?_, fun q => (s.zt a q).2 (List.mem_of_getElem? hl)⟩
  · obtain ⟨h1, h2⟩ := s.zt b hb
    refine ⟨h1, fun q => ?_⟩
    obtain ⟨m, hm, e⟩ := List.getElem_of_mem q
    exact h2 (List.mem_of_getElem? (g m b (by rw [List.getElem?_eq_getElem hm, e])).2)
  · by_cases hn : n = m
    · subst hn
      rw [List.getElem?_set_self (by rw [← s.len]; exact hn0)] at e
      cases e
      exact List.getElem?_set_self hn0
    · rw [List.getElem?_set_ne hn] at e
      show CellOk _ _ _ ((o.l.set n none)[m]?) c
      rw [List.getElem?_set_ne hn]
      exact (s.cell m c e).mono Le.free.rep fun b w _ e2 => e2
  · obtain ⟨m, hm, e⟩ := List.getElem_of_mem q
    obtain ⟨h1, h2⟩ := g m a (by rw [List.getElem?_eq_getElem hm, e])
    exact h1 (s.nd m n a h2 hl)

/-! ### an address is reserved -/
abbrev Lo.hold (o : Lo) (p : Addr) : Lo := { o with z := p :: o.z }
theorem Lc.hold {p : Addr} {u : HO} (h : H p = none) : Lc H o (upd H p u) (o.hold p) := ⟨fun a w e n _ => ⟨by rw [upd_ne (ne_of_none e h)]; exact e, n⟩, fun _ _ e => .inl e, rfl⟩
theorem KpA.hold {p : Addr} {u : HO} (h : H p = none) : KpA H o (upd H p u) (o.hold p) := fun a w e v => ⟨by rw [upd_ne (ne_of_none e h)]; exact e, v.1, fun q => by
  rcases List.mem_cons.mp q with q | q
  · rw [q, h] at e; cases e
  · exact v.2 q⟩
theorem LeR.hold {p : Addr} {u : HO} (h : H p = none) : LeR K H o (upd H p u) (o.hold p) := fun d v r =>
  Rep.monoC (Lc.hold h) (fun a q => by
    rcases List.mem_cons.mp q with q | q
    · exact .inr (by rw [q]; exact h)
    · exact .inl q) d v r
theorem StOk.hold {p : Addr} {u : HO} (s : StOk K H o st) (h : H p = none) : StOk K (upd H p u) (o.hold p) st :=
  ⟨s.len, s.nd, fun a ha => by
    rcases List.mem_cons.mp ha with q | q
    · subst q; exact ⟨⟨u, upd_same⟩, (s.avOf h).1⟩
    · obtain ⟨⟨w, e⟩, n⟩ := s.zt a q
      exact ⟨⟨w, by rw [upd_ne (ne_of_none e h)]; exact e⟩, n⟩,
    fun n c e => (s.cell n c e).mono (LeR.hold h) fun a w _ e2 => by rw [upd_ne (ne_of_none e2 h)]; exact e2, fun q hq => (s.tb q hq).mono (KpA.hold h)⟩
/-- what is reserved may be written -/
theorem LeR.rewrite {p : Addr} {u : HO} (h : p ∈ o.z) : LeR K H o (upd H p u) o := fun d v r => by
  exact Rep.avoid h (fun b hb => by rw [upd_ne hb]) d v r
theorem KpA.rewrite {p : Addr} {u : HO} (h : p ∈ o.z) : KpA H o (upd H p u) o := fun b w e v => ⟨by rw [upd_ne (fun q => v.2 (by rw [q]; exact h))]; exact e, v⟩
theorem StOk.rewrite {p : Addr} {u : HO} (s : StOk K H o st) (h : p ∈ o.z) : StOk K (upd H p u) o st :=
  ⟨s.len, s.nd, fun a ha => by
    obtain ⟨⟨w, e⟩, n⟩ := s.zt a ha
    by_cases q : a = p
    · subst q; exact ⟨⟨u, upd_same⟩, n⟩
    · exact ⟨⟨w, by rw [upd_ne q]; exact e⟩, n⟩,
    fun n c e => (s.cell n c e).mono (LeR.rewrite h) fun a w e1 e2 => by
      rw [upd_ne (fun q => by subst q; exact (s.zt a h).2 (List.mem_of_getElem? e1))]; exact e2, fun q hq => (s.tb q hq).mono (KpA.rewrite h)⟩
theorem LeR.unhold {zs : List Addr} (h : ∀ a ∈ zs, a ∈ o.z) : LeR K H o H { o with z := zs } := fun d v r => Rep.monoC (K := K) (H := H) (H' := H) (o := o) (o' := { o with z := zs }) ⟨fun _ _ h n _ => ⟨h, n⟩, fun _ _ h => .inl h, rfl⟩ (fun a q => .inl (h a q)) d v r
theorem KpA.unhold {zs : List Addr} (h : ∀ a ∈ zs, a ∈ o.z) : KpA H o H { o with z := zs } := fun _ _ e v => ⟨e, v.1, fun q => v.2 (h _ q)⟩
theorem StOk.unhold {zs : List Addr} (s : StOk K H o st) (h : ∀ a ∈ zs, a ∈ o.z) : StOk K H { o with z := zs } st :=
  ⟨s.len, s.nd, fun a ha => s.zt a (h a ha), fun n c e => (s.cell n c e).mono (LeR.unhold h) fun a w _ e2 => e2, fun q hq => (s.tb q hq).mono (KpA.unhold h)⟩

/-! ## what keeps representations, and the things themselves -/
def Kp (H : Hp) (o : Lo) (H' : Hp) (o' : Lo) : Prop := ∀ a u, H a = some u → o.av a → (∀ ps, u ≠ .tbl ps) → H' a = some u ∧ o'.av a
structure LeW (K : PySem.W.Frag) (H : Hp) (o : Lo) (H' : Hp) (o' : Lo) : Prop where
  rep : LeR K H o H' o'
  kp0 : Kp H o H' o'
theorem LeW.kp {K : PySem.W.Frag} {H : Hp} {o : Lo} {H' : Hp} {o' : Lo} (l : LeW K H o H' o') (a : Addr) (u : HO) (h : H a = some u) (v : o.av a) (nt : ∀ ps, u ≠ .tbl ps := by first | assumption | (intro _ z; cases z)) : H' a = some u ∧ o'.av a := l.kp0 a u h v nt
theorem LeW.refl {K : PySem.W.Frag} {H : Hp} {o : Lo} : LeW K H o H o := ⟨fun _ _ x => x, fun _ _ h v _ => ⟨h, v⟩⟩
theorem LeW.trans {K : PySem.W.Frag} {H H1 H2 : Hp} {o o1 o2 : Lo} (a : LeW K H o H1 o1) (b : LeW K H1 o1 H2 o2) : LeW K H o H2 o2 :=
  ⟨a.rep.trans b.rep, fun p u h v nt => let ⟨h1, v1⟩ := a.kp p u h v; b.kp p u h1 v1⟩
theorem Le.w {K : PySem.W.Frag} {H H' : Hp} {o o' : Lo} (e : Le H o H' o') : LeW K H o H' o' :=
  ⟨e.rep, fun p u h v nt => let ⟨h1, v1⟩ := e.keep p u h v.1; ⟨h1, v1, fun q => v.2 (by rw [← e.z]; exact q)⟩⟩
theorem LeW.hold {K : PySem.W.Frag} {H : Hp} {o : Lo} {p : Addr} {u : HO} (h : H p = none) : LeW K H o (upd H p u) (o.hold p) :=
  ⟨LeR.hold h, fun a w e v _ => by
    have hn : a ≠ p := ne_of_none e h
    exact ⟨by rw [upd_ne hn]; exact e, v.1, fun q => (List.mem_cons.mp q).elim hn v.2⟩⟩
theorem LeW.rewrite {K : PySem.W.Frag} {H : Hp} {o : Lo} {p : Addr} {u : HO} (h : p ∈ o.z) : LeW K H o (upd H p u) o :=
  ⟨LeR.rewrite h, fun a w e v _ => ⟨by rw [upd_ne (fun q => v.2 (by rw [q]; exact h))]; exact e, v⟩⟩

/-! ## the frame -/
abbrev Env := List (Option D)
def EnvOk (K : PySem.W.Frag) (H : Hp) (o : Lo) (ρ : Env) (σ : L2.St) : Prop := σ.length = ρ.length ∧ ∀ (i : Nat) (d : D), ρ[i]? = some (some d) → ∃ v, σ[i]? = some (some v) ∧ Rep K H o d v
theorem EnvOk.mono {ρ : Env} {σ : L2.St} (e : EnvOk K H o ρ σ) (r : LeR K H o H' o') : EnvOk K H' o' ρ σ := ⟨e.1, fun i d h => let ⟨v, h1, h2⟩ := e.2 i d h; ⟨v, h1, r d v h2⟩⟩
theorem EnvOk.set {ρ : Env} {σ : L2.St} (e : EnvOk K H o ρ σ) (i : Nat) {d : D} {v : V} (r : Rep K H o d v) : EnvOk K H o (ρ.set i (some d)) (σ.set i (some v)) := by
  refine ⟨by simp [e.1], fun j d' h => ?_⟩
  by_cases hj : i = j
  · subst hj
    have hi : i < ρ.length := by have := (List.getElem?_eq_some_iff.mp h).1; simpa using this
    rw [List.getElem?_set_self hi] at h
    cases h
    exact ⟨v, List.getElem?_set_self (by rw [e.1]; exact hi), r⟩
  · rw [List.getElem?_set_ne hj] at h
    rw [List.getElem?_set_ne hj]
    exact e.2 j d' h
theorem EnvOk.clear {ρ : Env} {σ : L2.St} (e : EnvOk K H o ρ σ) (i : Nat) : EnvOk K H o (ρ.set i none) (σ.set i none) := by
  refine ⟨by simp [e.1], fun j d' h => ?_⟩
  by_cases hj : i = j
  · subst hj
    have hi : i < ρ.length := by have := (List.getElem?_eq_some_iff.mp h).1; simpa using this
    rw [List.getElem?_set_self hi] at h
    cases h
  · rw [List.getElem?_set_ne hj] at h
    rw [List.getElem?_set_ne hj]
    exact e.2 j d' h
end
end MP

namespace MP
open PySem L2
open PySem.Spec PyProof.Rows
abbrev Den := Env → M D
abbrev DenL := Env → M (List D)
abbrev DenB := Env → M Bool

/-- how an exception of the data looks to the layer -/
def ExIs (K : Frag) (H : Hp) (o : Lo) (e : Exn) (c : Value) (d : Option Addr) : Prop :=
  c = .ref (He.ga K e.cls) ∧ match e.arg with
    | none => d = none
    | some x => ∃ a v, d = some a ∧ H a = some (.xd [("line", v)]) ∧ Rep K H o x v
def XOk (K : Frag) (E : XK) (H : Hp) (o : Lo) (e : Exn) (st : Store) : Prop :=
  ∀ H' o' c d, Le H o H' o' → StOk K H' o' st → ExIs K H' o' e c d → E c d H'
theorem XOk.mono {K : Frag} {E : XK} {H H' : Hp} {o o' : Lo} {e : Exn} {st : Store} (x : XOk K E H o e st) (l : Le H o H' o') : XOk K E H' o' e st :=
  fun H2 o2 c d l2 => x H2 o2 c d (l.trans l2)
/-- a value is handed on -/
def VOk (K : Frag) (H : Hp) (o : Lo) (Q : VK) (d : D) (st : Store) : Prop := ∀ v H' o', Le H o H' o' → StOk K H' o' st → Rep K H' o' d v → Q v H'
theorem VOk.mono {K : Frag} {H H' : Hp} {o o' : Lo} {Q : VK} {d : D} {st : Store} (x : VOk K H o Q d st) (l : Le H o H' o') : VOk K H' o' Q d st :=
  fun v H2 o2 l2 => x v H2 o2 (l.trans l2)
def LOk (K : Frag) (H : Hp) (o : Lo) (Q : List V → Hp → Prop) (ds : List D) (st : Store) : Prop := ∀ vs H' o', Le H o H' o' → StOk K H' o' st → Reps K H' o' ds vs → Q vs H'
theorem LOk.mono {K : Frag} {H H' : Hp} {o o' : Lo} {Q : List V → Hp → Prop} {d : List D} {st : Store} (x : LOk K H o Q d st) (l : Le H o H' o') : LOk K H' o' Q d st :=
  fun v H2 o2 l2 => x v H2 o2 (l.trans l2)
def BOk (K : Frag) (H : Hp) (o : Lo) (Q : Bool → Hp → Prop) (b : Bool) (st : Store) : Prop := ∀ H' o', Le H o H' o' → StOk K H' o' st → Q b H'
theorem BOk.mono {K : Frag} {H H' : Hp} {o o' : Lo} {Q : Bool → Hp → Prop} {d : Bool} {st : Store} (x : BOk K H o Q d st) (l : Le H o H' o') : BOk K H' o' Q d st :=
  fun H2 o2 l2 => x H2 o2 (l.trans l2)

def tD (K : Frag) (E : XK) (f : Den) : TE := fun σ H Q => ∃ o ρ st, EnvOk K H o ρ σ ∧ StOk K H o st ∧ wpR (f ρ st) (VOk K H o Q) (XOk K E H o)
def tL (K : Frag) (E : XK) (f : DenL) : TA := fun σ H Q => ∃ o ρ st, EnvOk K H o ρ σ ∧ StOk K H o st ∧ wpR (f ρ st) (LOk K H o Q) (XOk K E H o)
def tT (K : Frag) (E : XK) (f : DenB) : TT := fun σ H Q => ∃ o ρ st, EnvOk K H o ρ σ ∧ StOk K H o st ∧ wpR (f ρ st) (BOk K H o Q) (XOk K E H o)
abbrev PD (X : Cx) (E : XK) (e : Expr) (f : Den) : Prop := PE X e (tD X.K E f)
abbrev PL (X : Cx) (E : XK) (es : List Expr) (f : DenL) : Prop := PA X es (tL X.K E f)
abbrev PB (X : Cx) (E : XK) (e : Expr) (f : DenB) : Prop := PT X e (tT X.K E f)
/-- by values -/
def rOne (K : Frag) (E : XK) (op : D → M D) : V → Hp → VK → Prop := fun x H Q => ∃ dx o st, Rep K H o dx x ∧ StOk K H o st ∧ wpR (op dx st) (VOk K H o Q) (XOk K E H o)
def rTwo (K : Frag) (E : XK) (op : D → D → M D) : R2 := fun x y H Q => ∃ dx dy o st, Rep K H o dx x ∧ Rep K H o dy y ∧ StOk K H o st ∧ wpR (op dx dy st) (VOk K H o Q) (XOk K E H o)
def rLst (K : Frag) (E : XK) (op : List D → M D) : List V → Hp → VK → Prop := fun xs H Q => ∃ ds o st, Reps K H o ds xs ∧ StOk K H o st ∧ wpR (op ds st) (VOk K H o Q) (XOk K E H o)
abbrev OpD (X : Cx) (E : XK) (f : Value → Value → Sem Value) (op : D → D → M D) : Prop := OpR X f (rTwo X.K E op)
abbrev UnD (X : Cx) (E : XK) (f : Value → Sem Value) (op : D → M D) : Prop := UnR X f (rOne X.K E op)
abbrev IxD (X : Cx) (E : XK) (op : D → D → M D) : Prop := IxR X (rTwo X.K E op)
abbrev CallD (X : Cx) (E : XK) (f : Value) (op : List D → M D) : Prop := CallR X f (rLst X.K E op)

theorem PE.imp {X : Cx} {e : Expr} {t t' : TE} (h : PE X e t) (m : ∀ σ H Q, t' σ H Q → t σ H Q) : PE X e t' := ⟨fun pins s σ H Q I q => h.run pins s σ H Q I (m σ H Q q)⟩
theorem PA.imp {X : Cx} {e : List Expr} {t t' : TA} (h : PA X e t) (m : ∀ σ H Q, t' σ H Q → t σ H Q) : PA X e t' := ⟨fun pos pins s σ H Q I q => h.run pos pins s σ H Q I (m σ H Q q)⟩
theorem PT.imp {X : Cx} {e : Expr} {t t' : TT} (h : PT X e t) (m : ∀ σ H Q, t' σ H Q → t σ H Q) : PT X e t' := ⟨fun pins s σ H Q I q => h.run pins s σ H Q I (m σ H Q q)⟩

section
variable {K : Frag} {E : XK} {σ : L2.St} {H : Hp} {Q : VK}
theorem tD_bind {f : Den} {g : D → Den} (h : tD K E (fun ρ => f ρ >>= fun d => g d ρ) σ H Q) :
    tD K E f σ H fun v H1 => ∃ d o ρ st, Rep K H1 o d v ∧ EnvOk K H1 o ρ σ ∧ StOk K H1 o st ∧ wpR (g d ρ st) (VOk K H1 o Q) (XOk K E H1 o) := by
  obtain ⟨o, ρ, st, he, hs, h⟩ := h
  refine ⟨o, ρ, st, he, hs, ?_⟩
  refine (wpR.bind.mp h).mono (fun d st1 h1 v H1 o1 l s1 r => ⟨d, o1, ρ, st1, r, he.mono l.rep, s1, ?_⟩) fun _ _ x => x
  exact h1.mono (fun _ _ x => x.mono l) fun _ _ x => x.mono l
theorem tL_bind {f : DenL} {g : List D → Den} (h : tD K E (fun ρ => f ρ >>= fun d => g d ρ) σ H Q) :
    tL K E f σ H fun v H1 => ∃ d o ρ st, Reps K H1 o d v ∧ EnvOk K H1 o ρ σ ∧ StOk K H1 o st ∧ wpR (g d ρ st) (VOk K H1 o Q) (XOk K E H1 o) := by
  obtain ⟨o, ρ, st, he, hs, h⟩ := h
  refine ⟨o, ρ, st, he, hs, ?_⟩
  refine (wpR.bind.mp h).mono (fun d st1 h1 v H1 o1 l s1 r => ⟨d, o1, ρ, st1, r, he.mono l.rep, s1, ?_⟩) fun _ _ x => x
  exact h1.mono (fun _ _ x => x.mono l) fun _ _ x => x.mono l
theorem tT_bind {f : DenB} {g : Bool → Den} (h : tD K E (fun ρ => f ρ >>= fun d => g d ρ) σ H Q) :
    tT K E f σ H fun b H1 => tD K E (g b) σ H1 Q := by
  obtain ⟨o, ρ, st, he, hs, h⟩ := h
  refine ⟨o, ρ, st, he, hs, ?_⟩
  refine (wpR.bind.mp h).mono (fun d st1 h1 H1 o1 l s1 => ⟨o1, ρ, st1, he.mono l.rep, s1, ?_⟩) fun _ _ x => x
  exact h1.mono (fun _ _ x => x.mono l) fun _ _ x => x.mono l
/-- two in a row -/
theorem tD_two {f g : Den} {op : D → D → M D} (h : tD K E (fun ρ => f ρ >>= fun x => g ρ >>= fun y => op x y) σ H Q) :
    tD K E f σ H fun x H1 => tD K E g σ H1 fun y H2 => rTwo K E op x y H2 Q := by
  obtain ⟨o, ρ, st, he, hs, h⟩ := h
  refine ⟨o, ρ, st, he, hs, ?_⟩
  refine (wpR.bind.mp h).mono (fun d st1 h1 v H1 o1 l s1 r => ⟨o1, ρ, st1, he.mono l.rep, s1, ?_⟩) fun _ _ x => x
  refine (wpR.bind.mp h1).mono (fun d2 st2 h2 v2 H2 o2 l2 s2 r2 => ⟨d, d2, o2, st2, Rep.mono l2 d v r, r2, s2, ?_⟩) fun _ _ x => x.mono l
  exact h2.mono (fun _ _ x => x.mono (l.trans l2)) fun _ _ x => x.mono (l.trans l2)
theorem tD_one {f : Den} {op : D → M D} (h : tD K E (fun ρ => f ρ >>= fun x => op x) σ H Q) : tD K E f σ H fun x H1 => rOne K E op x H1 Q := by
  obtain ⟨o, ρ, st, he, hs, h⟩ := h
  refine ⟨o, ρ, st, he, hs, ?_⟩
  refine (wpR.bind.mp h).mono (fun d st1 h1 v H1 o1 l s1 r => ⟨d, o1, st1, r, s1, ?_⟩) fun _ _ x => x
  exact h1.mono (fun _ _ x => x.mono l) fun _ _ x => x.mono l
theorem tD_lst {f : DenL} {op : List D → M D} (h : tD K E (fun ρ => f ρ >>= fun x => op x) σ H Q) : tL K E f σ H fun x H1 => rLst K E op x H1 Q := by
  obtain ⟨o, ρ, st, he, hs, h⟩ := h
  refine ⟨o, ρ, st, he, hs, ?_⟩
  refine (wpR.bind.mp h).mono (fun d st1 h1 v H1 o1 l s1 r => ⟨d, o1, st1, r, s1, ?_⟩) fun _ _ x => x
  exact h1.mono (fun _ _ x => x.mono l) fun _ _ x => x.mono l
theorem tD_pure {d : D} (v : V) (hv : ∀ H o, Rep K H o d v) (h : tD K E (fun _ => pure d) σ H Q) : Q v H := by
  obtain ⟨o, ρ, st, he, hs, h⟩ := h
  exact h v H o (Le.refl _ _) hs (hv _ _)
end

section
variable {X : Cx} {E : XK} {a b : Expr} {f g : Den} {pos : Pos}
theorem pd_bin {op : Operator} {p : D → D → M D} (ho : OpD X E (binaryOp op) p) (ha : PD X E a f) (hb : PD X E b g) : PD X E (.BinOp a op b pos) (fun ρ => f ρ >>= fun x => g ρ >>= fun y => p x y) :=
  PE.imp (pe_op ho ha hb) fun _ _ _ h => tD_two h
theorem pd_un {op : UnaryOp} {p : D → M D} (ho : UnD X E (unaryOp op) p) (ha : PD X E a f) : PD X E (.UnaryOp op a pos) (fun ρ => f ρ >>= fun x => p x) :=
  PE.imp (pe_un ho ha) fun _ _ _ h => tD_one h
theorem pd_cmp {op : CmpOp} {p : D → D → M D} (ho : OpD X E (compareOp op) p) (ha : PD X E a f) (hb : PD X E b g) (hm : behindInMarks op b = false) : PD X E (.Compare a [op] [b] pos) (fun ρ => f ρ >>= fun x => g ρ >>= fun y => p x y) :=
  PE.imp (pe_cmpR ho ha hb hm) fun _ _ _ h => tD_two h
theorem pd_ix {p : D → D → M D} (ho : IxD X E p) (ha : PD X E a f) (hb : PD X E b g) (hs : PlainIx b) : PD X E (.Subscript a b pos) (fun ρ => f ρ >>= fun x => g ρ >>= fun y => p x y) :=
  PE.imp (pe_ix ho ha hb hs) fun _ _ _ h => tD_two h
/-- a truth value -/
def asB : D → M Bool
  | .bl b => pure b
  | _ => M.stuck
theorem tT_of {K : Frag} {σ : L2.St} {H : Hp} {Q : Bool → Hp → Prop} {f : Den} (h : tT K E (fun ρ => f ρ >>= asB) σ H Q) : tD K E f σ H fun x H1 => ∃ k, x = .bl k ∧ Q k H1 := by
  obtain ⟨o, ρ, st, he, hs, h⟩ := h
  refine ⟨o, ρ, st, he, hs, ?_⟩
  refine (wpR.bind.mp h).mono (fun d st1 h1 v H1 o1 l s1 r => ?_) fun _ _ x => x
  cases d with
  | bl b => exact ⟨b, r, h1 H1 o1 l s1⟩
  | _ => exact False.elim h1
theorem pb_cmp {op : CmpOp} {p : D → D → M D} (ho : OpD X E (compareOp op) p) (ha : PD X E a f) (hb : PD X E b g) (hm : behindInMarks op b = false) : PB X E (.Compare a [op] [b] pos) (fun ρ => (f ρ >>= fun x => g ρ >>= fun y => p x y) >>= asB) :=
  PT.imp (pt_cmpR ho ha hb hm) fun _ _ _ h => by
    have h1 := tT_of h
    exact tD_two h1
theorem pb_val {e : Expr} (h : PD X E e f) (he : ∀ whole, isTrue e X.env whole = (do let v ← whole; standAt e.pos; holding [v] (truthy v))) : PB X E e (fun ρ => f ρ >>= asB) :=
  PT.imp (pt_val h he) fun _ _ _ h => tT_of h
end
end MP

namespace MP
open PySem L2
open PySem.Spec PyProof.Rows
abbrev big : Nat := 16000000
theorem big_le : big ≤ sizeLine := by rw [sizeLine_eq]; decide
theorem big_lt : big < sizeLine := by rw [sizeLine_eq]; decide

/-! ## lists that are read -/
def lstOf : D → M (List D)
  | .lst ds => pure ds
  | .ref n => fun st => match st[n]? with
    | some (.lst ds) => .ok ds st
    | _ => .stuck
  | _ => M.stuck
section
variable {K : Frag} {E : XK} {H : Hp} {o : Lo} {st : Store} {X : Cx}
theorem lstOf_wp {d : D} {v : V} {Q : List D → Store → Prop} {Z : Exn → Store → Prop} (r : Rep K H o d v) (s : StOk K H o st) (h : wpR (lstOf d st) Q Z) :
    ∃ ds a xs, v = .ref a ∧ H a = some (.lst xs) ∧ Reps K H o ds xs ∧ Q ds st := by
  cases d with
  | lst ds => obtain ⟨a, xs, e, h1, _, h2⟩ := r; exact ⟨ds, a, xs, e, h1, h2, h⟩
  | ref n =>
    have h' : wpR (match st[n]? with | some (.lst ds) => R.ok ds st | _ => .stuck) Q Z := h
    cases q : st[n]? with
    | none => rw [q] at h'; exact False.elim h'
    | some c =>
      rw [q] at h'
      cases c with
      | lst ds =>
        obtain ⟨a, xs, e1, e2, e3⟩ := s.cell n _ q
        obtain ⟨b, rfl, h1⟩ := r
        have : a = b := by
          rw [e1] at h1
          rcases h1 with h1 | h1
          · cases h1; rfl
          · cases h1
        subst this
        exact ⟨ds, a, xs, rfl, e2, e3, h'⟩
      | _ => exact False.elim h'
  | _ => exact False.elim h

/-! ## closing a value -/
theorem fin_flat {d : D} {v : V} {Q : VK} {op : R D} (h : wpR op (VOk K H o Q) (XOk K E H o)) (e : op = .ok d st) (s : StOk K H o st) (r : ∀ H o, Rep K H o d v) : Q v H := by
  subst e; exact h v H o (Le.refl _ _) s (r _ _)
theorem ok_flat {d : D} {v : V} {Q : VK} (h : VOk K H o Q d st) (s : StOk K H o st) (r : Rep K H o d v) : Q v H := h v H o (Le.refl _ _) s r
theorem ok_newTup {ds : List D} {xs : List V} {p : Addr} {Q : VK} (h : VOk K H o Q (.tup ds) st) (s : StOk K H o st) (r : Reps K H o ds xs) (hp : H p = none) : Q (.ref p) (upd H p (.tup xs)) :=
  h _ _ o (Le.new hp) (s.new hp) (Rep.newTup s hp r)
theorem ok_newLst {ds : List D} {xs : List V} {p : Addr} {Q : VK} (h : VOk K H o Q (.lst ds) st) (s : StOk K H o st) (r : Reps K H o ds xs) (hp : H p = none) : Q (.ref p) (upd H p (.lst xs)) :=
  h _ _ o (Le.new hp) (s.new hp) (Rep.newLst s hp r)

/-! ## + -/
def guardM (c : Bool) (m : M D) : M D := bif c then m else M.stuck
theorem guardM_wp {c : Bool} {m : M D} {Q : D → Store → Prop} {Z : Exn → Store → Prop} (h : wpR (guardM c m st) Q Z) : c = true ∧ wpR (m st) Q Z := by
  cases c with
  | true => exact ⟨rfl, h⟩
  | false => exact False.elim h
def catL (x y : D) : M D := lstOf x >>= fun a => lstOf y >>= fun b => guardM (decide (a.length + b.length ≤ big)) (pure (.lst (a ++ b)))
def opAdd : D → D → M D
  | .int i, .int j => pure (.int (i + j))
  | .str i, .str j => guardM (decide (i.length + j.length ≤ big)) (pure (.str (i ++ j)))
  | .tup xs, .tup ys => guardM (decide (xs.length + ys.length ≤ big)) (pure (.tup (xs ++ ys)))
  | .lst xs, y => catL (.lst xs) y
  | .ref n, y => catL (.ref n) y
  | _, _ => M.stuck
theorem catL_ok {x y : V} {dx dy : D} {Q : VK} (r1 : Rep K H o dx x) (r2 : Rep K H o dy y) (s : StOk K H o st) (h : wpR (catL dx dy st) (VOk K H o Q) (XOk K E H o)) : rCat x y H Q := by
  obtain ⟨da, a, xs, rfl, e1, q1, h⟩ := lstOf_wp r1 s (wpR.bind.mp h)
  obtain ⟨db, b, ys, rfl, e2, q2, h⟩ := lstOf_wp r2 s (wpR.bind.mp h)
  obtain ⟨hl, h⟩ := guardM_wp h
  refine ⟨a, b, xs, ys, rfl, rfl, e1, e2, ?_, fun p hp => ok_newLst h s (q1.append q2) hp⟩
  rw [q1.length, q2.length]
  exact Nat.le_trans (of_decide_eq_true hl) big_le
theorem od_add : OpD X E (binaryOp .Add) opAdd := by
  intro pins s σ H x y v u Q I rx ry h
  obtain ⟨dx, dy, o, st, r1, r2, so, h⟩ := h
  cases dx with
  | int i =>
    cases dy with
    | int j => exact op_add pins s σ H x y v u Q I rx ry ⟨i, j, r1, r2, ok_flat h so rfl⟩
    | _ => exact False.elim h
  | str i =>
    cases dy with
    | str j =>
      obtain ⟨hl, h⟩ := guardM_wp h
      exact op_add_str pins s σ H x y v u Q I rx ry ⟨i, j, r1, r2, Nat.le_trans (of_decide_eq_true hl) big_le, ok_flat h so rfl⟩
    | _ => exact False.elim h
  | tup ds =>
    cases dy with
    | tup es =>
      obtain ⟨hl, h⟩ := guardM_wp h
      obtain ⟨a, xs, rfl, k1, q1⟩ := r1
      obtain ⟨b, ys, rfl, k2, q2⟩ := r2
      refine op_catA pins s σ H _ _ v u Q I rx ry ⟨a, b, xs, ys, rfl, rfl, tup_sq k1, tup_sq k2, ?_, ?_⟩
      · rw [q1.length, q2.length]; exact Nat.le_trans (of_decide_eq_true hl) big_le
      · refine ⟨fun e => ?_, fun e1 e2 => ?_, fun _ _ p hp => ok_newTup h so (q1.append q2) hp⟩
        · have e' := (q1.nil_iff).mp e
          subst e'
          exact ok_flat h so ⟨b, ys, rfl, k2, q2⟩
        · have e' := (q2.nil_iff).mp e2
          subst e'
          exact ok_flat h so ⟨a, xs, rfl, k1, by simpa using q1⟩
    | _ => exact False.elim h
  | lst ds => exact op_cat pins s σ H x y v u Q I rx ry (catL_ok r1 r2 so h)
  | ref n => exact op_cat pins s σ H x y v u Q I rx ry (catL_ok r1 r2 so h)
  | _ => exact False.elim h

/-! ## ints -/
def opSub : D → D → M D
  | .int i, .int j => pure (.int (i - j))
  | _, _ => M.stuck
theorem od_sub : OpD X E (binaryOp .Sub) opSub := by
  intro pins s σ H x y v u Q I rx ry h
  obtain ⟨dx, dy, o, st, r1, r2, so, h⟩ := h
  cases dx <;> cases dy <;> first | exact False.elim h | skip
  exact op_sub pins s σ H x y v u Q I rx ry ⟨_, _, r1, r2, ok_flat h so rfl⟩
def opMul : D → D → M D
  | .int i, .int j => guardM (decide (i.natAbs.log2 + j.natAbs.log2 < 1000000)) (pure (.int (i * j)))
  | .lst xs, .int k => guardM (decide (-(2 ^ 63) ≤ k ∧ k < 2 ^ 63 ∧ xs.length * k.toNat ≤ big)) (pure (.lst (List.replicate k.toNat xs).flatten))
  | .tup xs, .int k => guardM (!xs.isEmpty && decide (2 ≤ k ∧ k ≤ 1000 ∧ xs.length ≤ 1000)) (pure (.tup (List.replicate k.toNat xs).flatten))
  | _, _ => M.stuck
theorem Reps.rep {ds : List D} {vs : List V} (h : Reps K H o ds vs) : ∀ n : Nat, Reps K H o (List.replicate n ds).flatten (List.replicate n vs).flatten
  | 0 => rfl
  | n + 1 => by
    rw [List.replicate_succ, List.replicate_succ, List.flatten_cons, List.flatten_cons]
    exact h.append (Reps.rep h n)
theorem od_mul : OpD X E (binaryOp .Mult) opMul := by
  intro pins s σ H x y v u Q I rx ry h
  obtain ⟨dx, dy, o, st, r1, r2, so, h⟩ := h
  cases dx <;> cases dy <;> first | exact False.elim h | skip
  · obtain ⟨hc, h⟩ := guardM_wp h
    exact op_mulW pins s σ H x y v u Q I rx ry ⟨_, _, r1, r2, (by have e := of_decide_eq_true hc; exact e), ok_flat h so rfl⟩
  · obtain ⟨hc, h⟩ := guardM_wp h
    rw [Bool.and_eq_true] at hc
    have h0 := hc.1
    obtain ⟨h1, h2, h3⟩ := of_decide_eq_true hc.2
    obtain ⟨a, xs, rfl, k1, q1⟩ := r1
    refine op_repT pins s σ H _ y v u Q I rx ry ⟨a, _, xs, rfl, r2, tup_sq k1, fun e => by rw [q1.nil_iff.mp e] at h0; exact absurd h0 (by decide), h1, h2, by rw [q1.length]; exact h3, fun p hp => ok_newTup h so (q1.rep _) hp⟩
  · obtain ⟨hc, h⟩ := guardM_wp h
    obtain ⟨h1, h2, h3⟩ := of_decide_eq_true hc
    obtain ⟨a, xs, rfl, k1, k2, q1⟩ := r1
    exact op_rep pins s σ H _ y v u Q I rx ry ⟨a, _, xs, rfl, r2, k1, h1, h2, by rw [q1.length]; exact Nat.le_trans h3 big_le, fun p hp => ok_newLst h so (q1.rep _) hp⟩
def opDiv : D → D → M D
  | .int i, .int j => guardM (decide (0 < j ∧ j.natAbs.log2 < 9000)) (pure (.int (i / j)))
  | _, _ => M.stuck
theorem od_div : OpD X E (binaryOp .FloorDiv) opDiv := by
  intro pins s σ H x y v u Q I rx ry h
  obtain ⟨dx, dy, o, st, r1, r2, so, h⟩ := h
  cases dx <;> cases dy <;> first | exact False.elim h | skip
  obtain ⟨hc, h⟩ := guardM_wp h
  exact op_fdivW pins s σ H x y v u Q I rx ry ⟨_, _, r1, r2, (by have e := of_decide_eq_true hc; exact e), ok_flat h so rfl⟩
def opMod : D → D → M D
  | .int i, .int j => guardM (decide (0 < j)) (pure (.int (i % j)))
  | _, _ => M.stuck
theorem od_mod : OpD X E (binaryOp .Mod) opMod := by
  intro pins s σ H x y v u Q I rx ry h
  obtain ⟨dx, dy, o, st, r1, r2, so, h⟩ := h
  cases dx <;> cases dy <;> first | exact False.elim h | skip
  obtain ⟨hc, h⟩ := guardM_wp h
  exact op_mod pins s σ H x y v u Q I rx ry ⟨_, _, r1, r2, (by have e := of_decide_eq_true hc; exact e), ok_flat h so rfl⟩
def opPow : D → D → M D
  | .int i, .int j => guardM (decide (0 ≤ j ∧ j ≤ 1000000 ∧ i.natAbs < 2 ^ 64)) (pure (.int (i ^ j.toNat)))
  | _, _ => M.stuck
theorem od_pow : OpD X E (binaryOp .Pow) opPow := by
  intro pins s σ H x y v u Q I rx ry h
  obtain ⟨dx, dy, o, st, r1, r2, so, h⟩ := h
  cases dx <;> cases dy <;> first | exact False.elim h | skip
  obtain ⟨hc, h⟩ := guardM_wp h
  exact op_pow pins s σ H x y v u Q I rx ry ⟨_, _, r1, r2, (by have e := of_decide_eq_true hc; exact e), ok_flat h so rfl⟩
def opNeg : D → M D
  | .int i => pure (.int (-i))
  | _ => M.stuck
theorem ud_neg : UnD X E (unaryOp .USub) opNeg := by
  intro pins s σ H x v Q I rx h
  obtain ⟨dx, o, st, r1, so, h⟩ := h
  cases dx <;> first | exact False.elim h | skip
  exact un_neg pins s σ H x v Q I rx ⟨_, r1, ok_flat h so rfl⟩
def opCmp (p : Int → Int → Bool) : D → D → M D
  | .int i, .int j => pure (.bl (p i j))
  | _, _ => M.stuck
theorem od_cmp {f : Value → Value → Sem Value} {p : Int → Int → Bool} (hf : OpR X f (rI0 fun i j => .bl (p i j))) : OpD X E f (opCmp p) := by
  intro pins s σ H x y v u Q I rx ry h
  obtain ⟨dx, dy, o, st, r1, r2, so, h⟩ := h
  cases dx <;> cases dy <;> first | exact False.elim h | skip
  exact hf pins s σ H x y v u Q I rx ry ⟨_, _, r1, r2, ok_flat h so rfl⟩
abbrev opLt := opCmp fun i j => decide (i < j)
abbrev opLe := opCmp fun i j => decide (i ≤ j)
abbrev opGt := opCmp fun i j => decide (j < i)
abbrev opGe := opCmp fun i j => decide (j ≤ i)
theorem od_lt : OpD X E (compareOp .Lt) opLt := od_cmp op_lt
theorem od_le : OpD X E (compareOp .LtE) opLe := od_cmp op_le
theorem od_gt : OpD X E (compareOp .Gt) opGt := od_cmp op_gt
theorem od_ge : OpD X E (compareOp .GtE) opGe := od_cmp op_ge

/-! ## is None -/
def isNon : D → Bool
  | .non => true
  | _ => false
theorem Rep.isNon {d : D} {v : V} (r : Rep K H o d v) : decide (v = .non) = isNon d := by
  cases d with
  | non => cases (show v = .non from r); rfl
  | bl b => cases (show v = .bl b from r); rfl
  | int b => cases (show v = .int b from r); rfl
  | str b => cases (show v = .str b from r); rfl
  | tup ds => obtain ⟨a, xs, rfl, _⟩ := r; rfl
  | lst ds => obtain ⟨a, xs, rfl, _⟩ := r; rfl
  | dic ks ds => obtain ⟨a, xs, rfl, _⟩ := r; rfl
  | scr ds => obtain ⟨a, rfl, _⟩ := r; rfl
  | ref ds => obtain ⟨a, rfl, _⟩ := r; rfl
  | kset ds => obtain ⟨a, xs, kas, rfl, _⟩ := r; rfl
  | cls c => cases (show v = .ref _ from r); rfl
  | exv => obtain ⟨a, rfl, _⟩ := r; rfl
  | tupn ds => obtain ⟨a, _, _, rfl, _⟩ := r; rfl
  | thk f P => obtain ⟨rfl, _⟩ := r; rfl
  | lam L cl => obtain ⟨f, rfl, _⟩ := r; rfl
def opIsN (neg : Bool) : D → D → M D
  | x, .non => pure (.bl (if neg then !isNon x else isNon x))
  | _, _ => M.stuck
theorem od_isN : OpD X E (compareOp .Is) (opIsN false) := by
  intro pins s σ H x y v u Q I rx ry h
  obtain ⟨dx, dy, o, st, r1, r2, so, h⟩ := h
  cases dy with
  | non => exact op_isN pins s σ H x y v u Q I rx ry ⟨r2, by rw [r1.isNon]; exact ok_flat h so rfl⟩
  | _ => exact False.elim h
theorem od_notN : OpD X E (compareOp .IsNot) (opIsN true) := by
  intro pins s σ H x y v u Q I rx ry h
  obtain ⟨dx, dy, o, st, r1, r2, so, h⟩ := h
  cases dy with
  | non => exact op_notN pins s σ H x y v u Q I rx ry ⟨r2, by rw [r1.isNon]; exact ok_flat h so rfl⟩
  | _ => exact False.elim h

/-! ## data of any depth: ==, in -/
mutual
def D.py : D → PyData
  | .bl b => .bool b
  | .int i => .int i
  | .str s => .str s
  | .tup ds => .tuple (pys ds)
  | .lst ds => .list (pys ds)
  | _ => .none
def pys : List D → List PyData
  | [] => []
  | d :: ds => d.py :: pys ds
end
mutual
def D.okD : D → Bool
  | .non | .bl _ | .int _ => true
  | .str s => PyData.strOk s
  | .tup ds | .lst ds => okDs ds
  | _ => false
def okDs : List D → Bool
  | [] => true
  | d :: ds => d.okD && okDs ds
end
theorem pys_map : ∀ ds : List D, pys ds = ds.map D.py
  | [] => rfl
  | d :: ds => by show d.py :: pys ds = _; rw [pys_map ds]; rfl
theorem okDs_all : ∀ ds : List D, okDs ds = ds.all D.okD
  | [] => rfl
  | d :: ds => by show (d.okD && okDs ds) = _; rw [okDs_all ds]; rfl
mutual
theorem okD_lay : ∀ d : D, d.okD = true → d.py.canLay0 = true
  | .non, _ => by simp [D.py, PyData.canLay0]
  | .bl _, _ => by simp [D.py, PyData.canLay0]
  | .int _, _ => by simp [D.py, PyData.canLay0]
  | .str s, h => by
    have h' : PyData.strOk s = true := h
    simpa [D.py, PyData.canLay0] using h'
  | .tup ds, h => by
    have := okDs_lay ds h
    simpa [D.py, PyData.canLay0] using this
  | .lst ds, h => by
    have := okDs_lay ds h
    simpa [D.py, PyData.canLay0] using this
  | .dic _ _, h => by cases h
  | .scr _, h => by cases h
  | .ref _, h => by cases h
  | .kset _, h => by cases h
  | .cls _, h => by cases h
  | .exv, h => by cases h
  | .tupn _, h => by cases h
  | .thk _ _, h => by cases h
  | .lam _ _, h => by cases h
theorem okDs_lay : ∀ ds : List D, okDs ds = true → PyData.canLayAll0 (pys ds) = true
  | [], _ => by simp [pys, PyData.canLayAll0]
  | d :: ds, h => by
    have h' : (d.okD && okDs ds) = true := h
    rw [Bool.and_eq_true] at h'
    have e1 := okD_lay d h'.1
    have e2 := okDs_lay ds h'.2
    simp [pys, PyData.canLayAll0, e1, e2]
end
mutual
theorem Rep.dp : ∀ (d : D) (v : V), Rep K H o d v → d.okD = true → Dp K H v d.py
  | .non, v, r, _ => by cases (show v = .non from r); simpa [D.py] using Dp.non
  | .bl b, v, r, _ => by cases (show v = .bl b from r); simpa [D.py] using Dp.bl b
  | .int b, v, r, _ => by cases (show v = .int b from r); simpa [D.py] using Dp.int b
  | .str b, v, r, _ => by cases (show v = .str b from r); simpa [D.py] using Dp.str b
  | .tup ds, v, r, h => by
    obtain ⟨a, xs, rfl, k, q⟩ := r
    simpa [D.py] using Dp.tup (tup_sq k) (Reps.dp ds xs q h)
  | .lst ds, v, r, h => by
    obtain ⟨a, xs, rfl, k, _, q⟩ := r
    simpa [D.py] using Dp.lst (SqL.of k) (Reps.dp ds xs q h)
  | .dic _ _, _, _, h => by cases h
  | .scr _, _, _, h => by cases h
  | .ref _, _, _, h => by cases h
  | .kset _, _, _, h => by cases h
  | .cls _, _, _, h => by cases h
  | .exv, _, _, h => by cases h
  | .tupn _, _, _, h => by cases h
  | .thk _ _, _, _, h => by cases h
  | .lam _ _, _, _, h => by cases h
theorem Reps.dp : ∀ (ds : List D) (vs : List V), Reps K H o ds vs → okDs ds = true → DpAll K H vs (pys ds)
  | [], vs, r, _ => by cases (show vs = [] from r); simpa [pys] using DpAll.nil
  | d :: ds, vs, r, h => by
    obtain ⟨v, vs', rfl, r1, r2⟩ := r
    have h' : (d.okD && okDs ds) = true := h
    rw [Bool.and_eq_true] at h'
    simpa [pys] using DpAll.cons (Rep.dp d v r1 h'.1) (Reps.dp ds vs' r2 h'.2)
end
def D.sh (d : D) : Bool := d.okD && decide (d.py.depth ≤ 64)
theorem sh_shaped {d : D} (h : d.sh = true) : d.okD = true ∧ SeqAt.shaped d.py = true := by
  have h' := h
  unfold D.sh at h'
  rw [Bool.and_eq_true] at h'
  refine ⟨h'.1, ?_⟩
  show (d.py.canLay0 && decide (d.py.depth ≤ 64)) = true
  rw [okD_lay d h'.1, h'.2]; rfl
def deq (a b : D) : Bool := PyData.eqv a.py b.py
/-- a cell's list is read as a list -/
def dataOf : D → M D
  | .ref n => fun st => match st[n]? with
    | some (.lst ds) => .ok (.lst ds) st
    | _ => .stuck
  | d => pure d
theorem dataOf_wp {d : D} {v : V} {Q : D → Store → Prop} {Z : Exn → Store → Prop} (r : Rep K H o d v) (s : StOk K H o st) (h : wpR (dataOf d st) Q Z) :
    ∃ d', (d'.okD = true → Dp K H v d'.py) ∧ Q d' st := by
  cases d with
  | ref n =>
    have h' : wpR (match st[n]? with | some (.lst ds) => R.ok (.lst ds) st | _ => .stuck) Q Z := h
    cases q : st[n]? with
    | none => rw [q] at h'; exact False.elim h'
    | some c =>
      rw [q] at h'
      cases c with
      | lst ds =>
        obtain ⟨a, xs, e1, e2, e3⟩ := s.cell n _ q
        obtain ⟨b, rfl, h1⟩ := r
        have : a = b := by
          rw [e1] at h1
          rcases h1 with h1 | h1
          · cases h1; rfl
          · cases h1
        subst this
        exact ⟨_, fun z => by simpa [D.py] using Dp.lst (SqL.of e2) (Reps.dp ds xs e3 z), h'⟩
      | _ => exact False.elim h'
  | _ => exact ⟨_, fun z => Rep.dp _ _ r z, h⟩
def opEq (neg : Bool) (x y : D) : M D := dataOf x >>= fun a => dataOf y >>= fun b => guardM (a.sh && b.sh) (pure (.bl (if neg then !deq a b else deq a b)))
theorem opEq_wp {neg : Bool} {dx dy : D} {x y : V} {Q : VK} (r1 : Rep K H o dx x) (r2 : Rep K H o dy y) (so : StOk K H o st) (h : wpR (opEq neg dx dy st) (VOk K H o Q) (XOk K E H o)) :
    ∃ d e, Dp K H x d ∧ Dp K H y e ∧ SeqAt.shaped d = true ∧ SeqAt.shaped e = true ∧ Q (.bl (if neg then !PyData.eqv d e else PyData.eqv d e)) H := by
  obtain ⟨a, p1, h⟩ := dataOf_wp r1 so (wpR.bind.mp h)
  obtain ⟨b, p2, h⟩ := dataOf_wp r2 so (wpR.bind.mp h)
  obtain ⟨hc, h⟩ := guardM_wp h
  rw [Bool.and_eq_true] at hc
  obtain ⟨o1, s1⟩ := sh_shaped hc.1
  obtain ⟨o2, s2⟩ := sh_shaped hc.2
  exact ⟨_, _, p1 o1, p2 o2, s1, s2, ok_flat h so rfl⟩
theorem od_eq (hu : X.A.units + 64 < cLine) : OpD X E (compareOp .Eq) (opEq false) := by
  intro pins s σ H x y v u Q I rx ry h
  obtain ⟨dx, dy, o, st, r1, r2, so, h⟩ := h
  obtain ⟨d, e, p1, p2, s1, s2, q⟩ := opEq_wp r1 r2 so h
  exact op_eqD hu pins s σ H x y v u Q I rx ry ⟨d, e, p1, p2, s1, s2, q⟩
theorem od_ne (hu : X.A.units + 64 < cLine) : OpD X E (compareOp .NotEq) (opEq true) := by
  intro pins s σ H x y v u Q I rx ry h
  obtain ⟨dx, dy, o, st, r1, r2, so, h⟩ := h
  obtain ⟨d, e, p1, p2, s1, s2, q⟩ := opEq_wp r1 r2 so h
  exact op_neD hu pins s σ H x y v u Q I rx ry ⟨d, e, p1, p2, s1, s2, q⟩
theorem op_inT (hu : X.A.units + 65 < cLine) : OpR X (compareOp .In) (fun x y H Q => ∃ d ds, Dp X.K H x d ∧ Dp X.K H y (.tuple ds) ∧ SeqAt.shaped d = true ∧ SeqAt.shaped (.tuple ds) = true ∧ Q (.bl (ds.any fun z => PyData.eqv z d)) H) := by
  intro pins s σ H x y v u Q I rx ry h
  obtain ⟨d, ds, hd, he, sd, se, q⟩ := h
  obtain ⟨as, r1⟩ := Dp.reads I d x v hd rx
  obtain ⟨bs, r2⟩ := Dp.reads I (.tuple ds) y u he ry
  exact SeqAt.in_tuple_reads r2 r1 (SeqAt.canLay_of_shaped se) (SeqAt.canLay_of_shaped sd) (room_in_shaped sd hu) ⟨.bl _, H, I, rfl, q⟩
theorem op_notInT (hu : X.A.units + 65 < cLine) : OpR X (compareOp .NotIn) (fun x y H Q => ∃ d ds, Dp X.K H x d ∧ Dp X.K H y (.tuple ds) ∧ SeqAt.shaped d = true ∧ SeqAt.shaped (.tuple ds) = true ∧ Q (.bl (!ds.any fun z => PyData.eqv z d)) H) := by
  intro pins s σ H x y v u Q I rx ry h
  obtain ⟨d, ds, hd, he, sd, se, q⟩ := h
  obtain ⟨as, r1⟩ := Dp.reads I d x v hd rx
  obtain ⟨bs, r2⟩ := Dp.reads I (.tuple ds) y u he ry
  exact SeqAt.notIn_tuple_reads r2 r1 (SeqAt.canLay_of_shaped se) (SeqAt.canLay_of_shaped sd) (room_in_shaped sd hu) ⟨.bl _, H, I, rfl, q⟩
/-- keys of a dict -/
def keyD : D → Option Key
  | .int i => some (.inl i)
  | .str s => some (.inr s)
  | _ => none
theorem keyD_rep {d : D} {k : Key} {v : V} (e : keyD d = some k) (r : Rep K H o d v) : v = kV k := by
  cases d with
  | int i => cases e; exact r
  | str i => cases e; exact r
  | _ => cases e
def dget : List Key → List D → Key → Option D
  | k :: ks, d :: ds, q => if k = q then some d else dget ks ds q
  | _, _, _ => none
theorem dget_val : ∀ {kvs : List (Key × V)} {ds : List D} {q : Key}, Reps K H o ds (kvs.map (·.2)) →
    (dget (kvs.map (·.1)) ds q = none ∧ valV kvs q = none) ∨ ∃ d v, dget (kvs.map (·.1)) ds q = some d ∧ valV kvs q = some v ∧ Rep K H o d v
  | [], ds, q, r => .inl ⟨by cases ds <;> rfl, valV_nil⟩
  | p :: kvs, [], q, r => by cases (show (p :: kvs).map (·.2) = [] from r)
  | p :: kvs, d :: ds, q, r => by
    obtain ⟨v, vs', e, r1, r2⟩ := r
    obtain ⟨rfl, rfl⟩ := List.cons.inj e
    by_cases hp : p.1 = q
    · right
      exact ⟨d, p.2, by simp [dget, hp], valV_pos hp, r1⟩
    · rw [valV_neg hp]
      rcases dget_val (q := q) r2 with ⟨h1, h2⟩ | ⟨d', v', h1, h2, h3⟩
      · exact .inl ⟨by simp only [List.map_cons, dget, if_neg hp]; exact h1, h2⟩
      · exact .inr ⟨d', v', by simp only [List.map_cons, dget, if_neg hp]; exact h1, h2, h3⟩
/-- the dict at a value -/
def dicOf : D → M (List Key × List D)
  | .dic ks ds => pure (ks, ds)
  | .ref n => fun st => match st[n]? with
    | some (.dic ks ds) => .ok (ks, ds) st
    | _ => .stuck
  | _ => M.stuck
theorem dicOf_wp {d : D} {v : V} {Q : List Key × List D → Store → Prop} {Z : Exn → Store → Prop} (r : Rep K H o d v) (s : StOk K H o st) (h : wpR (dicOf d st) Q Z) :
    ∃ ks ds a kvs, v = .ref a ∧ H a = some (.dK kvs) ∧ kvs.map (·.1) = ks ∧ Reps K H o ds (kvs.map (·.2)) ∧ Q (ks, ds) st := by
  cases d with
  | dic ks ds => obtain ⟨a, kvs, e, h1, _, h3, h2⟩ := r; exact ⟨ks, ds, a, kvs, e, h1, h3, h2, h⟩
  | ref n =>
    have h' : wpR (match st[n]? with | some (.dic ks ds) => R.ok (ks, ds) st | _ => .stuck) Q Z := h
    cases q : st[n]? with
    | none => rw [q] at h'; exact False.elim h'
    | some c =>
      rw [q] at h'
      cases c with
      | dic ks ds =>
        obtain ⟨a, xs, e1, e2, e4, e3⟩ := s.cell n _ q
        obtain ⟨b, rfl, h1⟩ := r
        have : a = b := by
          rw [e1] at h1
          rcases h1 with h1 | h1
          · cases h1; rfl
          · cases h1
        subst this
        exact ⟨ks, ds, a, xs, rfl, e2, e4, e3, h'⟩
      | _ => exact False.elim h'
  | _ => exact False.elim h
def opIn (neg : Bool) (x y : D) : M D := match x, y with
  | .str i, .str j => pure (.bl (if neg then (Builtin.Str.occurrences j i 0 j.length 1).isEmpty else !(Builtin.Str.occurrences j i 0 j.length 1).isEmpty))
  | x, .tup es => dataOf x >>= fun a => guardM (a.sh && (D.tup es).sh) (pure (.bl (if neg then !(es.any fun z => deq z a) else es.any fun z => deq z a)))
  | x, .lst es => dataOf x >>= fun a => guardM (a.sh && (D.lst es).sh) (pure (.bl (if neg then !(es.any fun z => deq z a) else es.any fun z => deq z a)))
  | x, .ref n => dataOf x >>= fun a => lstOf (.ref n) >>= fun es => guardM (a.sh && (D.lst es).sh) (pure (.bl (if neg then !(es.any fun z => deq z a) else es.any fun z => deq z a)))
  | _, _ => M.stuck
theorem any_pys (es : List D) (a : D) : (pys es).any (fun z => PyData.eqv z a.py) = es.any fun z => deq z a := by
  rw [pys_map, List.any_map]; rfl
theorem opIn_wp {neg : Bool} {dx dy : D} {x y : V} {Q : VK} (r1 : Rep K H o dx x) (r2 : Rep K H o dy y) (so : StOk K H o st) (h : wpR (opIn neg dx dy st) (VOk K H o Q) (XOk K E H o)) :
    (∃ i j, x = .str i ∧ y = .str j ∧ Q (.bl (if neg then (Builtin.Str.occurrences j i 0 j.length 1).isEmpty else !(Builtin.Str.occurrences j i 0 j.length 1).isEmpty)) H) ∨
    (∃ d ds, Dp K H x d ∧ Dp K H y (.tuple ds) ∧ SeqAt.shaped d = true ∧ SeqAt.shaped (.tuple ds) = true ∧ Q (.bl (if neg then !ds.any (fun z => PyData.eqv z d) else ds.any fun z => PyData.eqv z d)) H) ∨
    (∃ d ds, Dp K H x d ∧ Dp K H y (.list ds) ∧ SeqAt.shaped d = true ∧ SeqAt.shaped (.list ds) = true ∧ Q (.bl (if neg then !ds.any (fun z => PyData.eqv z d) else ds.any fun z => PyData.eqv z d)) H) := by
  cases dy with
  | str j =>
    cases dx with
    | str i => exact .inl ⟨i, j, r1, r2, ok_flat h so rfl⟩
    | _ => exact False.elim h
  | tup es =>
    have h' : wpR ((dataOf dx >>= fun a => guardM (a.sh && (D.tup es).sh) (pure (.bl (if neg then !(es.any fun z => deq z a) else es.any fun z => deq z a)))) st) (VOk K H o Q) (XOk K E H o) := by
      cases dx <;> exact h
    obtain ⟨a, p1, h⟩ := dataOf_wp r1 so (wpR.bind.mp h')
    obtain ⟨hc, h⟩ := guardM_wp h
    rw [Bool.and_eq_true] at hc
    obtain ⟨o1, s1⟩ := sh_shaped hc.1
    obtain ⟨o2, s2⟩ := sh_shaped hc.2
    have d2 := Rep.dp _ _ r2 o2
    refine .inr (.inl ⟨_, pys es, p1 o1, by simpa [D.py] using d2, s1, by simpa [D.py] using s2, ?_⟩)
    rw [any_pys]
    exact ok_flat h so rfl
  | lst es =>
    have h' : wpR ((dataOf dx >>= fun a => guardM (a.sh && (D.lst es).sh) (pure (.bl (if neg then !(es.any fun z => deq z a) else es.any fun z => deq z a)))) st) (VOk K H o Q) (XOk K E H o) := by
      cases dx <;> exact h
    obtain ⟨a, p1, h⟩ := dataOf_wp r1 so (wpR.bind.mp h')
    obtain ⟨hc, h⟩ := guardM_wp h
    rw [Bool.and_eq_true] at hc
    obtain ⟨o1, s1⟩ := sh_shaped hc.1
    obtain ⟨o2, s2⟩ := sh_shaped hc.2
    have d2 := Rep.dp _ _ r2 o2
    refine .inr (.inr ⟨_, pys es, p1 o1, by simpa [D.py] using d2, s1, by simpa [D.py] using s2, ?_⟩)
    rw [any_pys]
    exact ok_flat h so rfl
  | ref n =>
    have h' : wpR ((dataOf dx >>= fun a => lstOf (.ref n) >>= fun es => guardM (a.sh && (D.lst es).sh) (pure (.bl (if neg then !(es.any fun z => deq z a) else es.any fun z => deq z a)))) st) (VOk K H o Q) (XOk K E H o) := by
      cases dx <;> exact h
    obtain ⟨a, p1, h⟩ := dataOf_wp r1 so (wpR.bind.mp h')
    obtain ⟨es, b, xs, rfl, e2, q2, h⟩ := lstOf_wp r2 so (wpR.bind.mp h)
    obtain ⟨hc, h⟩ := guardM_wp h
    rw [Bool.and_eq_true] at hc
    obtain ⟨o1, s1⟩ := sh_shaped hc.1
    obtain ⟨o2, s2⟩ := sh_shaped hc.2
    refine .inr (.inr ⟨_, pys es, p1 o1, Dp.lst (SqL.of e2) (Reps.dp es xs q2 o2), s1, by simpa [D.py] using s2, ?_⟩)
    rw [any_pys]
    exact ok_flat h so rfl
  | _ => cases dx <;> exact False.elim h
theorem od_in (hu : X.A.units + 65 < cLine) : OpD X E (compareOp .In) (opIn false) := by
  intro pins s σ H x y v u Q I rx ry h
  obtain ⟨dx, dy, o, st, r1, r2, so, h⟩ := h
  rcases opIn_wp r1 r2 so h with q | q | q
  · exact op_in_str pins s σ H x y v u Q I rx ry q
  · exact op_inT hu pins s σ H x y v u Q I rx ry q
  · exact op_inD hu pins s σ H x y v u Q I rx ry q
theorem od_notIn (hu : X.A.units + 65 < cLine) : OpD X E (compareOp .NotIn) (opIn true) := by
  intro pins s σ H x y v u Q I rx ry h
  obtain ⟨dx, dy, o, st, r1, r2, so, h⟩ := h
  rcases opIn_wp r1 r2 so h with ⟨i, j, e1, e2, q⟩ | q | q
  · exact op_notin_str pins s σ H x y v u Q I rx ry ⟨i, j, e1, e2, by simpa using q⟩
  · exact op_notInT hu pins s σ H x y v u Q I rx ry q
  · exact op_notInD hu pins s σ H x y v u Q I rx ry q
end
end MP

namespace MP
open PySem L2
open PySem.Spec PyProof.Rows
def optM : Option D → M D
  | some d => pure d
  | none => M.stuck
section
variable {K : Frag} {E : XK} {H : Hp} {o : Lo} {st : Store} {X : Cx}
theorem optM_wp {x : Option D} {Q : D → Store → Prop} {Z : Exn → Store → Prop} (h : wpR (optM x st) Q Z) : ∃ d, x = some d ∧ Q d st := by
  cases x with
  | some d => exact ⟨d, rfl, h⟩
  | none => exact False.elim h
theorem atI_rep {ds : List D} {vs : List V} {i : Int} {d : D} (r : Reps K H o ds vs) (e : atI ds i = some d) : ∃ v, atI vs i = some v ∧ Rep K H o d v := by
  unfold atI at e ⊢
  rw [r.length]
  cases q : ixN ds.length i with
  | none => rw [q] at e; cases e
  | some j =>
    rw [q] at e
    obtain ⟨v, h1, h2⟩ := r.get (show ds[j]? = some d from e)
    exact ⟨v, h1, h2⟩

/-! ## subscripts -/
def ixCell : Option Cell → D → M D
  | some (.lst ds), .int i => optM (atI ds i)
  | some (.dic ks ds), k => match keyD k with
    | some q => optM (dget ks ds q)
    | none => M.stuck
  | _, _ => M.stuck
def opIx : D → D → M D
  | .tup ds, .int i => optM (atI ds i)
  | .lst ds, .int i => optM (atI ds i)
  | .str z, .int i => guardM (decide (z.length ≤ big)) (match atI z.cps.toList i with
    | some c => pure (.str ⟨#[c]⟩)
    | none => M.stuck)
  | .scr ns, .int i => optM ((atI ns i).map D.int)
  | .dic ks ds, k => ixCell (some (.dic ks ds)) k
  | .ref n, k => fun st => ixCell st[n]? k st
  | _, _ => M.stuck
theorem atI_map {α β : Type} (f : α → β) (xs : List α) (i : Int) : atI (xs.map f) i = (atI xs i).map f := by
  unfold atI
  rw [List.length_map]
  cases ixN xs.length i with
  | none => rfl
  | some j => show (xs.map f)[j]? = (xs[j]?).map f; rw [List.getElem?_map]
theorem ix_dict (hu : X.A.units + 1 < cLine) : IxR X (fun x y H Q => ∃ a v, x = .ref a ∧ DGet H a y (some v) ∧ Q v H) := by
  intro value slice pins s σ H x y v u Q I rx ry h hs
  obtain ⟨a, z, rfl, g, q⟩ := h
  cases rx
  exact tail_any (dict_typeIs I g) PySem.F.slot_dict_getitem.lookup (d_getItem hu I g ry fun w' s3 I3 rw' => ⟨z, H, I3, rw', q⟩) hs
theorem id_ix (hu : X.A.units + 1 < cLine) : IxD X E opIx := by
  intro value slice pins s σ H x y v u Q I rx ry h hs
  obtain ⟨dx, dy, o, st, r1, r2, so, h⟩ := h
  have dic : ∀ {a : Addr} {kvs : List (Key × V)} {ks : List Key} {ds : List D} {dk : D}, x = .ref a → H a = some (.dK kvs) → kvs.map (·.1) = ks → Reps X.K H o ds (kvs.map (·.2)) → Rep X.K H o dk y → wpR (ixCell (some (.dic ks ds)) dk st) (VOk X.K H o Q) (XOk X.K E H o) →
      wpAny (model X.prog X.w) X.A (subscriptTail value slice v u) (EP X pins σ Q) X.xe s := fun {a kvs ks ds dk} e1 e2 e3 e4 r h => by
    subst e1 e3
    have h' : wpR ((match keyD dk with | some q => optM (dget (List.map (fun p : Key × V => p.1) kvs) ds q) | none => M.stuck) st) (VOk X.K H o Q) (XOk X.K E H o) := by
      cases dk <;> exact h
    cases q : keyD dk with
    | none => rw [q] at h'; exact False.elim h'
    | some k =>
      rw [q] at h'
      obtain ⟨d, e5, h5⟩ := optM_wp h'
      have ey := keyD_rep q r
      subst ey
      rcases dget_val (q := k) e4 with ⟨g1, _⟩ | ⟨d', w, g1, g2, g3⟩
      · rw [g1] at e5; cases e5
      · rw [g1] at e5; cases e5
        exact ix_dict hu value slice pins s σ H _ _ v u Q I rx ry ⟨a, w, rfl, by rw [← g2]; exact DGet.k e2, ok_flat h5 so g3⟩ hs
  have lst : ∀ {a : Addr} {xs : List V} {ds : List D} {i : Int}, x = .ref a → H a = some (.lst xs) → Reps X.K H o ds xs → y = .int i → wpR (optM (atI ds i) st) (VOk X.K H o Q) (XOk X.K E H o) →
      wpAny (model X.prog X.w) X.A (subscriptTail value slice v u) (EP X pins σ Q) X.xe s := fun {a xs ds i} e1 e2 e3 e4 h => by
    obtain ⟨d, e5, h5⟩ := optM_wp h
    obtain ⟨w, e6, e7⟩ := atI_rep e3 e5
    exact ix_list value slice pins s σ H x y v u Q I rx ry ⟨a, xs, i, w, e1, e4, SqL.of e2, e6, ok_flat h5 so e7⟩ hs
  cases dx with
  | tup ds =>
    cases dy with
    | int i =>
      obtain ⟨a, xs, rfl, k1, q1⟩ := r1
      obtain ⟨d, e5, h5⟩ := optM_wp h
      obtain ⟨w, e6, e7⟩ := atI_rep q1 e5
      exact ix_tup value slice pins s σ H _ y v u Q I rx ry ⟨a, xs, i, w, rfl, r2, tup_sq k1, e6, ok_flat h5 so e7⟩ hs
    | _ => exact False.elim h
  | lst ds =>
    cases dy with
    | int i => obtain ⟨a, xs, e, k1, _, q1⟩ := r1; exact lst e k1 q1 r2 h
    | _ => exact False.elim h
  | str z =>
    cases dy with
    | int i =>
      obtain ⟨hl, h⟩ := guardM_wp h
      cases q : atI z.cps.toList i with
      | none => rw [q] at h; exact False.elim h
      | some c =>
        rw [q] at h
        exact ix_str value slice pins s σ H x y v u Q I rx ry ⟨z, i, c, r1, r2, Nat.le_trans (of_decide_eq_true hl) big_le, q, ok_flat h so rfl⟩ hs
    | _ => exact False.elim h
  | scr ns =>
    cases dy with
    | int i =>
      obtain ⟨a, rfl, k1⟩ := r1
      obtain ⟨d, e5, h5⟩ := optM_wp h
      obtain ⟨j, e6, rfl⟩ := Option.map_eq_some_iff.mp e5
      have sq : SqL X.K H a (ns.map V.int) := by
        rcases k1 with ⟨k1, _⟩ | k1
        · exact .inl k1
        · exact .inr k1
      exact ix_list value slice pins s σ H _ y v u Q I rx ry ⟨a, _, i, .int j, rfl, r2, sq, by rw [atI_map, e6]; rfl, ok_flat h5 so rfl⟩ hs
    | _ => exact False.elim h
  | dic ks ds =>
    obtain ⟨a, kvs, e1, e2, _, e3, e4⟩ := r1
    exact dic e1 e2 e3 e4 r2 h
  | ref n =>
    have h' : wpR (ixCell st[n]? dy st) (VOk X.K H o Q) (XOk X.K E H o) := by cases dy <;> exact h
    cases q : st[n]? with
    | none => rw [q] at h'; cases dy <;> exact False.elim h'
    | some c =>
      rw [q] at h'
      obtain ⟨b, e0, h1⟩ := r1
      have at_ : ∀ {a}, o.l[n]? = some (some a) → x = .ref a := fun {a} e1 => by
        rw [e1] at h1
        rcases h1 with h1 | h1
        · cases h1; exact e0
        · cases h1
      cases c with
      | lst ds =>
        obtain ⟨a, xs, e1, e2, e3⟩ := so.cell n _ q
        cases dy with
        | int i => exact lst (at_ e1) e2 e3 r2 h'
        | _ => exact False.elim h'
      | dic ks ds =>
        obtain ⟨a, kvs, e1, e2, e4, e3⟩ := so.cell n _ q
        exact dic (at_ e1) e2 e4 e3 r2 h'
      | _ => cases dy <;> exact False.elim h'
  | _ => cases dy <;> exact False.elim h

/-! ## slices -/
def cutL {α : Type} (xs : List α) (lo hi : Option Int) : List α := (xs.drop (HT.sIx xs.length 0 lo)).take (HT.sIx xs.length xs.length hi - HT.sIx xs.length 0 lo)
theorem Reps.cut {ds : List D} {vs : List V} (r : Reps K H o ds vs) (lo hi : Option Int) : Reps K H o (cutL ds lo hi) (cutV vs lo hi) := by
  unfold cutL cutV
  rw [r.length]
  exact (r.drop _).take _
theorem cutL_whole {α : Type} {xs : List α} {lo hi : Option Int} (h1 : HT.sIx xs.length 0 lo = 0) (h2 : HT.sIx xs.length xs.length hi = xs.length) : cutL xs lo hi = xs := by
  unfold cutL
  rw [h1, h2]
  simp
def opSl (lo hi : Option Int) : D → M D
  | .tup ds => pure (.tup (cutL ds lo hi))
  | .lst ds => pure (.lst (cutL ds lo hi))
  | .str z => guardM (decide (z.length ≤ big)) (pure (.str (cutS z lo hi)))
  | .ref n => lstOf (.ref n) >>= fun ds => pure (.lst (cutL ds lo hi))
  | .tupn ds => guardM (decide (¬ (HT.sIx ds.length 0 lo = 0 ∧ HT.sIx ds.length ds.length hi = ds.length))) (pure (.tup (cutL ds lo hi)))
  | _ => M.stuck
abbrev SlD (X : Cx) (E : XK) (op : Option Int → Option Int → D → M D) : Prop := SlR X (fun x lo hi H Q => rOne X.K E (op lo hi) x H Q)
theorem sd_sl : SlD X E opSl := by
  intro pins s σ H x v vl vu lo hi sl Q I rx hs pl pu h
  obtain ⟨dx, o, st, r1, so, h⟩ := h
  cases dx with
  | tup ds =>
    obtain ⟨a, xs, rfl, k1, q1⟩ := r1
    refine sl_tupA pins s σ H _ v vl vu lo hi sl Q I rx hs pl pu ⟨a, xs, rfl, tup_sq k1, fun ⟨e1, e2⟩ => ?_, fun _ p hp => ok_newTup h so (q1.cut lo hi) hp⟩
    rw [q1.length] at e1 e2
    have h' : VOk X.K H o Q (.tup (cutL ds lo hi)) st := h
    rw [cutL_whole e1 e2] at h'
    exact ok_flat h' so ⟨a, xs, rfl, k1, q1⟩
  | lst ds =>
    obtain ⟨a, xs, rfl, k1, _, q1⟩ := r1
    exact sl_list pins s σ H _ v vl vu lo hi sl Q I rx hs pl pu ⟨a, xs, rfl, SqL.of k1, fun p hp => ok_newLst h so (q1.cut lo hi) hp⟩
  | str z =>
    obtain ⟨hl, h⟩ := guardM_wp h
    exact sl_str pins s σ H _ v vl vu lo hi sl Q I rx hs pl pu ⟨z, r1, Nat.le_trans (of_decide_eq_true hl) big_le, ok_flat h so rfl⟩
  | ref n =>
    obtain ⟨ds, a, xs, rfl, k1, q1, h⟩ := lstOf_wp r1 so (wpR.bind.mp h)
    exact sl_list pins s σ H _ v vl vu lo hi sl Q I rx hs pl pu ⟨a, xs, rfl, SqL.of k1, fun p hp => ok_newLst h so (q1.cut lo hi) hp⟩
  | tupn ds =>
    obtain ⟨a, ob, xs, rfl, k1, _, _, q1⟩ := r1
    obtain ⟨hl, h⟩ := guardM_wp h
    have hl := of_decide_eq_true hl
    refine sl_tupA pins s σ H _ v vl vu lo hi sl Q I rx hs pl pu ⟨a, xs, rfl, .inl (.inr ⟨ob, k1⟩), fun e => ?_, fun _ p hp => ok_newTup h so (q1.cut lo hi) hp⟩
    rw [q1.length] at e
    exact absurd e hl
  | _ => exact False.elim h
/-- a part of a slice -/
abbrev DenO := Env → M (Option Int)
def OOk (K : Frag) (H : Hp) (o : Lo) (Q : Option Int → Hp → Prop) (b : Option Int) (st : Store) : Prop := ∀ H' o', Le H o H' o' → StOk K H' o' st → Q b H'
theorem OOk.mono {K : Frag} {H H' : Hp} {o o' : Lo} {Q : Option Int → Hp → Prop} {d : Option Int} {st : Store} (x : OOk K H o Q d st) (l : Le H o H' o') : OOk K H' o' Q d st :=
  fun H2 o2 l2 => x H2 o2 (l.trans l2)
def tO (K : Frag) (E : XK) (f : DenO) : TO := fun σ H Q => ∃ o ρ st, EnvOk K H o ρ σ ∧ StOk K H o st ∧ wpR (f ρ st) (OOk K H o Q) (XOk K E H o)
abbrev PDO (X : Cx) (E : XK) (e : Option Expr) (f : DenO) : Prop := PO X e (tO X.K E f)
theorem PO.imp {e : Option Expr} {t t' : TO} (h : PO X e t) (m : ∀ σ H Q, t' σ H Q → t σ H Q) : PO X e t' := ⟨fun pins s σ H Q I q => h.run pins s σ H Q I (m σ H Q q)⟩
def asI : D → M (Option Int)
  | .int i => pure (some i)
  | _ => M.stuck
theorem pdo_none : PDO X E none (fun _ => pure none) := PO.imp po_none fun σ H Q h => by
  obtain ⟨o, ρ, st, he, hs, h⟩ := h
  exact h H o (Le.refl _ _) hs
theorem pdo_some {e : Expr} {f : Den} (h : PD X E e f) : PDO X E (some e) (fun ρ => f ρ >>= asI) := PO.imp (po_some h) fun σ H Q h => by
  obtain ⟨o, ρ, st, he, hs, h⟩ := h
  refine ⟨o, ρ, st, he, hs, ?_⟩
  refine (wpR.bind.mp h).mono (fun d st1 h1 v H1 o1 l s1 r => ?_) fun _ _ x => x
  cases d with
  | int i => exact ⟨i, r, h1 H1 o1 l s1⟩
  | _ => exact False.elim h1
theorem pd_slice {e : Expr} {lo hi : Option Expr} {f : Den} {fl fh : DenO} {pos p2 : Pos} (he : PD X E e f) (hl : PDO X E lo fl) (hh : PDO X E hi fh) :
    PD X E (.Subscript e (.Slice lo hi none p2) pos) (fun ρ => f ρ >>= fun x => fl ρ >>= fun l => fh ρ >>= fun u => opSl l u x) :=
  PE.imp (pe_slice (sd_sl (E := E)) he hl hh) fun σ H Q h => by
    obtain ⟨o, ρ, st, he, hs, h⟩ := h
    refine ⟨o, ρ, st, he, hs, ?_⟩
    refine (wpR.bind.mp h).mono (fun d st1 h1 v H1 o1 l1 s1 r => ⟨o1, ρ, st1, he.mono l1.rep, s1, ?_⟩) fun _ _ x => x
    refine (wpR.bind.mp h1).mono (fun l st2 h2 H2 o2 l2 s2 => ⟨o2, ρ, st2, (he.mono l1.rep).mono l2.rep, s2, ?_⟩) fun _ _ x => x.mono l1
    refine (wpR.bind.mp h2).mono (fun u st3 h3 H3 o3 l3 s3 => ⟨d, o3, st3, Rep.mono l3 _ _ (Rep.mono l2 _ _ r), s3, ?_⟩) fun _ _ x => (x.mono l1).mono l2
    exact h3.mono (fun _ _ x => ((x.mono l1).mono l2).mono l3) fun _ _ x => ((x.mono l1).mono l2).mono l3

/-! ## builtins by name -/
@[simp] def on1 (f : D → M D) : List D → M D
  | [d] => f d
  | _ => M.stuck
@[simp] def on2 (f : D → D → M D) : List D → M D
  | [d, e] => f d e
  | _ => M.stuck
theorem Reps.one_of {d : D} {vs : List V} (r : Reps K H o [d] vs) : ∃ v, vs = [v] ∧ Rep K H o d v := by
  obtain ⟨v, vs', rfl, h1, h2⟩ := r
  cases (show vs' = [] from h2)
  exact ⟨v, rfl, h1⟩
theorem Reps.two_of {d e : D} {vs : List V} (r : Reps K H o [d, e] vs) : ∃ v w, vs = [v, w] ∧ Rep K H o d v ∧ Rep K H o e w := by
  obtain ⟨v, vs', rfl, h1, h2⟩ := r
  obtain ⟨w, rfl, h3⟩ := Reps.one_of h2
  exact ⟨v, w, rfl, h1, h3⟩
theorem cd_on1 {f : Value} {op : D → M D} (hf : ∀ (pins : List (Addr × Obj)) (s : Shared) (σ : L2.St) (H : Hp) (v : V) (us : List Value) (Q : VK) (d : D) (o : Lo) (st : Store), L2.Inv X pins σ H s → Vals [v] us → Rep X.K H o d v → StOk X.K H o st → wpR (op d st) (VOk X.K H o Q) (XOk X.K E H o) →
    wpAny (model X.prog X.w) X.A (call f us) (EP X pins σ Q) X.xe s) : CallD X E f (on1 op) := by
  intro pins s σ H xs us Q I r h
  obtain ⟨ds, o, st, r1, so, h⟩ := h
  cases ds with
  | nil => exact False.elim h
  | cons d ds =>
    cases ds with
    | nil =>
      obtain ⟨v, e, q⟩ := r1.one_of
      subst e
      exact hf pins s σ H v us Q d o st I r q so h
    | cons _ _ => exact False.elim h
theorem cd_on2 {f : Value} {op : D → D → M D} (hf : ∀ (pins : List (Addr × Obj)) (s : Shared) (σ : L2.St) (H : Hp) (v w : V) (us : List Value) (Q : VK) (d e : D) (o : Lo) (st : Store), L2.Inv X pins σ H s → Vals [v, w] us → Rep X.K H o d v → Rep X.K H o e w → StOk X.K H o st → wpR (op d e st) (VOk X.K H o Q) (XOk X.K E H o) →
    wpAny (model X.prog X.w) X.A (call f us) (EP X pins σ Q) X.xe s) : CallD X E f (on2 op) := by
  intro pins s σ H xs us Q I r h
  obtain ⟨ds, o, st, r1, so, h⟩ := h
  cases ds with
  | nil => exact False.elim h
  | cons d ds =>
    cases ds with
    | nil => exact False.elim h
    | cons e ds =>
      cases ds with
      | nil =>
        obtain ⟨v, w, e, q, q2⟩ := r1.two_of
        subst e
        exact hf pins s σ H v w us Q d _ o st I r q q2 so h
      | cons _ _ => exact False.elim h
def cellLen : Option Cell → M D
  | some (.lst ds) => pure (.int ds.length)
  | some (.dic ks ds) => pure (.int ks.length)
  | _ => M.stuck
def biLen : D → M D
  | .tup ds => pure (.int ds.length)
  | .lst ds => pure (.int ds.length)
  | .str z => guardM (decide (z.length ≤ big)) (pure (.int z.length))
  | .scr ns => pure (.int ns.length)
  | .ref n => fun st => cellLen st[n]? st
  | _ => M.stuck
theorem call_len_dict : CallR X (.builtin "len") (fun xs H Q => ∃ a kvs, xs = [.ref a] ∧ H a = some (.dK kvs) ∧ Q (.int kvs.length) H) := by
  intro pins s σ H xs us Q I r h
  obtain ⟨a, kvs, rfl, e, q⟩ := h
  obtain ⟨u, rfl, rx⟩ := vals1 r
  cases rx
  exact d_len I (.inl e) fun t s' I' => ⟨.int kvs.length, H, I', ⟨t, rfl⟩, q⟩
theorem cd_len : CallD X E (.builtin "len") (on1 biLen) := cd_on1 fun pins s σ H v us Q d o st I r r1 so h => by
  cases d with
  | tup ds =>
    obtain ⟨a, ys, rfl, k1, q1⟩ := r1
    exact call_len_seq pins s σ H _ us Q I r ⟨a, ys, rfl, .inr (tup_sq k1), by rw [q1.length]; exact ok_flat h so rfl⟩
  | lst ds =>
    obtain ⟨a, ys, rfl, k1, _, q1⟩ := r1
    exact call_len_seq pins s σ H _ us Q I r ⟨a, ys, rfl, .inl (SqL.of k1), by rw [q1.length]; exact ok_flat h so rfl⟩
  | str z =>
    obtain ⟨hl, h⟩ := guardM_wp h
    cases (show v = .str z from r1)
    exact call_len_str pins s σ H _ us Q I r ⟨z, rfl, Nat.le_trans (of_decide_eq_true hl) big_le, ok_flat h so rfl⟩
  | scr ns =>
    obtain ⟨a, rfl, k1⟩ := r1
    have sq : SqL X.K H a (ns.map V.int) := by
      rcases k1 with ⟨k1, _⟩ | k1
      · exact .inl k1
      · exact .inr k1
    exact call_len_seq pins s σ H _ us Q I r ⟨a, _, rfl, .inl sq, by rw [List.length_map]; exact ok_flat h so rfl⟩
  | ref n =>
    have h' : wpR (cellLen st[n]? st) (VOk X.K H o Q) (XOk X.K E H o) := h
    cases q : st[n]? with
    | none => rw [q] at h'; exact False.elim h'
    | some c =>
      rw [q] at h'
      obtain ⟨b, rfl, h1⟩ := r1
      have at_ : ∀ {a}, o.l[n]? = some (some a) → b = a := fun {a} e1 => by
        rw [e1] at h1
        rcases h1 with h1 | h1
        · cases h1; rfl
        · cases h1
      cases c with
      | lst ds =>
        obtain ⟨a, ys, e1, e2, e3⟩ := so.cell n _ q
        cases at_ e1
        exact call_len_seq pins s σ H _ us Q I r ⟨_, ys, rfl, .inl (SqL.of e2), by rw [e3.length]; exact ok_flat h' so rfl⟩
      | dic ks ds =>
        obtain ⟨a, kvs, e1, e2, e4, e3⟩ := so.cell n _ q
        cases at_ e1
        refine call_len_dict pins s σ H _ us Q I r ⟨_, kvs, rfl, e2, ?_⟩
        rw [show kvs.length = ks.length by rw [← e4, List.length_map]]
        exact ok_flat h' so rfl
      | _ => exact False.elim h'
  | _ => exact False.elim h
def biAbs : D → M D
  | .int i => pure (.int (if i < 0 then -i else i))
  | _ => M.stuck
def biInt : D → M D
  | .int i => pure (.int i)
  | .bl b => pure (.int (if b then 1 else 0))
  | _ => M.stuck
def biBool : D → M D
  | .int i => pure (.bl (i != 0))
  | .bl b => pure (.bl b)
  | _ => M.stuck
def biStr : D → M D
  | .int i => guardM (decide (i.natAbs.log2 < 1920)) (pure (.str (Str.ofString (toString i))))
  | .str z => pure (.str z)
  | _ => M.stuck
def biMin : D → D → M D
  | .int i, .int j => pure (.int (if j < i then j else i))
  | _, _ => M.stuck
def biMax : D → D → M D
  | .int i, .int j => pure (.int (if j > i then j else i))
  | _, _ => M.stuck
def intsD : List D → Option (List Int)
  | [] => some []
  | .int i :: ds => (intsD ds).map (i :: ·)
  | _ => none
theorem intsD_eq : ∀ {ds : List D} {ns : List Int}, intsD ds = some ns → ds = ns.map D.int
  | [], ns, h => by cases h; rfl
  | .int i :: ds, ns, h => by
    obtain ⟨ms, h1, rfl⟩ := Option.map_eq_some_iff.mp (show (intsD ds).map (i :: ·) = some ns from h)
    rw [intsD_eq h1]; rfl
  | .non :: _, _, h => by cases h
  | .bl _ :: _, _, h => by cases h
  | .str _ :: _, _, h => by cases h
  | .tup _ :: _, _, h => by cases h
  | .lst _ :: _, _, h => by cases h
  | .dic _ _ :: _, _, h => by cases h
  | .scr _ :: _, _, h => by cases h
  | .ref _ :: _, _, h => by cases h
def blsD : List D → Option (List Bool)
  | [] => some []
  | .bl i :: ds => (blsD ds).map (i :: ·)
  | _ => none
theorem blsD_eq : ∀ {ds : List D} {ns : List Bool}, blsD ds = some ns → ds = ns.map D.bl
  | [], ns, h => by cases h; rfl
  | .bl i :: ds, ns, h => by
    obtain ⟨ms, h1, rfl⟩ := Option.map_eq_some_iff.mp (show (blsD ds).map (i :: ·) = some ns from h)
    rw [blsD_eq h1]; rfl
  | .non :: _, _, h => by cases h
  | .int _ :: _, _, h => by cases h
  | .str _ :: _, _, h => by cases h
  | .tup _ :: _, _, h => by cases h
  | .lst _ :: _, _, h => by cases h
  | .dic _ _ :: _, _, h => by cases h
  | .scr _ :: _, _, h => by cases h
  | .ref _ :: _, _, h => by cases h
def sumL (ds : List D) : M D := match intsD ds with
  | some ns => pure (.int ns.sum)
  | none => M.stuck
def biSum : D → M D
  | .lst ds => sumL ds
  | _ => M.stuck
def allL (ds : List D) : M D := match blsD ds with
  | some bs => pure (.bl (bs.all id))
  | none => M.stuck
def biAll : D → M D
  | .lst ds => allL ds
  | _ => M.stuck
def anyL (ds : List D) : M D := match blsD ds with
  | some bs => pure (.bl (bs.any id))
  | none => M.stuck
def biAny : D → M D
  | .lst ds => anyL ds
  | _ => M.stuck
def biList : D → M D
  | .tup ds => pure (.lst ds)
  | .lst ds => pure (.lst ds)
  | .ref n => lstOf (.ref n) >>= fun ds => pure (.lst ds)
  | _ => M.stuck
def biTuple : D → M D
  | .tup ds => pure (.tup ds)
  | .lst ds => pure (.tup ds)
  | .ref n => lstOf (.ref n) >>= fun ds => pure (.tup ds)
  | _ => M.stuck
theorem cd_abs : CallD X E (.builtin "abs") (on1 biAbs) := cd_on1 fun pins s σ H v us Q d o st I r r1 so h => by
  cases d <;> first | exact False.elim h | skip
  cases (show v = .int _ from r1)
  exact call_abs pins s σ H _ us Q I r ⟨_, rfl, ok_flat h so rfl⟩
theorem cd_int : CallD X E (.type "int") (on1 biInt) := cd_on1 fun pins s σ H v us Q d o st I r r1 so h => by
  cases d <;> first | exact False.elim h | skip
  · cases (show v = .bl _ from r1)
    exact call_int1 pins s σ H _ us Q I r (.inr ⟨_, rfl, ok_flat h so rfl⟩)
  · cases (show v = .int _ from r1)
    exact call_int1 pins s σ H _ us Q I r (.inl ⟨_, rfl, ok_flat h so rfl⟩)
theorem cd_bool : CallD X E (.type "bool") (on1 biBool) := cd_on1 fun pins s σ H v us Q d o st I r r1 so h => by
  cases d <;> first | exact False.elim h | skip
  · cases (show v = .bl _ from r1)
    exact call_bool1 pins s σ H _ us Q I r (.inr ⟨_, rfl, ok_flat h so rfl⟩)
  · cases (show v = .int _ from r1)
    exact call_bool1 pins s σ H _ us Q I r (.inl ⟨_, rfl, ok_flat h so rfl⟩)
theorem cd_str : CallD X E (.type "str") (on1 biStr) := cd_on1 fun pins s σ H v us Q d o st I r r1 so h => by
  cases d <;> first | exact False.elim h | skip
  · cases (show v = .int _ from r1)
    obtain ⟨hl, h⟩ := guardM_wp h
    exact call_str_int pins s σ H _ us Q I r ⟨_, rfl, of_decide_eq_true hl, ok_flat h so rfl⟩
  · cases (show v = .str _ from r1)
    exact SkE.call_str_str pins s σ H _ us Q I r ⟨_, rfl, ok_flat h so rfl⟩
theorem cd_min (hc : X.calm = true) : CallD X E (.builtin "min") (on2 biMin) := cd_on2 fun pins s σ H v w us Q d e o st I r r1 r2 so h => by
  cases d <;> cases e <;> first | exact False.elim h | skip
  cases (show v = .int _ from r1)
  cases (show w = .int _ from r2)
  exact call_min2 hc pins s σ H _ us Q I r ⟨_, _, rfl, ok_flat h so rfl⟩
theorem cd_max (hc : X.calm = true) : CallD X E (.builtin "max") (on2 biMax) := cd_on2 fun pins s σ H v w us Q d e o st I r r1 r2 so h => by
  cases d <;> cases e <;> first | exact False.elim h | skip
  cases (show v = .int _ from r1)
  cases (show w = .int _ from r2)
  exact call_max2 hc pins s σ H _ us Q I r ⟨_, _, rfl, ok_flat h so rfl⟩
theorem cd_all (hc : X.calm = true) : CallD X E (.builtin "all") (on1 biAll) := cd_on1 fun pins s σ H v us Q d o st I r r1 so h => by
  cases d <;> first | exact False.elim h | skip
  rename_i ds
  obtain ⟨a, ys, rfl, k1, _, q1⟩ := r1
  have h' : wpR (allL ds st) (VOk X.K H o Q) (XOk X.K E H o) := h
  unfold allL at h'
  cases q : blsD ds with
  | none => rw [q] at h'; exact False.elim h'
  | some bs =>
    rw [q] at h'
    rw [blsD_eq q] at q1
    rw [q1.bls] at k1
    exact cr_all hc pins s σ H _ us Q I r ⟨a, bs, rfl, SqL.of k1, ok_flat h' so rfl⟩
theorem cd_any (hc : X.calm = true) : CallD X E (.builtin "any") (on1 biAny) := cd_on1 fun pins s σ H v us Q d o st I r r1 so h => by
  cases d <;> first | exact False.elim h | skip
  rename_i ds
  obtain ⟨a, ys, rfl, k1, _, q1⟩ := r1
  have h' : wpR (anyL ds st) (VOk X.K H o Q) (XOk X.K E H o) := h
  unfold anyL at h'
  cases q : blsD ds with
  | none => rw [q] at h'; exact False.elim h'
  | some bs =>
    rw [q] at h'
    rw [blsD_eq q] at q1
    rw [q1.bls] at k1
    exact cr_any hc pins s σ H _ us Q I r ⟨a, bs, rfl, SqL.of k1, ok_flat h' so rfl⟩
theorem cd_list : CallD X E (.type "list") (on1 biList) := cd_on1 fun pins s σ H v us Q d o st I r r1 so h => by
  cases d <;> first | exact False.elim h | skip
  · obtain ⟨a, ys, rfl, k1, q1⟩ := r1
    exact call_list_of pins s σ H _ us Q I r ⟨a, ys, rfl, .inr (tup_sq k1), fun l hl => ok_newLst h so q1 hl⟩
  · obtain ⟨a, ys, rfl, k1, _, q1⟩ := r1
    exact call_list_of pins s σ H _ us Q I r ⟨a, ys, rfl, .inl (SqL.of k1), fun l hl => ok_newLst h so q1 hl⟩
  · obtain ⟨ds, a, ys, rfl, k1, q1, h⟩ := lstOf_wp r1 so (wpR.bind.mp h)
    exact call_list_of pins s σ H _ us Q I r ⟨a, ys, rfl, .inl (SqL.of k1), fun l hl => ok_newLst h so q1 hl⟩
theorem cd_tuple : CallD X E (.type "tuple") (on1 biTuple) := cd_on1 fun pins s σ H v us Q d o st I r r1 so h => by
  cases d <;> first | exact False.elim h | skip
  · obtain ⟨a, ys, rfl, k1, q1⟩ := r1
    exact call_tuple_of pins s σ H _ us Q I r ⟨a, ys, rfl, .inr ⟨tup_sq k1, ok_flat h so ⟨a, ys, rfl, k1, q1⟩⟩⟩
  · obtain ⟨a, ys, rfl, k1, _, q1⟩ := r1
    exact call_tuple_of pins s σ H _ us Q I r ⟨a, ys, rfl, .inl ⟨SqL.of k1, fun l hl => ok_newTup h so q1 hl⟩⟩
  · obtain ⟨ds, a, ys, rfl, k1, q1, h⟩ := lstOf_wp r1 so (wpR.bind.mp h)
    exact call_tuple_of pins s σ H _ us Q I r ⟨a, ys, rfl, .inl ⟨SqL.of k1, fun l hl => ok_newTup h so q1 hl⟩⟩
/-- isinstance(x, T), T a built-in type -/
def tyName : D → Option String
  | .non => some "NoneType"
  | .bl _ => some "bool"
  | .int _ => some "int"
  | .str _ => some "str"
  | .tup _ => some "tuple"
  | .lst _ => some "list"
  | .scr _ => some "list"
  | .dic _ _ => some "dict"
  | .ref _ => none
  | .kset _ => none
  | .cls _ => none
  | .exv => none
  | .tupn _ => none
  | .thk _ _ => none
  | .lam _ _ => none
theorem Rep.ty {d : D} {v : V} {t : String} (r : Rep K H o d v) (e : tyName d = some t) : TyX K H v (.type t) := by
  cases d with
  | non => cases e; cases (show v = .non from r); exact .base .non
  | bl b => cases e; cases (show v = .bl b from r); exact .base (.bl b)
  | int b => cases e; cases (show v = .int b from r); exact .base (.int b)
  | str b => cases e; cases (show v = .str b from r); exact .base (.str b)
  | tup ds =>
    cases e
    obtain ⟨a, xs, rfl, k, _⟩ := r
    rcases k with ⟨k, _⟩ | ⟨ob, its, n, h1, h2, _⟩
    · exact .base (.tup k)
    · exact .kTuple h1 h2
  | lst ds => cases e; obtain ⟨a, xs, rfl, k, _⟩ := r; exact .base (.lst k)
  | dic ks ds => cases e; obtain ⟨a, xs, rfl, k, _⟩ := r; exact .base (.dK k)
  | scr ns =>
    cases e
    obtain ⟨a, rfl, k⟩ := r
    rcases k with ⟨k, _⟩ | ⟨ob, its, n, h1, h2, _⟩
    · rcases k with k | ⟨ob, k⟩
      · exact .base (.lst k)
      · exact .base (.frz k)
    · exact .kList h1 h2
  | ref n => cases e
  | kset ds => cases e
  | cls ds => cases e
  | exv => cases e
  | tupn ds => cases e
  | thk _ _ => cases e
  | lam _ _ => cases e
/-- what isinstance answers: a table -/
def isiT (T t : String) : Option Bool := match T, t with
  | "int", "int" => some true | "int", "bool" => some true | "int", "NoneType" => some false | "int", "str" => some false | "int", "tuple" => some false | "int", "list" => some false | "int", "dict" => some false
  | "bool", "int" => some false | "bool", "bool" => some true | "bool", "NoneType" => some false | "bool", "str" => some false | "bool", "tuple" => some false | "bool", "list" => some false | "bool", "dict" => some false
  | "str", "int" => some false | "str", "bool" => some false | "str", "NoneType" => some false | "str", "str" => some true | "str", "tuple" => some false | "str", "list" => some false | "str", "dict" => some false
  | "tuple", "int" => some false | "tuple", "bool" => some false | "tuple", "NoneType" => some false | "tuple", "str" => some false | "tuple", "tuple" => some true | "tuple", "list" => some false | "tuple", "dict" => some false
  | "list", "int" => some false | "list", "bool" => some false | "list", "NoneType" => some false | "list", "str" => some false | "list", "tuple" => some false | "list", "list" => some true | "list", "dict" => some false
  | _, _ => none
theorem isiT_ok {T t : String} {b : Bool} (h : isiT T t = some b) : kitB t T = some b := by
  unfold isiT at h
  split at h <;> first | cases h | skip
  all_goals decide +kernel
def opIsi (T : String) (d : D) : M D := match (tyName d).bind (isiT T) with
  | some b => pure (.bl b)
  | none => M.stuck
theorem pd_isi {T : String} {e : Expr} {p p1 pos : Pos} {x y : Str} {f : Den} (hg : Gl X x) (hm : X.mg x = none) (hv : bootBuiltins x = some (.builtin "isinstance")) (hg2 : Gl X y) (hm2 : X.mg y = none) (hv2 : bootBuiltins y = some (.type T))
    (he : PD X E e f) (hn : x ≠ "__name__") (hdb : (x == ("__debug__" : Str)) = false) (hn2 : y ≠ "__name__") (hdb2 : (y == ("__debug__" : Str)) = false)
    (hs : ∀ es, starEach (e :: es) X.env = (false, eval e X.env) :: starEach es X.env) :
    PD X E (.Call (.Name x p) [e, .Name y p1] [] pos) (fun ρ => f ρ >>= opIsi T) := by
  refine PE.imp (pe_callB call_isi hg hm hv (pa_cons he (pa_cons (pe_bltn hg2 hm2 hv2 (v := .ty T) rfl hn2 hdb2) pa_nil) (hs _)) hn hdb (hs _) rfl) fun σ H Q h => ?_
  obtain ⟨o, ρ, st, he, hs, h⟩ := h
  refine ⟨o, ρ, st, he, hs, ?_⟩
  refine (wpR.bind.mp h).mono (fun d st1 h1 v H1 o1 l s1 r => ?_) fun _ _ x => x
  unfold opIsi at h1
  cases q : tyName d with
  | none => rw [q] at h1; exact False.elim h1
  | some t =>
    rw [q] at h1
    have h2 : wpR ((match isiT T t with | some b => (pure (.bl b) : M D) | none => M.stuck) st1) (VOk X.K H o Q) (XOk X.K E H o) := h1
    cases q2 : isiT T t with
    | none => rw [q2] at h2; exact False.elim h2
    | some b =>
      rw [q2] at h2
      exact ⟨v, .ty T, .type t, .type T, b, rfl, .ty T, r.ty q, kit_ty (isiT_ok q2), h2 _ H1 o1 l s1 rfl⟩
end
end MP

namespace MP
open PySem L2
open PySem.Spec PyProof.Rows
section
variable {K : Frag} {E : XK} {H H' : Hp} {o o' : Lo} {st : Store} {X : Cx}

/-! ## names, constants -/
@[simp] def dVar (i : Nat) : Den := fun ρ => match ρ[i]? with
  | some (some d) => pure d
  | _ => M.stuck
@[simp] def dC (d : D) : Den := fun _ => pure d
theorem pd_var {i : Nat} {x : Str} {pos : Pos} (hN : X.N[i]? = some x) (hv : Vis X.env.scope x) (hd : (x == ("__debug__" : Str)) = false) (hcd : (x == ("__classdict__" : Str)) = false) : PD X E (.Name x pos) (dVar i) :=
  PE.imp (pe_var hN hv hd hcd) fun σ H Q h => by
    obtain ⟨o, ρ, st, he, hs, h⟩ := h
    have h' : wpR ((match ρ[i]? with | some (some d) => (pure d : M D) | _ => M.stuck) st) (VOk X.K H o Q) (XOk X.K E H o) := h
    cases q : ρ[i]? with
    | none => rw [q] at h'; exact False.elim h'
    | some x =>
      rw [q] at h'
      cases x with
      | none => exact False.elim h'
      | some d =>
        obtain ⟨v, h1, h2⟩ := he.2 i d q
        exact ⟨v, h1, h' v H o (Le.refl _ _) hs h2⟩
theorem pd_const {e : Expr} {v : V} {d : D} (h : PE X e (tC v)) (r : ∀ H o, Rep X.K H o d v) : PD X E e (dC d) := PE.imp h fun σ H Q h => by
  obtain ⟨o, ρ, st, he, hs, h⟩ := h
  exact h v H o (Le.refl _ _) hs (r _ _)

/-! ## argument lists, displays -/
@[simp] def dNil : DenL := fun _ => pure []
@[simp] def dCons (f : Den) (fs : DenL) : DenL := fun ρ => f ρ >>= fun d => fs ρ >>= fun ds => pure (d :: ds)
theorem pl_nil : PL X E [] dNil := PA.imp pa_nil fun σ H Q h => by
  obtain ⟨o, ρ, st, he, hs, h⟩ := h
  exact h [] H o (Le.refl _ _) hs rfl
theorem tL_cons {σ : L2.St} {Q : List V → Hp → Prop} {f : Den} {fs : DenL} (h : tL K E (dCons f fs) σ H Q) : tCons (tD K E f) (tL K E fs) σ H Q := by
  obtain ⟨o, ρ, st, he, hs, h⟩ := h
  refine ⟨o, ρ, st, he, hs, ?_⟩
  refine (wpR.bind.mp h).mono (fun d st1 h1 v H1 o1 l s1 r => ⟨o1, ρ, st1, he.mono l.rep, s1, ?_⟩) fun _ _ x => x
  refine (wpR.bind.mp h1).mono (fun ds st2 h2 vs H2 o2 l2 s2 rs => ?_) fun _ _ x => x.mono l
  exact h2 (v :: vs) H2 o2 (l.trans l2) s2 ⟨v, vs, rfl, Rep.mono l2 _ _ r, rs⟩
theorem pl_cons {e : Expr} {es : List Expr} {f : Den} {fs : DenL} (ha : PD X E e f) (hr : PL X E es fs) (hs : starEach (e :: es) X.env = (false, eval e X.env) :: starEach es X.env) : PL X E (e :: es) (dCons f fs) :=
  PA.imp (pa_cons ha hr hs) fun _ _ _ h => tL_cons h
@[simp] def dTup (fs : DenL) : Den := fun ρ => fs ρ >>= fun ds => guardM (decide (ds.length ≤ big)) (pure (.tup ds))
@[simp] def dLst (fs : DenL) : Den := fun ρ => fs ρ >>= fun ds => guardM (decide (ds.length ≤ big)) (pure (.lst ds))
def M.alloc (c : Cell) : M D := fun st => .ok (.ref st.length) (st ++ [c])
/-- a list of one's own -/
@[simp] def dOwn (fs : DenL) : Den := fun ρ => fs ρ >>= fun ds => guardM (decide (ds.length ≤ big)) (M.alloc (.lst ds))
theorem pd_tup {es : List Expr} {fs : DenL} {k : Nat} {pos : Pos} (h : PL X E es fs) : PD X E (.Tuple es k pos) (dTup fs) := PE.imp (pe_tup h) fun σ H Q h => by
  obtain ⟨o, ρ, st, he, hs, h⟩ := h
  refine ⟨o, ρ, st, he, hs, ?_⟩
  refine (wpR.bind.mp h).mono (fun ds st1 h1 vs H1 o1 l s1 r => ?_) fun _ _ x => x
  obtain ⟨hl, h2⟩ := guardM_wp h1
  exact ⟨by rw [r.length]; exact Nat.le_trans (of_decide_eq_true hl) big_le, fun p hp => ok_newTup (VOk.mono h2 l) s1 r hp⟩
theorem pd_lst {es : List Expr} {fs : DenL} {pos : Pos} (h : PL X E es fs) : PD X E (.List es pos) (dLst fs) := PE.imp (pe_lst h) fun σ H Q h => by
  obtain ⟨o, ρ, st, he, hs, h⟩ := h
  refine ⟨o, ρ, st, he, hs, ?_⟩
  refine (wpR.bind.mp h).mono (fun ds st1 h1 vs H1 o1 l s1 r => ?_) fun _ _ x => x
  obtain ⟨hl, h2⟩ := guardM_wp h1
  exact ⟨by rw [r.length]; exact Nat.le_trans (of_decide_eq_true hl) big_le, fun p hp => ok_newLst (VOk.mono h2 l) s1 r hp⟩
theorem ok_alloc {c : Cell} {u : HO} {p : Addr} {Q : VK} {Z : Exn → Store → Prop} (h : wpR (M.alloc c st) (VOk K H o Q) Z) (s : StOk K H o st) (hp : H p = none) (hc : CellOk K (upd H p u) (o.push p) (some (some p)) c) : Q (.ref p) (upd H p u) :=
  (show VOk K H o Q (.ref st.length) (st ++ [c]) from h) _ _ _ (Le.alloc hp) (s.alloc hp hc) (Rep.alloc s)
theorem cell_lst {ds : List D} {xs : List V} {p : Addr} (s : StOk K H o st) (hp : H p = none) (r : Reps K H o ds xs) : CellOk K (upd H p (.lst xs)) (o.push p) (some (some p)) (.lst ds) :=
  ⟨p, xs, rfl, upd_same, (Le.alloc hp).rep.reps r⟩
theorem pd_own {es : List Expr} {fs : DenL} {pos : Pos} (h : PL X E es fs) : PD X E (.List es pos) (dOwn fs) := PE.imp (pe_lst h) fun σ H Q h => by
  obtain ⟨o, ρ, st, he, hs, h⟩ := h
  refine ⟨o, ρ, st, he, hs, ?_⟩
  refine (wpR.bind.mp h).mono (fun ds st1 h1 vs H1 o1 l s1 r => ?_) fun _ _ x => x
  obtain ⟨hl, h2⟩ := guardM_wp h1
  exact ⟨by rw [r.length]; exact Nat.le_trans (of_decide_eq_true hl) big_le, fun p hp => ok_alloc (wpR.mono h2 (fun _ _ x => x.mono l) fun _ _ x => x) s1 hp (cell_lst s1 hp r)⟩

/-! ## a if c else b, and, or, not, chains -/
@[simp] def dIf (c : DenB) (f g : Den) : Den := fun ρ => c ρ >>= fun b => cond b (f ρ) (g ρ)
theorem pd_if {c a b : Expr} {pos : Pos} {fc : DenB} {f g : Den} (hc : PB X E c fc) (ha : PD X E a f) (hb : PD X E b g) : PD X E (.IfExp c a b pos) (dIf fc f g) := PE.imp (pe_ifExp hc ha hb) fun σ H Q h => by
  have h1 := tT_bind (g := fun b ρ => cond b (f ρ) (g ρ)) h
  obtain ⟨o, ρ, st, he, hs, h1⟩ := h1
  refine ⟨o, ρ, st, he, hs, h1.mono (fun b st1 q H1 o1 l s1 => ?_) fun _ _ x => x⟩
  have q' := q H1 o1 l s1
  cases b with
  | true => exact iteT q'
  | false => exact iteF q'
@[simp] def dAnd (f g : Den) : Den := fun ρ => f ρ >>= asB >>= fun c => cond c (g ρ) (pure (.bl false))
@[simp] def dOr (f g : Den) : Den := fun ρ => f ρ >>= asB >>= fun c => cond c (pure (.bl true)) (g ρ)
@[simp] def dNot (f : Den) : Den := fun ρ => f ρ >>= asB >>= fun c => pure (.bl (!c))
theorem tB_bind {σ : L2.St} {Q : VK} {f : Den} {g : Bool → Den} (h : tD K E (fun ρ => f ρ >>= asB >>= fun c => g c ρ) σ H Q) : tD K E f σ H fun x H1 => ∃ c, x = .bl c ∧ tD K E (g c) σ H1 Q := by
  obtain ⟨o, ρ, st, he, hs, h⟩ := h
  refine ⟨o, ρ, st, he, hs, ?_⟩
  refine (wpR.bind.mp (wpR.bind.mp h)).mono (fun d st1 h1 v H1 o1 l s1 r => ?_) fun _ _ x => x
  cases d with
  | bl b => exact ⟨b, r, o1, ρ, st1, he.mono l.rep, s1, wpR.mono h1 (fun _ _ x => x.mono l) fun _ _ x => x.mono l⟩
  | _ => exact False.elim h1
theorem pd_and {a b : Expr} {rest : List Expr} {pos : Pos} {f g : Den} (ha : PD X E a f) (hb : PD X E (.BoolOp .And (b :: rest) pos) g) : PD X E (.BoolOp .And (a :: b :: rest) pos) (dAnd f g) := PE.imp (pe_and ha hb) fun σ H Q h => by
  obtain ⟨o, ρ, st, he, hs, h1⟩ := tB_bind (g := fun c ρ => cond c (g ρ) (pure (.bl false))) h
  refine ⟨o, ρ, st, he, hs, h1.mono (fun d st1 q v H1 o1 l s1 r => ?_) fun _ _ x => x⟩
  obtain ⟨c, e, q'⟩ := q v H1 o1 l s1 r
  refine ⟨c, e, ?_⟩
  cases c with
  | true => exact iteT q'
  | false =>
    rw [if_neg Bool.false_ne_true]
    exact tD_pure (d := .bl false) (.bl false) (fun _ _ => rfl) q'
theorem pd_or {a b : Expr} {rest : List Expr} {pos : Pos} {f g : Den} (ha : PD X E a f) (hb : PD X E (.BoolOp .Or (b :: rest) pos) g) : PD X E (.BoolOp .Or (a :: b :: rest) pos) (dOr f g) := PE.imp (pe_or ha hb) fun σ H Q h => by
  obtain ⟨o, ρ, st, he, hs, h1⟩ := tB_bind (g := fun c ρ => cond c (pure (.bl true)) (g ρ)) h
  refine ⟨o, ρ, st, he, hs, h1.mono (fun d st1 q v H1 o1 l s1 r => ?_) fun _ _ x => x⟩
  obtain ⟨c, e, q'⟩ := q v H1 o1 l s1 r
  refine ⟨c, e, ?_⟩
  cases c with
  | false => exact iteF q'
  | true =>
    rw [if_pos rfl]
    exact tD_pure (d := .bl true) (.bl true) (fun _ _ => rfl) q'
theorem pd_not {a : Expr} {pos : Pos} {f : Den} (ha : PD X E a f) : PD X E (.UnaryOp .Not a pos) (dNot f) := PE.imp (pe_not ha) fun σ H Q h => by
  obtain ⟨o, ρ, st, he, hs, h1⟩ := tB_bind (g := fun c _ => pure (.bl (!c))) h
  refine ⟨o, ρ, st, he, hs, h1.mono (fun d st1 q v H1 o1 l s1 r => ?_) fun _ _ x => x⟩
  obtain ⟨c, e, q'⟩ := q v H1 o1 l s1 r
  exact ⟨c, e, tD_pure (d := .bl (!c)) (.bl (!c)) (fun _ _ => rfl) q'⟩
@[simp] def dBAnd (f g : DenB) : DenB := fun ρ => f ρ >>= fun c => cond c (g ρ) (pure false)
@[simp] def dBOr (f g : DenB) : DenB := fun ρ => f ρ >>= fun c => cond c (pure true) (g ρ)
@[simp] def dBNot (f : DenB) : DenB := fun ρ => f ρ >>= fun c => pure (!c)
abbrev PWB (X : Cx) (E : XK) (e : Expr) (f : DenB) : Prop := PW X e (tT X.K E f)
theorem PW.imp {e : Expr} {t t' : TT} (h : PW X e t) (m : ∀ σ H Q, t' σ H Q → t σ H Q) : PW X e t' := ⟨fun wh pins s σ H Q I q => h.run wh pins s σ H Q I (m σ H Q q)⟩
theorem tTT_bind {σ : L2.St} {Q : Bool → Hp → Prop} {f : DenB} {g : Bool → DenB} (h : tT K E (fun ρ => f ρ >>= fun c => g c ρ) σ H Q) : tT K E f σ H fun c H1 => tT K E (g c) σ H1 Q := by
  obtain ⟨o, ρ, st, he, hs, h⟩ := h
  refine ⟨o, ρ, st, he, hs, ?_⟩
  refine (wpR.bind.mp h).mono (fun d st1 h1 H1 o1 l s1 => ⟨o1, ρ, st1, he.mono l.rep, s1, ?_⟩) fun _ _ x => x
  exact wpR.mono h1 (fun _ _ x => x.mono l) fun _ _ x => x.mono l
theorem tT_pure {σ : L2.St} {Q : Bool → Hp → Prop} {b : Bool} (h : tT K E (fun _ => pure b) σ H Q) : Q b H := by
  obtain ⟨o, ρ, st, he, hs, h⟩ := h
  exact h H o (Le.refl _ _) hs
theorem pwb_and {a b : Expr} {rest : List Expr} {pos : Pos} {f g : DenB} (ha : PB X E a f) (hb : PWB X E (.BoolOp .And (b :: rest) pos) g) : PWB X E (.BoolOp .And (a :: b :: rest) pos) (dBAnd f g) := PW.imp (pw_and ha hb) fun σ H Q h => by
  obtain ⟨o, ρ, st, he, hs, h1⟩ := tTT_bind (g := fun c ρ => cond c (g ρ) (pure false)) h
  refine ⟨o, ρ, st, he, hs, h1.mono (fun c st1 q H1 o1 l s1 => ?_) fun _ _ x => x⟩
  have q' := q H1 o1 l s1
  cases c with
  | true => exact iteT q'
  | false => exact iteF (tT_pure q')
theorem pwb_or {a b : Expr} {rest : List Expr} {pos : Pos} {f g : DenB} (ha : PB X E a f) (hb : PWB X E (.BoolOp .Or (b :: rest) pos) g) : PWB X E (.BoolOp .Or (a :: b :: rest) pos) (dBOr f g) := PW.imp (pw_or ha hb) fun σ H Q h => by
  obtain ⟨o, ρ, st, he, hs, h1⟩ := tTT_bind (g := fun c ρ => cond c (pure true) (g ρ)) h
  refine ⟨o, ρ, st, he, hs, h1.mono (fun c st1 q H1 o1 l s1 => ?_) fun _ _ x => x⟩
  have q' := q H1 o1 l s1
  cases c with
  | false => exact iteF q'
  | true => exact iteT (tT_pure q')
theorem pb_not {a : Expr} {pos : Pos} {f : DenB} (ha : PB X E a f) : PB X E (.UnaryOp .Not a pos) (dBNot f) := PT.imp (pt_not ha) fun σ H Q h => by
  obtain ⟨o, ρ, st, he, hs, h1⟩ := tTT_bind (g := fun c _ => pure (!c)) h
  refine ⟨o, ρ, st, he, hs, h1.mono (fun c st1 q H1 o1 l s1 => ?_) fun _ _ x => x⟩
  exact tT_pure (q H1 o1 l s1)
@[simp] def dChain (p p' : D → D → M D) (f g h : Den) : Den := fun ρ => f ρ >>= fun x => g ρ >>= fun y => p x y >>= asB >>= fun c => cond c (h ρ >>= fun z => p' y z) (pure (.bl false))
theorem tD_chain {p p' : D → D → M D} {f g k : Den} {σ : L2.St} {Q : VK} (h : tD K E (dChain p p' f g k) σ H Q) : tChain (rTwo K E p) (rTwo K E p') (tD K E f) (tD K E g) (tD K E k) σ H Q := by
  obtain ⟨o, ρ, st, he, hs, h⟩ := h
  refine ⟨o, ρ, st, he, hs, ?_⟩
  refine (wpR.bind.mp h).mono (fun x st1 h1 v H1 o1 l1 s1 r1 => ⟨o1, ρ, st1, he.mono l1.rep, s1, ?_⟩) fun _ _ x => x
  refine (wpR.bind.mp h1).mono (fun y st2 h2 w H2 o2 l2 s2 r2 => ⟨x, y, o2, st2, Rep.mono l2 _ _ r1, r2, s2, ?_⟩) fun _ _ x => x.mono l1
  refine (wpR.bind.mp (wpR.bind.mp h2)).mono (fun z st3 h3 u H3 o3 l3 s3 r3 => ?_) fun _ _ x => (x.mono l1).mono l2
  cases z with
  | bl c =>
    refine ⟨c, r3, ?_⟩
    have h4 : wpR ((cond c (k ρ >>= fun z => p' y z) (pure (.bl false))) st3) (VOk K H3 o3 Q) (XOk K E H3 o3) := wpR.mono h3 (fun _ _ x => ((x.mono l1).mono l2).mono l3) fun _ _ x => ((x.mono l1).mono l2).mono l3
    cases c with
    | false =>
      rw [if_neg Bool.false_ne_true]
      exact h4 (.bl false) H3 o3 (Le.refl _ _) s3 rfl
    | true =>
      rw [if_pos rfl]
      refine ⟨o3, ρ, st3, ((he.mono l1.rep).mono l2.rep).mono l3.rep, s3, ?_⟩
      refine (wpR.bind.mp h4).mono (fun zz st4 h5 w4 H4 o4 l4 s4 r4 => ⟨y, zz, o4, st4, Rep.mono l4 _ _ (Rep.mono l3 _ _ r2), r4, s4, ?_⟩) fun _ _ x => x
      exact wpR.mono h5 (fun _ _ x => x.mono l4) fun _ _ x => x.mono l4
  | _ => exact False.elim h3
theorem pd_chain {op op' : CmpOp} {p p' : D → D → M D} {a b c : Expr} {f g k : Den} {pos : Pos} (h1 : OpD X E (compareOp op) p) (h2 : OpD X E (compareOp op') p') (ha : PD X E a f) (hb : PD X E b g) (hc : PD X E c k)
    (hm : lastMarks [op, op'] [b, c] = false) : PD X E (.Compare a [op, op'] [b, c] pos) (dChain p p' f g k) := PE.imp (pe_chain h1 h2 ha hb hc hm) fun _ _ _ h => tD_chain h
theorem pb_chain {op op' : CmpOp} {p p' : D → D → M D} {a b c : Expr} {f g k : Den} {pos : Pos} (h1 : OpD X E (compareOp op) p) (h2 : OpD X E (compareOp op') p') (ha : PD X E a f) (hb : PD X E b g) (hc : PD X E c k)
    (hm : lastMarks [op, op'] [b, c] = false) : PB X E (.Compare a [op, op'] [b, c] pos) (fun ρ => dChain p p' f g k ρ >>= asB) := PT.imp (pt_chain h1 h2 ha hb hc hm) fun _ _ _ h => tD_chain (tT_of h)

/-! ## calls -/
@[simp] def dCall (p : List D → M D) (fs : DenL) : Den := fun ρ => fs ρ >>= p
theorem pd_callB {id : String} {x : Str} {p : List D → M D} {e : Expr} {es : List Expr} {fs : DenL} {pn pos : Pos} (hc : CallD X E (.builtin id) p) (hg : Gl X x) (hm : X.mg x = none) (hv : bootBuiltins x = some (.builtin id)) (ha : PL X E (e :: es) fs)
    (hn : x ≠ "__name__") (hdb : (x == ("__debug__" : Str)) = false) (he : starEach (e :: es) X.env = (false, eval e X.env) :: starEach es X.env) (hpl : (backTo pos (starEach es X.env)).any (·.1) = false) :
    PD X E (.Call (.Name x pn) (e :: es) [] pos) (dCall p fs) := PE.imp (pe_callB hc hg hm hv ha hn hdb he hpl) fun _ _ _ h => tD_lst h
theorem pd_callTy {T : String} {x : Str} {p : List D → M D} {e : Expr} {es : List Expr} {fs : DenL} {pn pos : Pos} (hc : CallD X E (.type T) p) (hg : Gl X x) (hm : X.mg x = none) (hv : bootBuiltins x = some (.type T)) (ha : PL X E (e :: es) fs)
    (hn : x ≠ "__name__") (hdb : (x == ("__debug__" : Str)) = false) (he : starEach (e :: es) X.env = (false, eval e X.env) :: starEach es X.env) (hpl : (backTo pos (starEach es X.env)).any (·.1) = false) :
    PD X E (.Call (.Name x pn) (e :: es) [] pos) (dCall p fs) := PE.imp (pe_callTy hc hg hm hv ha hn hdb he hpl) fun _ _ _ h => tD_lst h
/-- the promise of a def by its meaning on data -/
def spD (K : Frag) (np : Nat) (p : List D → M D) : Sp := fun vs H Q E => ∃ o ds st, Reps K H o ds vs ∧ ds.length = np ∧ StOk K H o st ∧ wpR (p ds st) (VOk K H o Q) (XOk K E H o)
@[simp] def arity (np : Nat) (p : List D → M D) : List D → M D := fun ds => bif ds.length == np then p ds else M.stuck
theorem tD_call {np : Nat} {p : List D → M D} {fs : DenL} {σ : L2.St} {Q : VK} (h : tD K E (dCall (arity np p) fs) σ H Q) : tCall (spD K np p) [] E (tL K E fs) σ H Q := by
  obtain ⟨o, ρ, st, he, hs, h⟩ := h
  refine ⟨o, ρ, st, he, hs, ?_⟩
  refine (wpR.bind.mp h).mono (fun ds st1 h1 vs H1 o1 l s1 r => ?_) fun _ _ x => x
  have h2 : wpR ((bif ds.length == np then p ds else M.stuck) st1) (VOk K H o Q) (XOk K E H o) := h1
  cases q : ds.length == np with
  | false => rw [q] at h2; exact False.elim h2
  | true =>
    rw [q] at h2
    exact ⟨o1, ds, st1, by rw [List.append_nil]; exact r, eq_of_beq q, s1, wpR.mono h2 (fun _ _ x => x.mono l) fun _ _ x => x.mono l⟩
theorem pd_call {k np : Nat} {f : Addr} {fd : FuncData} {ps : List Str} {x : Str} {p : List D → M D} {e : Expr} {es : List Expr} {fs : DenL} {pn pos : Pos} (F : FnOk X.prog X.w X.K X.mg X.base (L2.CX X.prog X.w) k f fd ps (spD X.K np p)) (hr : Room k X.A) (hg : Gl X x) (hm : X.mg x = some (.ref f))
    (hk : PySem.W.keepIn X.K (.ref f) = true) (hb : Binds X.K fd ps []) (hx : Passes (L2.CX X.prog X.w) X E) (ha : PL X E (e :: es) fs) (hdb : (x == ("__debug__" : Str)) = false) (he : starEach (e :: es) X.env = (false, eval e X.env) :: starEach es X.env) (hpl : (backTo pos (starEach es X.env)).any (·.1) = false) :
    PD X E (.Call (.Name x pn) (e :: es) [] pos) (dCall (arity np p) fs) := PE.imp (pe_call F hr hg hm hk hb .nil hx ha hdb he hpl) fun _ _ _ h => tD_call h
theorem pd_call0 {k np : Nat} {f : Addr} {fd : FuncData} {ps : List Str} {x : Str} {p : List D → M D} {pn pos : Pos} (F : FnOk X.prog X.w X.K X.mg X.base (L2.CX X.prog X.w) k f fd ps (spD X.K np p)) (hr : Room k X.A) (hg : Gl X x) (hm : X.mg x = some (.ref f))
    (hk : PySem.W.keepIn X.K (.ref f) = true) (hb : Binds X.K fd ps []) (hx : Passes (L2.CX X.prog X.w) X E) (hdb : (x == ("__debug__" : Str)) = false) :
    PD X E (.Call (.Name x pn) [] [] pos) (dCall (arity np p) dNil) := PE.imp (pe_call0 F hr hg hm hk hb .nil hx hdb) fun σ H Q h => by
  obtain ⟨o, ρ, st, he, hs, h1⟩ := tD_call h
  exact h1 [] H o (Le.refl _ _) hs rfl
end
end MP

namespace MP
open PySem L2
open PySem.Spec PyProof.Rows
inductive Fl where
  | nx (ρ : Env) | rt (d : D) | bk (ρ : Env) | ct (ρ : Env)
abbrev DenS := Env → M Fl
section
variable {K : Frag} {E : XK} {H H' : Hp} {o o' : Lo} {st : Store} {X : Cx}
def EOk (K : Frag) (H : Hp) (o : Lo) (Q : L2.St → Hp → Prop) (ρ : Env) (st : Store) : Prop := ∀ σ' H' o', Le H o H' o' → StOk K H' o' st → EnvOk K H' o' ρ σ' → Q σ' H'
theorem EOk.mono {Q : L2.St → Hp → Prop} {ρ : Env} (x : EOk K H o Q ρ st) (l : Le H o H' o') : EOk K H' o' Q ρ st := fun σ H2 o2 l2 => x σ H2 o2 (l.trans l2)
def FOk (K : Frag) (H : Hp) (o : Lo) (D : Ends) : Fl → Store → Prop
  | .nx ρ, st => EOk K H o D.nx ρ st
  | .rt d, st => VOk K H o D.rt d st
  | .bk ρ, st => EOk K H o D.bk ρ st
  | .ct ρ, st => EOk K H o D.ct ρ st
theorem FOk.mono {D : Ends} {f : Fl} (x : FOk K H o D f st) (l : Le H o H' o') : FOk K H' o' D f st := by
  cases f with
  | nx ρ => exact EOk.mono x l
  | rt d => exact VOk.mono x l
  | bk ρ => exact EOk.mono x l
  | ct ρ => exact EOk.mono x l
def tS (K : Frag) (E : XK) (f : DenS) : TS := fun D σ H => ∃ o ρ st, EnvOk K H o ρ σ ∧ StOk K H o st ∧ wpR (f ρ st) (FOk K H o D) (XOk K E H o)
abbrev PDS (X : Cx) (E : XK) (s : Stmt) (f : DenS) : Prop := PS X s (tS X.K E f)
abbrev PDSs (X : Cx) (E : XK) (s : List Stmt) (f : DenS) : Prop := PSs X s (tS X.K E f)
theorem PS.imp {s : Stmt} {t t' : TS} (h : PS X s t) (m : ∀ D σ H, t' D σ H → t D σ H) : PS X s t' := ⟨fun pins s σ H D I q => h.run pins s σ H D I (m D σ H q)⟩
theorem PSs.imp {s : List Stmt} {t t' : TS} (h : PSs X s t) (m : ∀ D σ H, t' D σ H → t D σ H) : PSs X s t' := ⟨fun pins s σ H D I q => h.run pins s σ H D I (m D σ H q)⟩

@[simp] def dSkip : DenS := fun ρ => pure (.nx ρ)
def dSeq (f g : DenS) : DenS := fun ρ => f ρ >>= fun r => match r with
  | .nx ρ' => g ρ'
  | .rt d => pure (.rt d)
  | .bk ρ' => pure (.bk ρ')
  | .ct ρ' => pure (.ct ρ')
theorem ds_nil : PDSs X E [] dSkip := PSs.imp pss_nil fun D σ H h => by
  obtain ⟨o, ρ, st, he, hs, h⟩ := h
  exact h σ H o (Le.refl _ _) hs he
theorem tS_seq {f g : DenS} {D : Ends} {σ : L2.St} (h : tS K E (dSeq f g) D σ H) : tSeq (tS K E f) (tS K E g) D σ H := by
  obtain ⟨o, ρ, st, he, hs, h⟩ := h
  refine ⟨o, ρ, st, he, hs, ?_⟩
  refine (wpR.bind.mp h).mono (fun r st1 h1 => ?_) fun _ _ x => x
  cases r with
  | nx ρ' => exact fun σ' H1 o1 l s1 e1 => ⟨o1, ρ', st1, e1, s1, wpR.mono h1 (fun _ _ x => x.mono l) fun _ _ x => x.mono l⟩
  | rt d => exact h1
  | bk ρ' => exact h1
  | ct ρ' => exact h1
theorem ds_cons {s : Stmt} {ss : List Stmt} {f g : DenS} (h1 : PDS X E s f) (h2 : PDSs X E ss g) : PDSs X E (s :: ss) (dSeq f g) := PSs.imp (pss_cons h1 h2) fun _ _ _ h => tS_seq h
theorem ds_one {s : Stmt} {f : DenS} (h1 : PDS X E s f) : PDSs X E [s] f := pss_one h1
def dBreak : DenS := fun ρ => pure (.bk ρ)
def dCont : DenS := fun ρ => pure (.ct ρ)
theorem dp_pass {pos : Pos} : PDS X E (.Pass pos) dSkip := PS.imp ps_pass fun D σ H h => by
  obtain ⟨o, ρ, st, he, hs, h⟩ := h
  exact h σ H o (Le.refl _ _) hs he
theorem dp_break {pos : Pos} : PDS X E (.Break pos) dBreak := PS.imp ps_break fun D σ H h => by
  obtain ⟨o, ρ, st, he, hs, h⟩ := h
  exact h σ H o (Le.refl _ _) hs he
theorem dp_cont {pos : Pos} : PDS X E (.Continue pos) dCont := PS.imp ps_continue fun D σ H h => by
  obtain ⟨o, ρ, st, he, hs, h⟩ := h
  exact h σ H o (Le.refl _ _) hs he
theorem dp_doc {x : Str} {j : Nat} {pos pos' : Pos} : PDS X E (.Expr (.Constant (.str x) j pos) pos') dSkip := PS.imp ps_doc fun D σ H h => by
  obtain ⟨o, ρ, st, he, hs, h⟩ := h
  exact h σ H o (Le.refl _ _) hs he
def dRet (f : Den) : DenS := fun ρ => f ρ >>= fun d => pure (.rt d)
theorem dp_ret {e : Expr} {f : Den} {pos : Pos} (h : PD X E e f) : PDS X E (.Return (some e) pos) (dRet f) := PS.imp (ps_ret h) fun D σ H h => by
  obtain ⟨o, ρ, st, he, hs, h⟩ := h
  refine ⟨o, ρ, st, he, hs, ?_⟩
  exact (wpR.bind.mp h).mono (fun d st1 h1 => h1) fun _ _ x => x
def dRetN : DenS := fun _ => pure (.rt .non)
theorem dp_retN {pos : Pos} : PDS X E (.Return none pos) dRetN := PS.imp ps_retN fun D σ H h => by
  obtain ⟨o, ρ, st, he, hs, h⟩ := h
  exact h .non H o (Le.refl _ _) hs rfl
def dExpr (f : Den) : DenS := fun ρ => f ρ >>= fun _ => pure (.nx ρ)
theorem dp_expr {e : Expr} {f : Den} {pos : Pos} (h : PD X E e f) (hs : swapsWith e none pos.line X.env = pure false) : PDS X E (.Expr e pos) (dExpr f) := PS.imp (ps_expr h hs) fun D σ H h => by
  obtain ⟨o, ρ, st, he, hs, h⟩ := h
  refine ⟨o, ρ, st, he, hs, ?_⟩
  exact (wpR.bind.mp h).mono (fun d st1 h1 v H1 o1 l s1 r => h1 σ H1 o1 l s1 (he.mono l.rep)) fun _ _ x => x
def dIfS (c : DenB) (f g : DenS) : DenS := fun ρ => c ρ >>= fun b => cond b (f ρ) (g ρ)
theorem dp_if {c : Expr} {a b : List Stmt} {fc : DenB} {f g : DenS} {pos : Pos} (hc : PB X E c fc) (ha : PDSs X E a f) (hb : PDSs X E b g) : PDS X E (.If c a b pos) (dIfS fc f g) := PS.imp (ps_if hc ha hb) fun D σ H h => by
  obtain ⟨o, ρ, st, he, hs, h⟩ := h
  refine ⟨o, ρ, st, he, hs, ?_⟩
  refine (wpR.bind.mp h).mono (fun b st1 h1 H1 o1 l s1 => ?_) fun _ _ x => x
  cases b with
  | true => exact iteT ⟨o1, ρ, st1, he.mono l.rep, s1, wpR.mono h1 (fun _ _ x => x.mono l) fun _ _ x => x.mono l⟩
  | false => exact iteF ⟨o1, ρ, st1, he.mono l.rep, s1, wpR.mono h1 (fun _ _ x => x.mono l) fun _ _ x => x.mono l⟩

/-! ## targets -/
abbrev DenG := D → Env → M Env
def tG (K : Frag) (E : XK) (f : DenG) : TG := fun v σ H Q => ∃ o ρ st d, EnvOk K H o ρ σ ∧ StOk K H o st ∧ Rep K H o d v ∧ wpR (f d ρ st) (EOk K H o Q) (XOk K E H o)
abbrev DenGs := List D → Env → M Env
def tGs (K : Frag) (E : XK) (f : DenGs) : TGs := fun vs σ H Q => ∃ o ρ st ds, EnvOk K H o ρ σ ∧ StOk K H o st ∧ Reps K H o ds vs ∧ wpR (f ds ρ st) (EOk K H o Q) (XOk K E H o)
abbrev PDG (X : Cx) (E : XK) (e : Expr) (f : DenG) : Prop := PG X e (tG X.K E f)
abbrev PDGs (X : Cx) (E : XK) (e : List Expr) (f : DenGs) : Prop := PGs X e (tGs X.K E f)
theorem PG.imp {e : Expr} {t t' : TG} (h : PG X e t) (m : ∀ v σ H Q, t' v σ H Q → t v σ H Q) : PG X e t' := ⟨fun pins s σ H v u Q I r q => h.run pins s σ H v u Q I r (m v σ H Q q)⟩
theorem PGs.imp {e : List Expr} {t t' : TGs} (h : PGs X e t) (m : ∀ v σ H Q, t' v σ H Q → t v σ H Q) : PGs X e t' := ⟨fun pins s σ H v u Q I r q => h.run pins s σ H v u Q I r (m v σ H Q q)⟩
@[simp] def gSet (i : Nat) : DenG := fun d ρ => pure (ρ.set i (some d))
theorem dg_name {i : Nat} {x : Str} {pos : Pos} (hN : X.N.Nodup) (hi : X.N[i]? = some x) (hx : Loc X.env.scope x) (hf : X.fn x = true ∨ X.env.scope.names.lookup x = some .local) : PDG X E (.Name x pos) (gSet i) := PG.imp (pg_name hN hi hx hf) fun v σ H Q h => by
  obtain ⟨o, ρ, st, d, he, hs, r, h⟩ := h
  exact h _ H o (Le.refl _ _) hs (he.set i r)
def gsNil : DenGs := fun ds ρ => match ds with
  | [] => pure ρ
  | _ => M.stuck
def gsCons (f : DenG) (g : DenGs) : DenGs := fun ds ρ => match ds with
  | d :: ds => f d ρ >>= fun ρ' => g ds ρ'
  | [] => M.stuck
theorem dgs_nil : PDGs X E [] gsNil := PGs.imp pgs_nil fun v σ H Q h => by
  obtain ⟨o, ρ, st, ds, he, hs, r, h⟩ := h
  cases ds with
  | nil => exact ⟨r, h σ H o (Le.refl _ _) hs he⟩
  | cons _ _ => exact False.elim h
theorem dgs_cons {e : Expr} {es : List Expr} {f : DenG} {g : DenGs} (h1 : PDG X E e f) (h2 : PDGs X E es g) (hs : (assignEach (e :: es) X.env).map (·.2) = assign e X.env :: (assignEach es X.env).map (·.2)) : PDGs X E (e :: es) (gsCons f g) :=
  PGs.imp (pgs_cons h1 h2 hs) fun v σ H Q h => by
    obtain ⟨o, ρ, st, ds, he, hs, r, h⟩ := h
    cases ds with
    | nil => exact False.elim h
    | cons d ds =>
      obtain ⟨v, vs, rfl, r1, r2⟩ := r
      refine ⟨v, vs, rfl, o, ρ, st, d, he, hs, r1, ?_⟩
      refine (wpR.bind.mp h).mono (fun ρ' st1 h1 σ' H1 o1 l s1 e1 => ⟨o1, ρ', st1, ds, e1, s1, l.rep.reps r2, ?_⟩) fun _ _ x => x
      exact wpR.mono h1 (fun _ _ x => x.mono l) fun _ _ x => x.mono l
def gTupD (n : Nat) (g : DenGs) : DenG := fun d ρ => match d with
  | .tup ds => bif ds.length == n then g ds ρ else M.stuck
  | _ => M.stuck
theorem dg_tup {es : List Expr} {k n : Nat} {g : DenGs} {pos : Pos} (hc : X.calm = true) (h : PDGs X E es g) (hn : (assignEach es X.env).length = n) (hst : (assignEach es X.env).findIdx? (·.1) = none) : PDG X E (.Tuple es k pos) (gTupD n g) :=
  PG.imp (pg_tup hc h hn hst) fun v σ H Q h => by
    obtain ⟨o, ρ, st, d, he, hs, r, h⟩ := h
    cases d with
    | tup ds =>
      obtain ⟨a, xs, rfl, k1, q1⟩ := r
      have h' : wpR ((bif ds.length == n then g ds ρ else M.stuck) st) (EOk X.K H o Q) (XOk X.K E H o) := h
      cases q : ds.length == n with
      | false => rw [q] at h'; exact False.elim h'
      | true =>
        rw [q] at h'
        exact ⟨a, xs, rfl, tup_sq k1, by rw [q1.length]; exact eq_of_beq q, o, ρ, st, ds, he, hs, q1, h'⟩
    | _ => exact False.elim h
def dAsg (f : Den) (g : DenG) : DenS := fun ρ => f ρ >>= fun d => g d ρ >>= fun ρ' => pure (.nx ρ')
theorem tS_asg {f : Den} {g : DenG} {D : Ends} {σ : L2.St} (h : tS K E (dAsg f g) D σ H) : tAsg (tD K E f) (tG K E g) D σ H := by
  obtain ⟨o, ρ, st, he, hs, h⟩ := h
  refine ⟨o, ρ, st, he, hs, ?_⟩
  refine (wpR.bind.mp h).mono (fun d st1 h1 v H1 o1 l s1 r => ⟨o1, ρ, st1, d, he.mono l.rep, s1, r, ?_⟩) fun _ _ x => x
  refine (wpR.bind.mp h1).mono (fun ρ' st2 h2 => ?_) fun _ _ x => x.mono l
  exact EOk.mono h2 l
theorem dp_asg {tg e : Expr} {f : Den} {g : DenG} {pos : Pos} (he : PD X E e f) (hg : PDG X E tg g) (hs : swapsWithSole [tg] e pos.line X.env = pure false) (hw : swappedStores [tg] e X.env = pure none)
    (h1 : (assignEach [tg] X.env).map (·.2) = [assign tg X.env]) : PDS X E (.Assign [tg] e pos) (dAsg f g) := PS.imp (ps_asg he hg hs hw h1) fun _ _ _ h => tS_asg h
theorem dp_set {i : Nat} {x : Str} {e : Expr} {f : Den} {pos' pos : Pos} (hN : X.N.Nodup) (hi : X.N[i]? = some x) (hx : Loc X.env.scope x) (he : PD X E e f) (hs : swapsWith e (some (.Name x pos')) pos.line X.env = pure false) (hf : X.fn x = true ∨ X.env.scope.names.lookup x = some .local) :
    PDS X E (.Assign [.Name x pos'] e pos) (dAsg f (gSet i)) := PS.imp (ps_set hN hi hx he hs hf) fun D σ H h => by
  obtain ⟨o, ρ, st, he, hs, h⟩ := h
  refine ⟨o, ρ, st, he, hs, ?_⟩
  exact (wpR.bind.mp h).mono (fun d st1 h1 v H1 o1 l s1 r => (show EOk X.K H o D.nx (ρ.set i (some d)) st1 from h1) _ H1 o1 l s1 ((he.mono l.rep).set i r)) fun _ _ x => x

/-! ## what is walked -/
abbrev DenI := Env → M (List D)
def Gr (H H' : Hp) : Prop := H' = H ∨ ∃ p u, H p = none ∧ H' = upd H p u
theorem Gr.le (g : Gr H H') : Le H o H' o := by
  rcases g with rfl | ⟨p, u, h, rfl⟩
  · exact Le.refl _ _
  · exact Le.new h
theorem Gr.stOk (g : Gr H H') (s : StOk K H o st) : StOk K H' o st := by
  rcases g with rfl | ⟨p, u, h, rfl⟩
  · exact s
  · exact s.new h
def Walks (K : Frag) (H0 : Hp) (o0 : Lo) (J : It) (ds : List D) : Prop := ∀ H o st, LeW K H0 o0 H o → StOk K H o st →
  J.stop ds.length H ∧ ∀ (i : Nat) (d : D), ds[i]? = some d → J.go i H ∧ ∀ x H', J.yld i H x H' → Gr H H' ∧ Rep K H' o d x
def IOk (K : Frag) (H : Hp) (o : Lo) (R : It → Hp → Prop) (ds : List D) (st : Store) : Prop := ∀ J H' o', Le H o H' o' → StOk K H' o' st → Walks K H' o' J ds → R J H'
def tI (K : Frag) (E : XK) (f : DenI) : TI := fun σ H R => ∃ o ρ st, EnvOk K H o ρ σ ∧ StOk K H o st ∧ wpR (f ρ st) (IOk K H o R) (XOk K E H o)
abbrev PDI (X : Cx) (E : XK) (tg e : Expr) (f : DenI) : Prop := PI X tg e (tI X.K E f)
theorem PI.imp {tg e : Expr} {t t' : TI} (h : PI X tg e t) (m : ∀ σ H R, t' σ H R → t σ H R) : PI X tg e t' := ⟨fun pins s σ H R I q => h.run pins s σ H R I (m σ H R q)⟩
theorem PI.or {tg e : Expr} {t t' : TI} (h : PI X tg e t) (h' : PI X tg e t') : PI X tg e (fun σ H R => t σ H R ∨ t' σ H R) := ⟨fun pins s σ H R I q => q.elim (h.run pins s σ H R I) (h'.run pins s σ H R I)⟩
theorem walks_list {a : Addr} {xs : List V} {ds : List D} (h : H a = some (.lst xs)) (av : o.av a) (r : Reps K H o ds xs) : Walks K H o (Itl K a) ds := fun H1 o1 st1 l s1 => by
  obtain ⟨b, ys, e, h1, _, r1⟩ := l.rep (.lst ds) (.ref a) ⟨a, xs, rfl, h, av, r⟩
  cases e
  refine ⟨⟨ys, SqL.of h1, by rw [r1.length]; exact Nat.le_refl _⟩, fun i d hd => ?_⟩
  obtain ⟨v, hv, rv⟩ := r1.get hd
  refine ⟨⟨ys, v, SqL.of h1, hv⟩, fun x H2 y => ?_⟩
  obtain ⟨rfl, y⟩ := y
  have e2 := y ys (SqL.of h1)
  rw [hv] at e2; cases e2
  exact ⟨.inl rfl, rv⟩
theorem walks_tup {v : V} {ds : List D} (r : Rep K H o (.tup ds) v) : ∃ a xs, v = .ref a ∧ SqT K H a xs ∧ Walks K H o (Itt K a) ds := by
  obtain ⟨a, xs, rfl, k, q⟩ := id r
  refine ⟨a, xs, rfl, tup_sq k, fun H1 o1 st1 l s1 => ?_⟩
  obtain ⟨b, ys, e, h1, r1⟩ := l.rep (.tup ds) (.ref a) r
  cases e
  have sq := tup_sq h1
  refine ⟨⟨ys, sq, by rw [r1.length]; exact Nat.le_refl _⟩, fun i d hd => ?_⟩
  obtain ⟨v, hv, rv⟩ := r1.get hd
  refine ⟨⟨ys, v, sq, hv⟩, fun x H2 y => ?_⟩
  obtain ⟨rfl, y⟩ := y
  have e2 := y ys sq
  rw [hv] at e2; cases e2
  exact ⟨.inl rfl, rv⟩
/-- a value that is walked: a list, a tuple -/
def itemsOf : D → M (List D)
  | .lst ds => pure ds
  | .tup ds => pure ds
  | _ => M.stuck
theorem di_val {tg e : Expr} {f : Den} (h : PD X E e f) : PDI X E tg e (fun ρ => f ρ >>= itemsOf) := PI.imp (PI.or (pi_list h) (pi_tup h)) fun σ H R h => by
  obtain ⟨o, ρ, st, he, hs, h⟩ := h
  have h := wpR.bind.mp h
  cases q : f ρ st with
  | stuck => rw [q] at h; exact False.elim h
  | exn e st1 => rw [q] at h; exact .inl ⟨o, ρ, st, he, hs, by rw [q]; exact h⟩
  | ok d st1 =>
    rw [q] at h
    cases d with
    | lst ds =>
      refine .inl ⟨o, ρ, st, he, hs, ?_⟩
      rw [q]
      intro v H1 o1 l s1 r
      obtain ⟨a, xs, rfl, k, av, r1⟩ := r
      exact ⟨a, rfl, ⟨xs, SqL.of k⟩, (show IOk X.K H o R ds st1 from h) _ H1 o1 l s1 (walks_list k av r1)⟩
    | tup ds =>
      refine .inr ⟨o, ρ, st, he, hs, ?_⟩
      rw [q]
      intro v H1 o1 l s1 r
      obtain ⟨a, xs, rfl, k, w⟩ := walks_tup r
      exact ⟨a, rfl, ⟨xs, k⟩, (show IOk X.K H o R ds st1 from h) _ H1 o1 l s1 w⟩
    | _ => exact False.elim h
def rangeL (i j : Int) : List D := (List.range (j - i).toNat).map fun (k : Nat) => D.int (i + (k : Int))
theorem walks_range {lo : Int} {n : Nat} : Walks K H o (Itr lo n) ((List.range n).map fun (k : Nat) => D.int (lo + (k : Int))) := fun H1 o1 st1 l s1 => by
  refine ⟨by show n ≤ _; simp, fun i d hd => ?_⟩
  rw [List.getElem?_map] at hd
  obtain ⟨k, hk, rfl⟩ := Option.map_eq_some_iff.mp hd
  obtain ⟨hi, e⟩ := List.getElem?_eq_some_iff.mp hk
  simp at hi e
  subst e
  refine ⟨hi, fun x H2 y => ?_⟩
  obtain ⟨rfl, rfl⟩ := y
  exact ⟨.inl rfl, rfl⟩
def rng1 : List D → M (List D)
  | [.int j] => bif decide (-(2 ^ 62) ≤ j ∧ j < 2 ^ 62) then pure (rangeL 0 j) else M.stuck
  | _ => M.stuck
def rng2 : List D → M (List D)
  | [.int i, .int j] => bif decide (-(2 ^ 62) ≤ i ∧ i < 2 ^ 62 ∧ -(2 ^ 62) ≤ j ∧ j < 2 ^ 62) then pure (rangeL i j) else M.stuck
  | _ => M.stuck
theorem di_range1 {tg a : Expr} {fs : DenL} {p pos : Pos} (hg : Gl X "range") (hm : X.mg "range" = none) (ha : PL X E [a] fs) (hs : starEach [a] X.env = [(false, eval a X.env)]) : PDI X E tg (.Call (.Name "range" p) [a] [] pos) (fun ρ => fs ρ >>= rng1) :=
  PI.imp (pi_range1 hg hm ha hs) fun σ H R h => by
    obtain ⟨o, ρ, st, he, hs, h⟩ := h
    refine ⟨o, ρ, st, he, hs, ?_⟩
    refine (wpR.bind.mp h).mono (fun ds st1 h1 vs H1 o1 l s1 r => ?_) fun _ _ x => x
    cases ds with
    | nil => exact False.elim h1
    | cons d ds =>
      cases ds with
      | cons _ _ => cases d <;> exact False.elim h1
      | nil =>
        cases d with
        | int j =>
          obtain ⟨v, rfl, rv⟩ := r.one_of
          have h2 : wpR ((bif decide (-(2 ^ 62) ≤ j ∧ j < 2 ^ 62) then (pure (rangeL 0 j) : M (List D)) else M.stuck) st1) (IOk X.K H o R) (XOk X.K E H o) := h1
          cases q : decide (-(2 ^ 62) ≤ j ∧ j < 2 ^ 62) with
          | false => rw [q] at h2; exact False.elim h2
          | true =>
            rw [q] at h2
            obtain ⟨q1, q2⟩ := of_decide_eq_true q
            cases (show v = .int j from rv)
            refine ⟨j, rfl, q1, q2, (show IOk X.K H o R (rangeL 0 j) st1 from h2) _ H1 o1 l s1 ?_⟩
            have w := walks_range (K := X.K) (H := H1) (o := o1) (lo := 0) (n := j.toNat)
            unfold rangeL
            rw [Int.sub_zero]
            exact w
        | _ => exact False.elim h1
theorem di_range2 {tg a b : Expr} {fs : DenL} {p pos : Pos} (hg : Gl X "range") (hm : X.mg "range" = none) (ha : PL X E [a, b] fs) (hs : starEach [a, b] X.env = [(false, eval a X.env), (false, eval b X.env)]) (hs2 : starEach [b] X.env = [(false, eval b X.env)]) : PDI X E tg (.Call (.Name "range" p) [a, b] [] pos) (fun ρ => fs ρ >>= rng2) :=
  PI.imp (pi_range2 hg hm ha hs hs2) fun σ H R h => by
    obtain ⟨o, ρ, st, he, hs, h⟩ := h
    refine ⟨o, ρ, st, he, hs, ?_⟩
    refine (wpR.bind.mp h).mono (fun ds st1 h1 vs H1 o1 l s1 r => ?_) fun _ _ x => x
    match ds, r, h1 with
    | [], _, h1 => exact False.elim h1
    | [d], _, h1 => cases d <;> exact False.elim h1
    | d :: e :: _ :: _, _, h1 => cases d <;> cases e <;> exact False.elim h1
    | [d, e], r, h1 =>
      obtain ⟨v, w, ev, rv, rw'⟩ := r.two_of
      cases d <;> cases e <;> first | exact False.elim h1 | skip
      rename_i i j
      have h2 : wpR ((bif decide (-(2 ^ 62) ≤ i ∧ i < 2 ^ 62 ∧ -(2 ^ 62) ≤ j ∧ j < 2 ^ 62) then (pure (rangeL i j) : M (List D)) else M.stuck) st1) (IOk X.K H o R) (XOk X.K E H o) := h1
      cases q : decide (-(2 ^ 62) ≤ i ∧ i < 2 ^ 62 ∧ -(2 ^ 62) ≤ j ∧ j < 2 ^ 62) with
      | false => rw [q] at h2; exact False.elim h2
      | true =>
        rw [q] at h2
        have e1 : v = .int i := rv
        have e2 : w = .int j := rw'
        subst e1 e2
        exact ⟨i, j, ev, of_decide_eq_true q, (show IOk X.K H o R (rangeL i j) st1 from h2) _ H1 o1 l s1 walks_range⟩

/-! ## for, while -/
def forL (b : D → DenS) : List D → DenS
  | [], ρ => pure (.nx ρ)
  | d :: ds, ρ => b d ρ >>= fun r => match r with
    | .nx ρ' => forL b ds ρ'
    | .ct ρ' => forL b ds ρ'
    | .bk ρ' => pure (.nx ρ')
    | .rt d => pure (.rt d)
def dFor (it : DenI) (g : DenG) (body : DenS) : DenS := fun ρ => it ρ >>= fun ds => forL (fun d ρ => g d ρ >>= body) ds ρ
theorem tS_for {it : DenI} {g : DenG} {body : DenS} {D : Ends} {σ : L2.St} (h : tS K E (dFor it g body) D σ H) : tFor (tI K E it) (tG K E g) (tS K E body) D σ H := by
  obtain ⟨o, ρ, st, he, hs, h⟩ := h
  refine ⟨o, ρ, st, he, hs, ?_⟩
  refine (wpR.bind.mp h).mono (fun ds st1 h1 J H1 o1 l1 s1 w => ?_) fun _ _ x => x
  refine ⟨fun i m σ' H' => m = ds.length - i ∧ i ≤ ds.length ∧ ∃ o' ρ' st', Le H o H' o' ∧ LeW K H1 o1 H' o' ∧ StOk K H' o' st' ∧ EnvOk K H' o' ρ' σ' ∧ wpR (forL (fun d ρ => g d ρ >>= body) (ds.drop i) ρ' st') (FOk K H o D) (XOk K E H o),
    ⟨_, rfl, Nat.zero_le _, o1, ρ, st1, l1, LeW.refl, s1, he.mono l1.rep, h1⟩, ?_⟩
  rintro i m σ' H' ⟨rfl, hi, o', ρ', st', l, lr, s', e', hw⟩
  obtain ⟨w1, w2⟩ := w H' o' st' lr s'
  by_cases hlt : i < ds.length
  · rw [List.drop_eq_getElem_cons hlt] at hw
    obtain ⟨go, yl⟩ := w2 i _ (List.getElem?_eq_getElem hlt)
    refine .inr ⟨go, fun σ2 H2 => ∃ m', m' < ds.length - i ∧ (m' = ds.length - (i + 1) ∧ i + 1 ≤ ds.length ∧ ∃ o' ρ' st', Le H o H2 o' ∧ LeW K H1 o1 H2 o' ∧ StOk K H2 o' st' ∧ EnvOk K H2 o' ρ' σ2 ∧ wpR (forL (fun d ρ => g d ρ >>= body) (ds.drop (i + 1)) ρ' st') (FOk K H o D) (XOk K E H o)), fun _ _ x => x, fun x H2 y => ?_⟩
    obtain ⟨gr, rx⟩ := yl x H2 y
    have l2 : Le H' o' H2 o'   := Gr.le gr
    refine ⟨o', ρ', st', ds[i], e'.mono l2.rep, Gr.stOk gr s', rx, ?_⟩
    have hw2 := wpR.bind.mp (wpR.bind.mp hw)
    have ll := l.trans l2
    refine wpR.mono hw2 (fun ρ2 st2 h2 σ3 H3 o3 l3 s3 e3 => ⟨o3, ρ2, st2, e3, s3, ?_⟩) fun _ _ x => x.mono ll
    have lll := ll.trans l3
    refine wpR.mono h2 (fun r st4 h4 => ?_) fun _ _ x => x.mono lll
    cases r with
    | nx ρ4 => exact fun σ5 H5 o5 l5 s5 e5 => ⟨_, by omega, rfl, by omega, o5, ρ4, st4, lll.trans l5, (lr.trans l2.w).trans ((l3.trans l5).w), s5, e5, h4⟩
    | ct ρ4 => exact fun σ5 H5 o5 l5 s5 e5 => ⟨_, by omega, rfl, by omega, o5, ρ4, st4, lll.trans l5, (lr.trans l2.w).trans ((l3.trans l5).w), s5, e5, h4⟩
    | bk ρ4 => exact fun σ5 H5 o5 l5 s5 e5 => (show EOk K H o D.nx ρ4 st4 from h4) σ5 H5 o5 (lll.trans l5) s5 e5
    | rt d => exact fun v H5 o5 l5 s5 r5 => (show VOk K H o D.rt d st4 from h4) v H5 o5 (lll.trans l5) s5 r5
  · have e : i = ds.length := by omega
    subst e
    rw [List.drop_length] at hw
    exact .inl ⟨w1, (show EOk K H o D.nx ρ' st' from hw) σ' H' o' l s' e'⟩
theorem dp_for {tg iter : Expr} {body : List Stmt} {it : DenI} {g : DenG} {f : DenS} {pos : Pos} (hp : PassesOwn (model X.prog X.w) X.A X.env X.xe) (hc : X.calm = true) (hi : PDI X E tg iter it) (hg : PDG X E tg g) (hb : PDSs X E body f)
    (hs : ∀ x, foldedSetIterable iter X.env x = pure x) : PDS X E (.For tg iter body [] pos) (dFor it g f) := PS.imp (ps_for hp hc hi hg hb hs) fun _ _ _ h => tS_for h
def whileL (c : DenB) (b : DenS) : Nat → DenS
  | 0, _ => M.stuck
  | n + 1, ρ => c ρ >>= fun t => cond t (b ρ >>= fun r => match r with
    | .nx ρ' => whileL c b n ρ'
    | .ct ρ' => whileL c b n ρ'
    | .bk ρ' => pure (.nx ρ')
    | .rt d => pure (.rt d)) (pure (.nx ρ))
theorem tS_while {c : DenB} {b : DenS} {n : Nat} {D : Ends} {σ : L2.St} (h : tS K E (whileL c b n) D σ H) : tWhile (tT K E c) (tS K E b) D σ H := by
  refine ⟨fun m σ' H' => tS K E (whileL c b m) D σ' H', ⟨n, h⟩, fun m σ' H' hw => ?_⟩
  obtain ⟨o, ρ, st, he, hs, h⟩ := hw
  cases m with
  | zero => exact False.elim h
  | succ m =>
    refine ⟨o, ρ, st, he, hs, ?_⟩
    refine (wpR.bind.mp h).mono (fun t st1 h1 H1 o1 l s1 => ?_) fun _ _ x => x
    cases t with
    | false => exact iteF ((show EOk K H' o D.nx ρ st1 from h1) σ' H1 o1 l s1 (he.mono l.rep))
    | true =>
      refine iteT ⟨fun σ2 H2 => ∃ m', m' < m + 1 ∧ tS K E (whileL c b m') D σ2 H2, fun _ _ x => x, o1, ρ, st1, he.mono l.rep, s1, ?_⟩
      refine (wpR.bind.mp h1).mono (fun r st2 h2 => ?_) fun _ _ x => x.mono l
      cases r with
      | nx ρ2 => exact fun σ3 H3 o3 l3 s3 e3 => ⟨m, Nat.lt_succ_self _, o3, ρ2, st2, e3, s3, wpR.mono h2 (fun _ _ x => x.mono (l.trans l3)) fun _ _ x => x.mono (l.trans l3)⟩
      | ct ρ2 => exact fun σ3 H3 o3 l3 s3 e3 => ⟨m, Nat.lt_succ_self _, o3, ρ2, st2, e3, s3, wpR.mono h2 (fun _ _ x => x.mono (l.trans l3)) fun _ _ x => x.mono (l.trans l3)⟩
      | bk ρ2 => exact EOk.mono h2 l
      | rt d => exact VOk.mono h2 l
theorem dp_while {c : Expr} {body : List Stmt} {fc : DenB} {f : DenS} {pos : Pos} (n : Nat) (hp : PassesOwn (model X.prog X.w) X.A X.env X.xe) (hc : PB X E c fc) (hb : PDSs X E body f) : PDS X E (.While c body [] pos) (whileL fc f n) :=
  PS.imp (ps_while hp hc hb) fun _ _ _ h => tS_while h
end
end MP

namespace MP
open PySem L2
open PySem.Spec PyProof.Rows

/-! ## targets that are names, or tuples of such -/
inductive Tg where
  | nm (i : Nat) | tup (ts : List Tg)
mutual
def Tg.g (K : Frag) : Tg → TG
  | .nm i => gName i
  | .tup ts => gTup K ts.length (Tgs.g K ts)
def Tgs.g (K : Frag) : List Tg → TGs
  | [] => gNil
  | t :: ts => gCons (t.g K) (Tgs.g K ts)
end
mutual
def Tg.bind : Tg → D → Env → Option Env
  | .nm i, d, ρ => some (ρ.set i (some d))
  | .tup ts, .tup ds, ρ => bif ds.length == ts.length then Tgs.bind ts ds ρ else none
  | .tup _, _, _ => none
def Tgs.bind : List Tg → List D → Env → Option Env
  | [], [], ρ => some ρ
  | t :: ts, d :: ds, ρ => (t.bind d ρ).bind fun ρ' => Tgs.bind ts ds ρ'
  | _, _, _ => none
end
mutual
def Tg.slots : Tg → List Nat
  | .nm i => [i]
  | .tup ts => Tgs.slots ts
def Tgs.slots : List Tg → List Nat
  | [] => []
  | t :: ts => t.slots ++ Tgs.slots ts
end
theorem wipe_get (σ : L2.St) : ∀ (vs : List Nat) (j : Nat), (wipe σ vs)[j]? = if j ∈ vs then (σ[j]?).map (fun _ => none) else σ[j]?
  | [], j => by simp [wipe]
  | v :: vs, j => by
    unfold wipe
    by_cases h : v = j
    · subst h
      by_cases hl : v < σ.length
      · rw [List.getElem?_set_self (by rw [wipe_length]; exact hl)]
        simp [List.getElem?_eq_getElem hl]
      · rw [List.getElem?_eq_none (by rw [List.length_set, wipe_length]; omega), List.getElem?_eq_none (by omega)]
        simp
    · rw [List.getElem?_set_ne h, wipe_get σ vs j]
      have : j ≠ v := Ne.symm h
      simp [this]
theorem wipe_ext {σ σ' : L2.St} {vs : List Nat} (hl : σ'.length = σ.length) (h : ∀ j, j ∉ vs → σ'[j]? = σ[j]?) : wipe σ' vs = wipe σ vs := by
  apply List.ext_getElem?
  intro j
  rw [wipe_get, wipe_get]
  by_cases hj : j ∈ vs
  · rw [if_pos hj, if_pos hj]
    by_cases hb : j < σ.length
    · rw [List.getElem?_eq_getElem hb, List.getElem?_eq_getElem (by rw [hl]; exact hb)]; rfl
    · rw [List.getElem?_eq_none (by omega), List.getElem?_eq_none (by omega)]
  · rw [if_neg hj, if_neg hj, h j hj]
theorem wipe_wipe (σ : L2.St) (vs : List Nat) : wipe (wipe σ vs) vs = wipe σ vs :=
  wipe_ext (wipe_length σ vs) fun j hj => by rw [wipe_get, if_neg hj]
section
variable {K : Frag} {E : XK} {H H' : Hp} {o o' : Lo} {st : Store} {X : Cx}
def Keeps (vs : List Nat) (σ σ' : L2.St) : Prop := σ'.length = σ.length ∧ ∀ j, j ∉ vs → σ'[j]? = σ[j]?
mutual
theorem Tg.ok : ∀ (t : Tg) {d : D} {v : V} {ρ ρ' : Env} {σ : L2.St} {Q : L2.St → Hp → Prop}, Rep K H o d v → t.bind d ρ = some ρ' → EnvOk K H o ρ σ → (∀ σ', EnvOk K H o ρ' σ' → Keeps t.slots σ σ' → Q σ' H) → t.g K v σ H Q
  | .nm i, d, v, ρ, ρ', σ, Q, r, e, he, h => by
    have e' : some (ρ.set i (some d)) = some ρ' := by simpa [Tg.bind] using e
    cases e'
    have q := h (σ.set i (some v)) (he.set i r) ⟨by simp, fun j hj => List.getElem?_set_ne (by simpa [Tg.slots, eq_comm] using hj)⟩
    simpa [Tg.g, gName] using q
  | .tup ts, d, v, ρ, ρ', σ, Q, r, e, he, h => by
    cases d with
    | tup ds =>
      obtain ⟨a, xs, rfl, k, q⟩ := r
      have e' : (bif ds.length == ts.length then Tgs.bind ts ds ρ else none) = some ρ' := by simpa [Tg.bind] using e
      cases hl : ds.length == ts.length with
      | false => rw [hl] at e'; cases e'
      | true =>
        rw [hl] at e'
        have z : Tgs.g K ts xs σ H Q := Tgs.ok ts q e' he (by simpa [Tg.slots] using h)
        have : gTup K ts.length (Tgs.g K ts) (.ref a) σ H Q := ⟨a, xs, rfl, tup_sq k, by rw [q.length]; exact eq_of_beq hl, z⟩
        simpa [Tg.g] using this
    | _ => simp [Tg.bind] at e
theorem Tgs.ok : ∀ (ts : List Tg) {ds : List D} {vs : List V} {ρ ρ' : Env} {σ : L2.St} {Q : L2.St → Hp → Prop}, Reps K H o ds vs → Tgs.bind ts ds ρ = some ρ' → EnvOk K H o ρ σ → (∀ σ', EnvOk K H o ρ' σ' → Keeps (Tgs.slots ts) σ σ' → Q σ' H) → Tgs.g K ts vs σ H Q
  | [], ds, vs, ρ, ρ', σ, Q, r, e, he, h => by
    cases ds with
    | nil =>
      cases (show vs = [] from r)
      have e' : some ρ = some ρ' := by simpa [Tgs.bind] using e
      cases e'
      have z : gNil [] σ H Q := ⟨rfl, h σ he ⟨rfl, fun _ _ => rfl⟩⟩
      simpa [Tgs.g] using z
    | cons _ _ => simp [Tgs.bind] at e
  | t :: ts, ds, vs, ρ, ρ', σ, Q, r, e, he, h => by
    cases ds with
    | nil => simp [Tgs.bind] at e
    | cons d ds =>
      obtain ⟨v, vs', rfl, r1, r2⟩ := r
      have e' : (t.bind d ρ).bind (fun ρ' => Tgs.bind ts ds ρ') = some ρ' := by simpa [Tgs.bind] using e
      obtain ⟨ρ1, e1, e2⟩ := Option.bind_eq_some_iff.mp e'
      have z : gCons (t.g K) (Tgs.g K ts) (v :: vs') σ H Q := ⟨v, vs', rfl, Tg.ok t r1 e1 he fun σ1 he1 k1 => Tgs.ok ts r2 e2 he1 fun σ2 he2 k2 => h σ2 he2
        ⟨k2.1.trans k1.1, fun j hj => by
          have hj' : j ∉ t.slots ∧ j ∉ Tgs.slots ts := by simpa [Tgs.slots] using hj
          rw [k2.2 j hj'.2, k1.2 j hj'.1]⟩⟩
      simpa [Tgs.g] using z
end
/-- as a target of a for or an assignment -/
def optE : Option Env → M Env
  | some ρ => pure ρ
  | none => M.stuck
def gOf (t : Tg) : DenG := fun d ρ => optE (t.bind d ρ)
theorem dg_of {e : Expr} {t : Tg} (h : PG X e (t.g X.K)) : PDG X E e (gOf t) := PG.imp h fun v σ H Q h => by
  obtain ⟨o, ρ, st, d, he, hs, r, h⟩ := h
  have h' : wpR (optE (t.bind d ρ) st) (EOk X.K H o Q) (XOk X.K E H o) := h
  cases q : t.bind d ρ with
  | none => rw [q] at h'; exact False.elim h'
  | some ρ' =>
    rw [q] at h'
    exact t.ok r q he fun σ' he' _ => h' σ' H o (Le.refl _ _) hs he'
theorem tg_name {i : Nat} {x : Str} {pos : Pos} (hN : X.N.Nodup) (hi : X.N[i]? = some x) (hx : Loc X.env.scope x) (hf : X.fn x = true ∨ X.env.scope.names.lookup x = some .local) : PG X (.Name x pos) ((Tg.nm i).g X.K) := by
  have := pg_name (pos := pos) hN hi hx hf
  simpa [Tg.g] using this
theorem tg_tup {es : List Expr} {ts : List Tg} {k : Nat} {pos : Pos} (hc : X.calm = true) (h : PGs X es (Tgs.g X.K ts)) (hn : (assignEach es X.env).length = ts.length) (hst : (assignEach es X.env).findIdx? (·.1) = none) : PG X (.Tuple es k pos) ((Tg.tup ts).g X.K) := by
  have := pg_tup (k := k) (pos := pos) hc h hn hst
  simpa [Tg.g] using this
theorem tgs_nil : PGs X [] (Tgs.g X.K []) := by simpa [Tgs.g] using (pgs_nil (X := X))
theorem tgs_cons {e : Expr} {es : List Expr} {t : Tg} {ts : List Tg} (h1 : PG X e (t.g X.K)) (h2 : PGs X es (Tgs.g X.K ts)) (hs : (assignEach (e :: es) X.env).map (·.2) = assign e X.env :: (assignEach es X.env).map (·.2)) : PGs X (e :: es) (Tgs.g X.K (t :: ts)) := by
  have := pgs_cons h1 h2 hs
  simpa [Tgs.g] using this

/-! ## comprehensions -/
def wipeE (ρ : Env) : List Nat → Env
  | [] => ρ
  | v :: vs => (wipeE ρ vs).set v none
theorem EnvOk.wipe {ρ : Env} {σ : L2.St} (e : EnvOk K H o ρ σ) : ∀ vs : List Nat, EnvOk K H o (wipeE ρ vs) (L2.wipe σ vs)
  | [] => e
  | v :: vs => (EnvOk.wipe e vs).clear v
def noX {α : Type} (m : M α) : M α := fun st => match m st with
  | .ok a st' => .ok a st'
  | .exn _ _ => .stuck
  | .stuck => .stuck
theorem noX_wp {α : Type} {m : M α} {Q : α → Store → Prop} {Z Z' : Exn → Store → Prop} (h : wpR (noX m st) Q Z) : wpR (m st) Q Z' := by
  have h' : wpR (match m st with | .ok a st' => R.ok a st' | .exn _ _ => .stuck | .stuck => .stuck) Q Z := h
  cases q : m st with
  | ok a st' => rw [q] at h'; exact h'
  | exn e st' => rw [q] at h'; exact False.elim h'
  | stuck => rw [q] at h'; exact False.elim h'
def optB {α : Type} (x : Option Env) (f : Env → M α) : M α := match x with
  | some ρ => f ρ
  | none => M.stuck
def lcL (t : Tg) (c : DenB) (f : Den) (ρ0 : Env) : List D → M (List D)
  | [] => pure []
  | d :: ds => optB (t.bind d ρ0) fun ρ1 => noX (c ρ1) >>= fun b => cond b (noX (f ρ1) >>= fun y => lcL t c f ρ0 ds >>= fun ys => pure (y :: ys)) (lcL t c f ρ0 ds)
def guardL {α : Type} (c : Bool) (m : M α) : M α := bif c then m else M.stuck
theorem guardL_wp {α : Type} {c : Bool} {m : M α} {Q : α → Store → Prop} {Z : Exn → Store → Prop} (h : wpR (guardL c m st) Q Z) : c = true ∧ wpR (m st) Q Z := by
  cases c with
  | true => exact ⟨rfl, h⟩
  | false => exact False.elim h
@[simp] def dLc (it : DenI) (vs : List Nat) (t : Tg) (c : DenB) (f : Den) : Den := fun ρ => it ρ >>= fun ds => guardL (decide (ds.length ≤ big)) (lcL t c f (wipeE ρ vs) ds >>= fun ys => pure (.lst ys))
abbrev EX0 : XK := fun _ _ _ => False
theorem Lc.rewriteNew {p : Addr} {u : HO} {H1 : Hp} {o1 : Lo} (l : Lc H o H1 o1) (h : H p = none) : Lc H o (upd H1 p u) o1 :=
  ⟨fun a w e n nt => by
    obtain ⟨h1, n1⟩ := l.keep a w e n
    exact ⟨by rw [upd_ne (ne_of_none e h)]; exact h1, n1⟩, l.loc, l.x⟩
theorem tD_lc {it : DenI} {vs : List Nat} {t : Tg} {c : DenB} {f : Den} {σ : L2.St} {Q : VK} (hsub : ∀ i ∈ t.slots, i ∈ vs) (h : tD K E (dLc it vs t c f) σ H Q) :
    tLc (tI K E it) (t.g K) (tT K EX0 c) (tD K EX0 f) vs σ H Q := by
  obtain ⟨o, ρ, st, he, hs, h⟩ := h
  refine ⟨o, ρ, st, he, hs, ?_⟩
  refine (wpR.bind.mp h).mono (fun ds st1 h1 J H1 o1 l1 s1 w Dd hD => ?_) fun _ _ x => x
  obtain ⟨hlen, h1⟩ := guardL_wp h1
  have hlen := of_decide_eq_true hlen
  have h1 := wpR.bind.mp h1
  refine ⟨fun i m Hi => m = ds.length - i ∧ i ≤ ds.length ∧ ∃ oi sti accd acc, Lc H1 o1 Hi oi ∧ oi.z = Dd :: o1.z ∧ LeW K (upd H1 Dd (.lst [])) (o1.hold Dd) Hi oi ∧ StOk K Hi oi sti ∧ Hi Dd = some (.lst acc) ∧ some Dd ∉ oi.l ∧ Reps K Hi oi accd acc ∧ accd.length ≤ i ∧
      wpR (lcL t c f (wipeE ρ vs) (ds.drop i) sti) (fun ys st' => VOk K H o Q (.lst (accd ++ ys)) st') (XOk K E H o),
    ⟨_, rfl, Nat.zero_le _, o1.hold Dd, st1, [], [], Lc.hold hD, rfl, LeW.refl, s1.hold hD, upd_same, (s1.avOf hD).1, rfl, Nat.le_refl _, h1⟩, ?_⟩
  rintro i m Hi ⟨rfl, hi, oi, sti, accd, acc, lc, ez, lr, si, eD, nD, ra, la, hw⟩
  have lr0 : LeW K H1 o1 Hi oi := (LeW.hold hD).trans lr
  obtain ⟨w1, w2⟩ := w Hi oi sti lr0 si
  by_cases hlt : i < ds.length
  · rw [List.drop_eq_getElem_cons hlt] at hw
    obtain ⟨go, yl⟩ := w2 i _ (List.getElem?_eq_getElem hlt)
    refine .inr ⟨go, fun H2 => ∃ m', m' < ds.length - i ∧ (m' = ds.length - (i + 1) ∧ i + 1 ≤ ds.length ∧ ∃ oi sti accd acc, Lc H1 o1 H2 oi ∧ oi.z = Dd :: o1.z ∧ LeW K (upd H1 Dd (.lst [])) (o1.hold Dd) H2 oi ∧ StOk K H2 oi sti ∧ H2 Dd = some (.lst acc) ∧ some Dd ∉ oi.l ∧ Reps K H2 oi accd acc ∧ accd.length ≤ i + 1 ∧
      wpR (lcL t c f (wipeE ρ vs) (ds.drop (i + 1)) sti) (fun ys st' => VOk K H o Q (.lst (accd ++ ys)) st') (XOk K E H o)), fun _ x => x, fun x H2 y => ?_⟩
    obtain ⟨gr, rx⟩ := yl x H2 y
    have l2 : Le Hi oi H2 oi := Gr.le gr
    have s2 := Gr.stOk gr si
    have hw' : wpR (optB (t.bind ds[i] (wipeE ρ vs)) (fun ρ1 => noX (c ρ1) >>= fun b => cond b (noX (f ρ1) >>= fun y => lcL t c f (wipeE ρ vs) (ds.drop (i + 1)) >>= fun ys => pure (y :: ys)) (lcL t c f (wipeE ρ vs) (ds.drop (i + 1)))) sti) (fun ys st' => VOk K H o Q (.lst (accd ++ ys)) st') (XOk K E H o) := hw
    cases hb : t.bind ds[i] (wipeE ρ vs) with
    | none => rw [hb] at hw'; exact False.elim hw'
    | some ρ1 =>
      rw [hb] at hw'
      have env0 : EnvOk K H2 oi (wipeE ρ vs) (wipe σ vs) := ((he.mono (l1.rep.trans lr0.rep)).mono l2.rep).wipe vs
      refine t.ok rx hb env0 fun σ2 he2 kp => ?_
      refine ⟨(wipe_ext (kp.1.trans rfl) fun j hj => kp.2 j fun q => hj (hsub j q)).trans (wipe_wipe σ vs), ?_⟩
      have hw2 : wpR ((noX (c ρ1) >>= fun b => cond b (noX (f ρ1) >>= fun y => lcL t c f (wipeE ρ vs) (ds.drop (i + 1)) >>= fun ys => pure (y :: ys)) (lcL t c f (wipeE ρ vs) (ds.drop (i + 1)))) sti) (fun ys st' => VOk K H o Q (.lst (accd ++ ys)) st') (XOk K E H o) := hw'
      refine ⟨oi, ρ1, sti, he2, s2, ?_⟩
      refine wpR.mono (noX_wp (wpR.bind.mp hw2)) (fun b st3 h3 H3 o3 l3 s3 => ?_) fun _ _ x => x
      have lc3 : Lc H1 o1 H3 o3 := (lc.trans l2.toLc).trans l3.toLc
      have lr3 : LeW K Hi oi H3 o3 := l2.w.trans l3.w
      have ez3 : o3.z = Dd :: o1.z := l3.z.trans ez
      obtain ⟨eD2, nD2⟩ := l2.keep Dd _ eD nD
      obtain ⟨eD3, nD3⟩ := l3.keep Dd _ eD2 nD2
      cases b with
      | false =>
        exact iteF ⟨_, by omega, rfl, by omega, o3, st3, accd, acc, lc3, ez3, lr.trans lr3, s3, eD3, nD3, lr3.rep.reps ra, Nat.le_succ_of_le la, h3⟩
      | true =>
        refine iteT ⟨o3, ρ1, st3, he2.mono l3.rep, s3, ?_⟩
        have h3' : wpR ((noX (f ρ1) >>= fun y => lcL t c f (wipeE ρ vs) (ds.drop (i + 1)) >>= fun ys => pure (y :: ys)) st3) (fun ys st' => VOk K H o Q (.lst (accd ++ ys)) st') (XOk K E H o) := h3
        refine wpR.mono (noX_wp (wpR.bind.mp h3')) (fun y' st4 h4 v4 H4 o4 l4 s4 r4 => ?_) fun _ _ x => x
        obtain ⟨eD4, nD4⟩ := l4.keep Dd _ eD3 nD3
        have ez4 : o4.z = Dd :: o1.z := l4.z.trans ez3
        have hin : Dd ∈ o4.z := by rw [ez4]; exact List.mem_cons_self
        have al : acc.length = accd.length := ra.length
        refine ⟨acc, eD4, by have := big_lt; omega, _, by omega, rfl, by omega, o4, st4, accd ++ [y'], acc ++ [v4], (lc3.trans l4.toLc).rewriteNew hD, ez4, (((lr.trans lr3).trans l4.w)).trans (LeW.rewrite hin), s4.rewrite hin, upd_same, nD4,
          (LeR.rewrite hin).reps ((l4.rep.reps (lr3.rep.reps ra)).append (Reps.one r4)), by simp; omega, ?_⟩
        refine (wpR.bind.mp h4).mono (fun ys st5 h5 => ?_) fun _ _ x => x
        have h5' : VOk K H o Q (.lst (accd ++ y' :: ys)) st5 := h5
        rw [List.append_assoc]
        exact h5'
  · have e : i = ds.length := by omega
    subst e
    rw [List.drop_length] at hw
    refine .inl ⟨w1, ?_⟩
    have hw' : VOk K H o Q (.lst (accd ++ [])) sti := hw
    rw [List.append_nil] at hw'
    have hz : ∀ a ∈ o1.z, a ∈ oi.z := fun a ha => by rw [ez]; exact List.mem_cons_of_mem _ ha
    refine hw' (.ref Dd) Hi { oi with z := o1.z } (l1.trans ⟨⟨fun a u e n nt => lc.keep a u e n, lc.loc, lc.x⟩, rfl⟩) (si.unhold hz) ⟨Dd, acc, rfl, eD, ⟨nD, fun q => ?_⟩, (LeR.unhold hz).reps ra⟩
    obtain ⟨⟨u, e⟩, _⟩ := s1.zt Dd q
    rw [hD] at e; cases e
theorem pts_nilD : PTs X [] (tT X.K EX0 fun _ => pure true) := ⟨fun pins s σ H Q I h => (pts_nil (X := X)).run pins s σ H Q I (tT_pure h)⟩
theorem pd_lc {elt tg iter : Expr} {ifs : List Expr} {scope : Scope} {own : List (Str × Nat)} {pos : Pos} {it : DenI} {t : Tg} {c : DenB} {f : Den} (hc : X.calm = true) (hN : X.N.Nodup) (hi : PDI X E tg iter it) (ok : BlkOk X.N X.env.scope scope own)
    (hg : ∀ (s : Shared) (H : Hp) (C : Addr) (cl : List (Str × Addr)) (fp : List Addr), PG (X.blk s H scope (compEnvC scope cl C X.env) fp) tg (t.g X.K))
    (ht : ∀ (s : Shared) (H : Hp) (C : Addr) (cl : List (Str × Addr)) (fp : List Addr), PTs (X.blk s H scope (compEnvC scope cl C X.env) fp) ifs (tT X.K EX0 c))
    (he : ∀ (s : Shared) (H : Hp) (C : Addr) (cl : List (Str × Addr)) (fp : List Addr), PE (X.blk s H scope (compEnvC scope cl C X.env) fp) elt (tD X.K EX0 f)) (hs : ∀ x, foldedSetIterable iter X.env x = pure x) (hsub : ∀ i ∈ t.slots, i ∈ own.map (·.2)) :
    PD X E (.ListComp elt [⟨tg, iter, ifs, 0⟩] scope pos) (dLc it (own.map (·.2)) t c f) := PE.imp (pe_lc hc hN hi ok hg ht he hs) fun _ _ _ h => tD_lc hsub h
theorem dp_setLc {i : Nat} {y : Str} {py : Pos} {elt tg iter : Expr} {ifs : List Expr} {scope : Scope} {own : List (Str × Nat)} {pos spos : Pos} {it : DenI} {t : Tg} {c : DenB} {f : Den} (hc : X.calm = true) (hN : X.N.Nodup) (hy : X.N[i]? = some y) (hyl : X.env.scope.names.lookup y = some .local)
    (hsw : swapsWith (.ListComp elt [⟨tg, iter, ifs, 0⟩] scope pos) (some (.Name y py)) spos.line X.env = pure true) (hi : PDI X E tg iter it) (ok : BlkOk X.N X.env.scope scope own)
    (hg : ∀ (s : Shared) (H : Hp) (C : Addr) (cl : List (Str × Addr)) (fp : List Addr), PG (X.blk s H scope (compEnvC scope cl C X.env) fp) tg (t.g X.K))
    (ht : ∀ (s : Shared) (H : Hp) (C : Addr) (cl : List (Str × Addr)) (fp : List Addr), PTs (X.blk s H scope (compEnvC scope cl C X.env) fp) ifs (tT X.K EX0 c))
    (he : ∀ (s : Shared) (H : Hp) (C : Addr) (cl : List (Str × Addr)) (fp : List Addr), PE (X.blk s H scope (compEnvC scope cl C X.env) fp) elt (tD X.K EX0 f)) (hs : ∀ x, foldedSetIterable iter X.env x = pure x) (hsub : ∀ i ∈ t.slots, i ∈ own.map (·.2)) :
    PDS X E (.Assign [.Name y py] (.ListComp elt [⟨tg, iter, ifs, 0⟩] scope pos) spos) (dAsg (dLc it (own.map (·.2)) t c f) (gSet i)) := PS.imp (ps_setLc hc hN hy hyl hsw hi ok hg ht he hs) fun D σ H h => by
  have h1 : tD X.K E (dLc it (own.map (·.2)) t c f) σ H fun v H1 => D.nx (σ.set i (some v)) H1 := by
    obtain ⟨o, ρ, st, he, hs, h⟩ := h
    refine ⟨o, ρ, st, he, hs, ?_⟩
    exact (wpR.bind.mp h).mono (fun d st1 h1 v H1 o1 l s1 r => (show EOk X.K H o D.nx (ρ.set i (some d)) st1 from h1) _ H1 o1 l s1 ((he.mono l.rep).set i r)) fun _ _ x => x
  exact tD_lc hsub h1
end
end MP

namespace MP
open PySem L2
open PySem.Spec PyProof.Rows
section
variable {K : Frag} {E : XK} {H H' : Hp} {o o' : Lo} {st : Store} {X : Cx}

/-! ## o[i] = v -/
def dputK : List Key → Key → List Key
  | [], k => [k]
  | q :: ks, k => if q = k then q :: ks else q :: dputK ks k
def dputV : List Key → List D → Key → D → List D
  | [], _, _, v => [v]
  | q :: ks, d :: ds, k, v => if q = k then v :: ds else d :: dputV ks ds k v
  | _ :: _, [], _, _ => []
theorem putK_cons_eq {p : Key × V} {r : List (Key × V)} {k : Key} {v : V} (e : p.1 = k) (nd : ∀ q ∈ r, q.1 ≠ k) : putK (p :: r) k v = (p.1, v) :: r := by
  unfold putK
  have h1 : ((p :: r).any fun kv => decide (kv.1 = k)) = true := by simp [e]
  rw [if_pos h1, List.map_cons, if_pos e]
  congr 1
  have h2 : r.map (fun kv => if kv.1 = k then (kv.1, v) else kv) = r.map id := List.map_congr_left fun q hq => by simp [nd q hq]
  rw [h2, List.map_id]
theorem putK_cons_ne {p : Key × V} {r : List (Key × V)} {k : Key} {v : V} (e : p.1 ≠ k) : putK (p :: r) k v = p :: putK r k v := by
  unfold putK
  have h1 : ((p :: r).any fun kv => decide (kv.1 = k)) = (r.any fun kv => decide (kv.1 = k)) := by simp [e]
  rw [h1]
  split
  · rw [List.map_cons, if_neg e]
  · rfl
theorem dput_rep : ∀ {kvs : List (Key × V)} {ds : List D} {k : Key} {d : D} {v : V}, (kvs.map (·.1)).Nodup → Reps K H o ds (kvs.map (·.2)) → Rep K H o d v →
    (putK kvs k v).map (·.1) = dputK (kvs.map (·.1)) k ∧ Reps K H o (dputV (kvs.map (·.1)) ds k d) ((putK kvs k v).map (·.2))
  | [], ds, k, d, v, _, r, rv => by
    have e : putK ([] : List (Key × V)) k v = [(k, v)] := rfl
    rw [e]
    exact ⟨rfl, Reps.one rv⟩
  | p :: r, [], k, d, v, _, q, rv => by cases (show (p :: r).map (·.2) = [] from q)
  | p :: r, d0 :: ds, k, d, v, nd, q, rv => by
    obtain ⟨x, xs, e, r1, r2⟩ := q
    obtain ⟨rfl, rfl⟩ := List.cons.inj e
    have nd' := List.nodup_cons.mp (show (p.1 :: r.map (·.1)).Nodup from nd)
    by_cases hp : p.1 = k
    · rw [putK_cons_eq hp fun y hy e => nd'.1 (by rw [hp, ← e]; exact List.mem_map_of_mem hy)]
      simp only [List.map_cons, dputK, dputV, if_pos hp]
      exact ⟨trivial, v, _, rfl, rv, r2⟩
    · obtain ⟨h1, h2⟩ := dput_rep (k := k) nd'.2 r2 rv
      rw [putK_cons_ne hp]
      simp only [List.map_cons, dputK, dputV, if_neg hp]
      exact ⟨by rw [h1], p.2, _, rfl, r1, h2⟩
def setCell : Option Cell → D → D → Option Cell
  | some (.lst ds), .int i, v => (ixN ds.length i).map fun j => .lst (ds.set j v)
  | some (.dic ks ds), k, v => (keyD k).bind fun q => bif decide (ks.length < big) && decide ks.Nodup then some (.dic (dputK ks q) (dputV ks ds q v)) else none
  | _, _, _ => none
def setM : D → D → D → M Unit
  | .ref n, i, v => fun st => match setCell st[n]? i v with
    | some c => .ok () (st.set n c)
    | none => .stuck
  | _, _, _ => M.stuck
def UOk (K : Frag) (H : Hp) (o : Lo) (Q : Hp → Prop) (_ : Unit) (st : Store) : Prop := ∀ H' o', Le H o H' o' → StOk K H' o' st → Q H'
theorem UOk.mono {Q : Hp → Prop} {u : Unit} (x : UOk K H o Q u st) (l : Le H o H' o') : UOk K H' o' Q u st := fun H2 o2 l2 => x H2 o2 (l.trans l2)
def tSetD (K : Frag) (E : XK) (op : D → D → D → M Unit) : TSet := fun x i v H Q => ∃ o st dx di dv, Rep K H o dx x ∧ Rep K H o di i ∧ Rep K H o dv v ∧ StOk K H o st ∧ wpR (op dx di dv st) (UOk K H o Q) (XOk K E H o)
theorem sd_set (hu : X.A.units + 1 < cLine) : PSet X (tSetD X.K E setM) := by
  intro pins s σ H x i v ov iv u Q I rx ri rv h
  obtain ⟨o, st, dx, di, dv, r1, r2, r3, so, h⟩ := h
  cases dx with
  | ref n =>
    have h' : wpR (match setCell st[n]? di dv with | some c => R.ok () (st.set n c) | none => .stuck) (UOk X.K H o Q) (XOk X.K E H o) := h
    cases q : st[n]? with
    | none => rw [q] at h'; exact False.elim h'
    | some c =>
      rw [q] at h'
      obtain ⟨b, e0, h1⟩ := r1
      subst e0
      have at_ : ∀ {a}, o.l[n]? = some (some a) → b = a := fun {a} e1 => by
        rw [e1] at h1
        rcases h1 with h1 | h1
        · cases h1; rfl
        · cases h1
      cases c with
      | lst ds =>
        obtain ⟨a, xs, e1, e2, e3⟩ := so.cell n _ q
        cases at_ e1
        cases di with
        | int k =>
          have h2 : wpR (match (ixN ds.length k).map (fun j => Cell.lst (ds.set j dv)) with | some c => R.ok () (st.set n c) | none => .stuck) (UOk X.K H o Q) (XOk X.K E H o) := h'
          cases qi : ixN ds.length k with
          | none => rw [qi] at h2; exact False.elim h2
          | some j =>
            rw [qi] at h2
            refine set_list pins s σ H (.ref b) i v ov iv u Q I rx ri rv ⟨b, xs, k, j, rfl, r2, e2, by rw [e3.length]; exact qi, ?_⟩
            have hm : some b ∈ o.l := List.mem_of_getElem? e1
            exact (show UOk X.K H o Q () (st.set n (.lst (ds.set j dv))) from h2) _ o (Le.write hm) (so.write e1 ⟨b, _, rfl, upd_same, (Le.write hm).rep.reps (e3.set j r3)⟩)
        | _ => exact False.elim h'
      | dic ks ds =>
        obtain ⟨a, kvs, e1, e2, e4, e3⟩ := so.cell n _ q
        cases at_ e1
        have h2 : wpR (match (keyD di).bind (fun q => bif decide (ks.length < big) && decide ks.Nodup then some (Cell.dic (dputK ks q) (dputV ks ds q dv)) else none) with | some c => R.ok () (st.set n c) | none => .stuck) (UOk X.K H o Q) (XOk X.K E H o) := h'
        cases qk : keyD di with
        | none => rw [qk] at h2; exact False.elim h2
        | some k =>
          rw [qk] at h2
          have h3 : wpR (match (bif decide (ks.length < big) && decide ks.Nodup then some (Cell.dic (dputK ks k) (dputV ks ds k dv)) else none) with | some c => R.ok () (st.set n c) | none => .stuck) (UOk X.K H o Q) (XOk X.K E H o) := h2
          cases qb : decide (ks.length < big) && decide ks.Nodup with
          | false => rw [qb] at h3; exact False.elim h3
          | true =>
            rw [qb] at h3
            rw [Bool.and_eq_true] at qb
            have hl := of_decide_eq_true qb.1
            have hnd := of_decide_eq_true qb.2
            subst e4
            have ey := keyD_rep qk r2
            subst ey
            obtain ⟨p1, p2⟩ := dput_rep (k := k) hnd e3 r3
            have hm : some b ∈ o.l := List.mem_of_getElem? e1
            cases rx
            refine d_setItem hu I (DPut.k e2 (by rw [List.length_map] at hl; exact Nat.lt_of_lt_of_le hl big_le)) ri rv fun s' I' => ⟨_, I', ?_⟩
            exact (show UOk X.K H o Q () (st.set n (.dic _ _)) from h3) _ o (Le.write hm) (so.write e1 ⟨b, _, rfl, upd_same, p1, (Le.write hm).rep.reps p2⟩)
      | _ => cases di <;> exact False.elim h'
  | _ => exact False.elim h
@[simp] def gSubD (fo fi : Den) : DenG := fun d ρ => fo ρ >>= fun x => fi ρ >>= fun i => setM x i d >>= fun _ => pure ρ
theorem dg_sub {a i : Expr} {fo fi : Den} {pos : Pos} (hu : X.A.units + 1 < cLine) (ho : PD X E a fo) (hi : PD X E i fi)
    (ha : ∀ v, assign (.Subscript a i pos) X.env v = (do
      let ov ← holding [v] (eval a X.env)
      let iv ← holding [v, ov] (eval i X.env)
      standAt pos
      holding [v, ov, iv] (setItem ov iv v)
      release [v, ov, iv] [])) : PDG X E (.Subscript a i pos) (gSubD fo fi) :=
  PG.imp (pg_sub ho hi (sd_set (E := E) hu) ha) fun v σ H Q h => by
    obtain ⟨o, ρ, st, d, he, hs, r, h⟩ := h
    refine ⟨o, ρ, st, he, hs, ?_⟩
    refine (wpR.bind.mp h).mono (fun x st1 h1 vx H1 o1 l1 s1 r1 => ⟨o1, ρ, st1, he.mono l1.rep, s1, ?_⟩) fun _ _ x => x
    refine (wpR.bind.mp h1).mono (fun i st2 h2 vi H2 o2 l2 s2 r2 => ⟨o2, st2, x, i, d, Rep.mono l2 _ _ r1, r2, Rep.mono (l1.trans l2) _ _ r, s2, ?_⟩) fun _ _ x => x.mono l1
    have l12 := l1.trans l2
    refine wpR.mono (wpR.bind.mp h2) (fun u st3 h3 H3 o3 l3 s3 => ?_) fun _ _ x => x.mono l12
    exact (show EOk X.K H o Q ρ st3 from h3) σ H3 o3 (l12.trans l3) s3 (he.mono ((l12.trans l3).rep))

/-! ## methods of built-in types -/
abbrev MtD (X : Cx) (E : XK) (id : String) (op : D → List D → M D) : Prop := MtR X id (fun x xs H Q => ∃ o dx ds st, Rep X.K H o dx x ∧ Reps X.K H o ds xs ∧ StOk X.K H o st ∧ wpR (op dx ds st) (VOk X.K H o Q) (XOk X.K E H o))
/-- is the receiver of that type (T: "str" | "list" | "tuple") -/
def lstCell (n : Nat) : M Unit := fun st => match st[n]? with
  | some (.lst _) => .ok () st
  | _ => .stuck
def isTy (T : String) : D → M Unit
  | .str _ => if T = "str" then pure () else M.stuck
  | .lst _ => if T = "list" then pure () else M.stuck
  | .ref n => if T = "list" then lstCell n else M.stuck
  | _ => M.stuck
theorem isTy_wp {T : String} {d : D} {v : V} {Q : Unit → Store → Prop} {Z : Exn → Store → Prop} (r : Rep K H o d v) (s : StOk K H o st) (h : wpR (isTy T d st) Q Z) : tyV K T v H ∧ Q () st := by
  cases d with
  | str i =>
    have h1 : wpR ((if T = "str" then (pure () : M Unit) else M.stuck) st) Q Z := h
    by_cases e : T = "str"
    · rw [if_pos e] at h1; subst e; cases (show v = .str i from r); exact ⟨rfl, h1⟩
    · rw [if_neg e] at h1; exact False.elim h1
  | lst ds =>
    have h1 : wpR ((if T = "list" then (pure () : M Unit) else M.stuck) st) Q Z := h
    by_cases e : T = "list"
    · rw [if_pos e] at h1; subst e; obtain ⟨a, xs, rfl, k, _⟩ := r; exact ⟨.inl ⟨rfl, xs, SqL.of k⟩, h1⟩
    · rw [if_neg e] at h1; exact False.elim h1
  | ref n =>
    have h1 : wpR ((if T = "list" then lstCell n else M.stuck) st) Q Z := h
    by_cases e : T = "list"
    · rw [if_pos e] at h1
      subst e
      have h' : wpR (match st[n]? with | some (.lst _) => R.ok () st | _ => .stuck) Q Z := h1
      cases q : st[n]? with
      | none => rw [q] at h'; exact False.elim h'
      | some c =>
        rw [q] at h'
        cases c with
        | lst ds =>
          obtain ⟨a, xs, e1, e2, e3⟩ := s.cell n _ q
          obtain ⟨b, rfl, h1⟩ := r
          have : a = b := by
            rw [e1] at h1
            rcases h1 with h1 | h1
            · cases h1; rfl
            · cases h1
          subst this
          exact ⟨.inl ⟨rfl, xs, SqL.of e2⟩, h'⟩
        | _ => exact False.elim h'
    · rw [if_neg e] at h1; exact False.elim h1
  | _ => exact False.elim h
@[simp] def dMeth (T : String) (op : D → List D → M D) (f : Den) (fs : DenL) : Den := fun ρ => f ρ >>= fun x => isTy T x >>= fun _ => fs ρ >>= fun xs => op x xs
theorem pd_meth {T id : String} {name : Str} {op : D → List D → M D} {a e : Expr} {es : List Expr} {f : Den} {fs : DenL} {apos cpos : Pos} (pa : PlainAttrs T) (slot : Slot T name id) (hty : typeOf (.builtin id) = pure (.type "method_descriptor")) (hm : MtD X E id op)
    (ho : PD X E a f) (ha : PL X E (e :: es) fs) (hbase : attributeBase a name X.env (eval a X.env) = eval a X.env)
    (hfew : ((backTo cpos (starEach (e :: es) X.env)).all (fun x => !x.1) && (backToKw cpos (keywordEach [] X.env)).all (fun x => x.1.isSome)
      && decide ((e :: es).length + ([] : List Keyword).length + (if ([] : List Keyword).isEmpty then 0 else 1) < 30)) = true)
    (hline : (apos.endLine == cpos.line) = true) (hs : starEach (e :: es) X.env = (false, eval e X.env) :: starEach es X.env) (hplain : (backTo cpos (starEach es X.env)).any (·.1) = false) :
    PD X E (.Call (.Attribute a name apos) (e :: es) [] cpos) (dMeth T op f fs) := PE.imp (pe_bm pa slot hty hm ho ha hbase hfew hline hs hplain) fun σ H Q h => by
  obtain ⟨o, ρ, st, he, hs, h⟩ := h
  refine ⟨o, ρ, st, he, hs, ?_⟩
  refine (wpR.bind.mp h).mono (fun x st1 h1 v H1 o1 l1 s1 r1 => ?_) fun _ _ x => x
  obtain ⟨ty, h2⟩ := isTy_wp r1 s1 (wpR.bind.mp h1)
  refine ⟨ty, o1, ρ, st1, he.mono l1.rep, s1, ?_⟩
  refine (wpR.bind.mp h2).mono (fun ds st2 h3 vs H2 o2 l2 s2 r2 => ⟨o2, x, ds, st2, Rep.mono l2 _ _ r1, r2, s2, ?_⟩) fun _ _ x => x.mono l1
  exact wpR.mono h3 (fun _ _ x => x.mono (l1.trans l2)) fun _ _ x => x.mono (l1.trans l2)
def mAppend : D → List D → M D
  | .ref n, [v] => fun st => match st[n]? with
    | some (.lst ds) => bif decide (ds.length < big) then .ok .non (st.set n (.lst (ds ++ [v]))) else .stuck
    | _ => .stuck
  | _, _ => M.stuck
theorem md_append : MtD X E "list.append" mAppend := by
  intro pins s σ H x xs v us Q I rx rs h
  obtain ⟨o, dx, ds, st, r1, r2, so, h⟩ := h
  cases dx with
  | ref n =>
    cases ds with
    | nil => exact False.elim h
    | cons d ds =>
      cases ds with
      | cons _ _ => exact False.elim h
      | nil =>
        obtain ⟨y, rfl, ry⟩ := r2.one_of
        have h' : wpR (match st[n]? with | some (.lst ds) => bif decide (ds.length < big) then R.ok .non (st.set n (.lst (ds ++ [d]))) else .stuck | _ => .stuck) (VOk X.K H o Q) (XOk X.K E H o) := h
        cases q : st[n]? with
        | none => rw [q] at h'; exact False.elim h'
        | some c =>
          rw [q] at h'
          cases c with
          | lst ds =>
            obtain ⟨a, xs, e1, e2, e3⟩ := so.cell n _ q
            obtain ⟨b, rfl, h1⟩ := r1
            have : a = b := by
              rw [e1] at h1
              rcases h1 with h1 | h1
              · cases h1; rfl
              · cases h1
            subst this
            have h2 : wpR (bif decide (ds.length < big) then R.ok D.non (st.set n (.lst (ds ++ [d]))) else .stuck) (VOk X.K H o Q) (XOk X.K E H o) := h'
            cases qb : decide (ds.length < big) with
            | false => rw [qb] at h2; exact False.elim h2
            | true =>
              rw [qb] at h2
              have hl := of_decide_eq_true qb
              have hm : some a ∈ o.l := List.mem_of_getElem? e1
              refine mt_append pins s σ H _ _ v us Q I rx rs ⟨a, xs, y, rfl, rfl, e2, by rw [e3.length]; exact Nat.lt_of_lt_of_le hl big_le, ?_⟩
              exact (show VOk X.K H o Q .non (st.set n (.lst (ds ++ [d]))) from h2) .non _ o (Le.write hm) (so.write e1 ⟨a, _, rfl, upd_same, (Le.write hm).rep.reps (e3.append (Reps.one ry))⟩) rfl
          | _ => exact False.elim h'
  | _ => exact False.elim h
def strsD : List D → Option (List Str)
  | [] => some []
  | .str i :: ds => (strsD ds).map (i :: ·)
  | _ => none
theorem strsD_eq : ∀ {ds : List D} {ns : List Str}, strsD ds = some ns → ds = ns.map D.str
  | [], ns, h => by cases h; rfl
  | .str i :: ds, ns, h => by
    obtain ⟨ms, h1, rfl⟩ := Option.map_eq_some_iff.mp (show (strsD ds).map (i :: ·) = some ns from h)
    rw [strsD_eq h1]; rfl
  | .non :: _, _, h => by cases h
  | .bl _ :: _, _, h => by cases h
  | .int _ :: _, _, h => by cases h
  | .tup _ :: _, _, h => by cases h
  | .lst _ :: _, _, h => by cases h
  | .dic _ _ :: _, _, h => by cases h
  | .scr _ :: _, _, h => by cases h
  | .ref _ :: _, _, h => by cases h
def joinL (z : Str) (ds : List D) : M D := match strsD ds with
  | some ys => guardM (decide ((ys.map (·.length)).sum + ys.length * z.length ≤ big)) (pure (.str (Txt.join z ys)))
  | none => M.stuck
def mJoin : D → List D → M D
  | .str z, [x] => lstOf x >>= joinL z
  | _, _ => M.stuck
theorem md_join : MtD X E "str.join" mJoin := by
  intro pins s σ H x xs v us Q I rx rs h
  obtain ⟨o, dx, ds, st, r1, r2, so, h⟩ := h
  cases dx with
  | str z =>
    cases ds with
    | nil => exact False.elim h
    | cons d ds =>
      cases ds with
      | cons _ _ => exact False.elim h
      | nil =>
        obtain ⟨y, rfl, ry⟩ := r2.one_of
        obtain ⟨es, a, ys, rfl, e2, q2, h⟩ := lstOf_wp ry so (wpR.bind.mp h)
        unfold joinL at h
        cases q : strsD es with
        | none => rw [q] at h; exact False.elim h
        | some ss =>
          rw [q] at h
          obtain ⟨hl, h⟩ := guardM_wp h
          rw [strsD_eq q] at q2
          rw [q2.strs] at e2
          have hl' := of_decide_eq_true hl
          exact mt_join pins s σ H x _ v us Q I rx rs ⟨z, a, ss, r1, rfl, .inl (SqL.of e2), Nat.le_trans hl' big_le, ok_flat h so rfl⟩
  | _ => exact False.elim h
def mSplit : D → List D → M D
  | .str a, [.str b] => guardM (!(b.length == 0) && decide (a.length + 2 ≤ big)) (pure (.lst ((Txt.split a b).map D.str)))
  | _, _ => M.stuck
theorem md_split : MtD X E "str.split" mSplit := by
  intro pins s σ H x xs v us Q I rx rs h
  obtain ⟨o, dx, ds, st, r1, r2, so, h⟩ := h
  cases dx with
  | str z =>
    cases ds with
    | nil => exact False.elim h
    | cons d ds =>
      cases ds with
      | cons _ _ => cases d <;> exact False.elim h
      | nil =>
        obtain ⟨y, rfl, ry⟩ := r2.one_of
        cases d with
        | str b =>
          obtain ⟨hl, h⟩ := guardM_wp h
          rw [Bool.and_eq_true] at hl
          have e1 : (b.length == 0) = false := by cases q : b.length == 0 with
            | false => rfl
            | true => rw [q] at hl; exact absurd hl.1 (by decide)
          exact mt_split pins s σ H x _ v us Q I rx rs ⟨z, b, r1, by rw [show y = .str b from ry], e1, Nat.le_trans (of_decide_eq_true hl.2) big_le, fun p hp => ok_newLst h so (Reps.ofStrs _) hp⟩
        | _ => exact False.elim h
  | _ => exact False.elim h

/-! ## dict displays -/
def denPairs : List (Den × Den) → Env → M (List (D × D))
  | [], _ => pure []
  | (k, v) :: r, ρ => k ρ >>= fun x => v ρ >>= fun y => denPairs r ρ >>= fun ps => pure ((x, y) :: ps)
def keysD : List (D × D) → Option (List (Key × D))
  | [] => some []
  | (k, v) :: r => (keyD k).bind fun q => (keysD r).map ((q, v) :: ·)
def mergeD : List Key → List D → List (Key × D) → List Key × List D
  | ks, ds, [] => (ks, ds)
  | ks, ds, (k, v) :: r => mergeD (dputK ks k) (dputV ks ds k v) r
def PairsR (K : Frag) (H : Hp) (o : Lo) : List (D × D) → List (V × V) → Prop
  | [], ps => ps = []
  | (k, v) :: r, ps => ∃ x y ps', ps = (x, y) :: ps' ∧ Rep K H o k x ∧ Rep K H o v y ∧ PairsR K H o r ps'
theorem PairsR.mono (l : LeR K H o H' o') : ∀ {ds : List (D × D)} {ps : List (V × V)}, PairsR K H o ds ps → PairsR K H' o' ds ps
  | [], _, h => h
  | (k, v) :: r, _, h => by
    obtain ⟨x, y, ps', rfl, h1, h2, h3⟩ := h
    exact ⟨x, y, ps', rfl, l _ _ h1, l _ _ h2, PairsR.mono l h3⟩
def POk (K : Frag) (H : Hp) (o : Lo) (Q : List (V × V) → Hp → Prop) (ds : List (D × D)) (st : Store) : Prop := ∀ ps H' o', Le H o H' o' → StOk K H' o' st → PairsR K H' o' ds ps → Q ps H'
theorem POk.mono {Q : List (V × V) → Hp → Prop} {d : List (D × D)} (x : POk K H o Q d st) (l : Le H o H' o') : POk K H' o' Q d st := fun v H2 o2 l2 => x v H2 o2 (l.trans l2)
theorem tPairs_of : ∀ (fs : List (Den × Den)) {σ : L2.St} {H : Hp} {o : Lo} {st : Store} {ρ : Env} {Q : List (V × V) → Hp → Prop}, EnvOk K H o ρ σ → StOk K H o st → wpR (denPairs fs ρ st) (POk K H o Q) (XOk K E H o) →
    tPairs (fs.map fun p => (tD K E p.1, tD K E p.2)) σ H Q
  | [], σ, H, o, st, ρ, Q, he, hs, h => h [] H o (Le.refl _ _) hs rfl
  | (k, v) :: r, σ, H, o, st, ρ, Q, he, hs, h => by
    refine ⟨o, ρ, st, he, hs, ?_⟩
    refine (wpR.bind.mp h).mono (fun x st1 h1 vx H1 o1 l1 s1 r1 => ⟨o1, ρ, st1, he.mono l1.rep, s1, ?_⟩) fun _ _ x => x
    refine (wpR.bind.mp h1).mono (fun y st2 h2 vy H2 o2 l2 s2 r2 => ?_) fun _ _ x => x.mono l1
    have l12 := l1.trans l2
    refine tPairs_of r (he.mono l12.rep) s2 (wpR.mono (wpR.bind.mp h2) (fun ps st3 h3 vs H3 o3 l3 s3 r3 => ?_) fun _ _ x => x.mono l12)
    exact (show POk K H o Q ((x, y) :: ps) st3 from h3) ((vx, vy) :: vs) H3 o3 (l12.trans l3) s3 ⟨vx, vy, vs, rfl, Rep.mono (l2.trans l3) _ _ r1, Rep.mono l3 _ _ r2, r3⟩
theorem dputK_nodup : ∀ {ks : List Key} {k : Key}, ks.Nodup → (dputK ks k).Nodup ∧ ∀ q, q ∈ dputK ks k → q = k ∨ q ∈ ks
  | [], k, _ => by simp [dputK]
  | q :: ks, k, h => by
    have h' := List.nodup_cons.mp h
    unfold dputK
    split
    · exact ⟨h, fun x hx => .inr hx⟩
    · rename_i hne
      obtain ⟨h1, h2⟩ := dputK_nodup (k := k) h'.2
      refine ⟨List.nodup_cons.mpr ⟨fun z => ?_, h1⟩, fun x hx => ?_⟩
      · rcases h2 q z with e | e
        · exact hne e
        · exact h'.1 e
      · rcases List.mem_cons.mp hx with e | e
        · exact .inr (by rw [e]; exact List.mem_cons_self)
        · rcases h2 x e with e | e
          · exact .inl e
          · exact .inr (List.mem_cons_of_mem _ e)
theorem keysD_rep : ∀ {ds : List (D × D)} {kd : List (Key × D)} {ps : List (V × V)}, keysD ds = some kd → PairsR K H o ds ps →
    ∃ kvs : List (Key × V), ps = kvs.map (fun kv => (kV kv.1, kv.2)) ∧ kvs.length = ds.length ∧ kvs.map (·.1) = kd.map (·.1) ∧ Reps K H o (kd.map (·.2)) (kvs.map (·.2))
  | [], kd, ps, e, r => by cases e; cases (show ps = [] from r); exact ⟨[], rfl, rfl, rfl, rfl⟩
  | (k, v) :: r, kd, ps, e, q => by
    obtain ⟨x, y, ps', rfl, h1, h2, h3⟩ := q
    obtain ⟨q, hq, e2⟩ := Option.bind_eq_some_iff.mp (show (keyD k).bind (fun q => (keysD r).map ((q, v) :: ·)) = some kd from e)
    obtain ⟨kd', hk, rfl⟩ := Option.map_eq_some_iff.mp e2
    obtain ⟨kvs, e3, e4, e5, e6⟩ := keysD_rep hk h3
    exact ⟨(q, y) :: kvs, by rw [e3, keyD_rep hq h1]; rfl, by simp [e4], by simp [e5], y, _, rfl, h2, e6⟩
theorem merge_rep : ∀ {kd : List (Key × D)} {more kvs : List (Key × V)} {ds : List D}, (kvs.map (·.1)).Nodup → more.map (·.1) = kd.map (·.1) → Reps K H o (kd.map (·.2)) (more.map (·.2)) → Reps K H o ds (kvs.map (·.2)) →
    (mergeK kvs more).map (·.1) = (mergeD (kvs.map (·.1)) ds kd).1 ∧ Reps K H o (mergeD (kvs.map (·.1)) ds kd).2 ((mergeK kvs more).map (·.2))
  | [], more, kvs, ds, nd, e, _, r => by
    cases more with
    | nil => exact ⟨rfl, r⟩
    | cons _ _ => cases e
  | (k, v) :: kd, more, kvs, ds, nd, e, rm, r => by
    cases more with
    | nil => cases e
    | cons p more =>
      obtain ⟨e1, e2⟩ := List.cons.inj (show p.1 :: more.map (·.1) = k :: kd.map (·.1) from e)
      obtain ⟨y, ys, e3, ry, rys⟩ := rm
      obtain ⟨rfl, rfl⟩ := List.cons.inj (show p.2 :: more.map (·.2) = y :: ys from e3)
      obtain ⟨p1, p2⟩ := dput_rep (k := p.1) nd r ry
      have nd2 : ((putK kvs p.1 p.2).map (·.1)).Nodup := by rw [p1]; exact (dputK_nodup nd).1
      have q := merge_rep (kd := kd) (more := more) nd2 e2 rys p2
      subst e1
      rw [p1] at q
      exact q
def kvOf (k : List Key → List D → M D) (ps : List (D × D)) : M D := match keysD ps with
  | some kd => k (mergeD [] [] kd).1 (mergeD [] [] kd).2
  | none => M.stuck
def dDic (fs : List (Den × Den)) : Den := fun ρ => guardM (decide (fs.length ≤ 15)) (noX (denPairs fs ρ) >>= kvOf fun ks ds => pure (.dic ks ds))
/-- a dict of one's own -/
def dDicOwn (fs : List (Den × Den)) : Den := fun ρ => guardM (decide (fs.length ≤ 15)) (noX (denPairs fs ρ) >>= kvOf fun ks ds => M.alloc (.dic ks ds))
/-- a reserved address is empty again -/
theorem StOk.hole {p : Addr} {z : List Addr} (s : StOk K H o st) (hz : o.z = p :: z) (hp : p ∉ z) : StOk K (fun a => if a = p then none else H a) { o with z := z } st ∧ LeR K H o (fun a => if a = p then none else H a) { o with z := z } := by
  have hm : p ∈ o.z := by rw [hz]; exact List.mem_cons_self
  have hs : ∀ a ∈ z, a ∈ o.z := fun a q => by rw [hz]; exact List.mem_cons_of_mem _ q
  have r1 : LeR K H o (fun a => if a = p then none else H a) o := fun d v r => Rep.avoid hm (fun b hb => by show (if b = p then none else H b) = H b; rw [if_neg hb]) d v r
  have r2 := r1.trans (LeR.unhold (K := K) (H := fun a => if a = p then none else H a) hs)
  refine ⟨⟨s.len, s.nd, fun a ha => ?_, fun n c e => (s.cell n c e).mono r2 fun a w e1 e2 => ?_, fun q hq => (s.tb q hq).mono fun a u e v => ⟨by show (if a = p then none else H a) = _; rw [if_neg (fun q => v.2 (by rw [q]; exact hm))]; exact e, v.1, fun q => v.2 (hs a q)⟩⟩, r2⟩
  · obtain ⟨⟨w, e⟩, n⟩ := s.zt a (hs a ha)
    exact ⟨⟨w, by show (if a = p then none else H a) = _; rw [if_neg (fun q => hp (by rw [← q]; exact ha))]; exact e⟩, n⟩
  · have : a ≠ p := fun q => (s.zt p hm).2 (by rw [← q]; exact List.mem_of_getElem? e1)
    show (if a = p then none else H a) = _
    rw [if_neg this]; exact e2
theorem denPairs_len : ∀ (fs : List (Den × Den)) {ρ : Env} {st : Store} {Q : List (D × D) → Store → Prop} {Z : Exn → Store → Prop}, wpR (denPairs fs ρ st) Q Z → wpR (denPairs fs ρ st) (fun ps st' => ps.length = fs.length ∧ Q ps st') Z
  | [], _, _, _, _, h => ⟨rfl, h⟩
  | (k, v) :: r, ρ, st, Q, Z, h => wpR.bind.mpr ((wpR.bind.mp h).mono (fun x st1 h1 => wpR.bind.mpr ((wpR.bind.mp h1).mono (fun y st2 h2 => wpR.bind.mpr ((denPairs_len r (wpR.bind.mp h2)).mono (fun ps st3 h3 => ⟨by rw [List.length_cons, List.length_cons, h3.1], h3.2⟩) fun _ _ x => x)) fun _ _ x => x)) fun _ _ x => x)
theorem disp_core {fs : List (Den × Den)} {σ : L2.St} {H : Hp} {o : Lo} {st : Store} {ρ : Env} {Q : VK} {k : List Key → List D → M D} (he : EnvOk K H o ρ σ) (hs : StOk K H o st)
    (h : wpR ((noX (denPairs fs ρ) >>= kvOf k) st) (VOk K H o Q) (XOk K E H o)) (hlen : fs.length ≤ 15)
    (fin : ∀ (p : Addr) (H3 : Hp) (o3 : Lo) (st3 : Store) (kvs : List (Key × V)) (ds : List D), H3 p = none → StOk K H3 o3 st3 → Reps K H3 o3 ds (kvs.map (·.2)) →
      wpR (k (kvs.map (·.1)) ds st3) (VOk K H3 o3 Q) (XOk K E H3 o3) → Q (.ref p) (upd H3 p (.dK kvs))) : tDisp (fs.map fun p => (tD K E p.1, tD K E p.2)) σ H Q := by
  intro p hp
  have l0 : LeR K H o (upd H p (.dK [])) (o.hold p) := LeR.hold hp
  have lc0 : Lc H o (upd H p (.dK [])) (o.hold p) := Lc.hold hp
  have np : some p ∉ o.l := (hs.avOf hp).1
  have nz : p ∉ o.z := (hs.avOf hp).2
  have h1 := denPairs_len fs (noX_wp (Z' := XOk K E (upd H p (.dK [])) (o.hold p)) (wpR.bind.mp h))
  refine tPairs_of (E := E) fs (he.mono l0) (hs.hold hp) (wpR.mono h1 (fun ps st2 h2 vs H2 o2 l2 s2 r2 => ?_) fun e st2 x => x)
  obtain ⟨hpl, h2⟩ := h2
  have h3 : wpR ((match keysD ps with | some kd => k (mergeD [] [] kd).1 (mergeD [] [] kd).2 | none => M.stuck) st2) (VOk K H o Q) (XOk K E H o) := h2
  cases q : keysD ps with
  | none => rw [q] at h3; exact False.elim h3
  | some kd =>
    rw [q] at h3
    obtain ⟨kvs, e1, e2, e3, e4⟩ := keysD_rep q r2
    obtain ⟨hk, nk⟩ := l2.keep p _ (show upd H p (.dK []) p = some (.dK []) from upd_same) np
    refine ⟨hk, kvs, e1, by rw [e2, hpl]; exact hlen, ?_⟩
    obtain ⟨s3, r3⟩ := s2.hole (p := p) (z := o.z) l2.z nz
    obtain ⟨m1, m2⟩ := merge_rep (K := K) (H := H2) (o := o2) (kd := kd) (more := kvs) (kvs := []) (ds := []) List.nodup_nil e3 e4 rfl
    have lc2 := lc0.trans l2.toLc
    have le3 : Le H o (fun a => if a = p then none else H2 a) { o2 with z := o.z } := ⟨⟨fun a u e n nt => by
      obtain ⟨g1, g2⟩ := lc2.keep a u e n
      exact ⟨by show (if a = p then none else H2 a) = _; rw [if_neg (ne_of_none e hp)]; exact g1, g2⟩, lc2.loc, lc2.x⟩, rfl⟩
    have eH : upd H2 p (.dK (mergeK [] kvs)) = upd (fun a => if a = p then none else H2 a) p (.dK (mergeK [] kvs)) := by
      funext a
      by_cases ha : a = p
      · subst ha; rw [upd_same, upd_same]
      · rw [upd_ne ha, upd_ne ha, if_neg ha]
    rw [eH]
    refine fin p _ _ st2 (mergeK [] kvs) (mergeD [] [] kd).2 (if_pos rfl) s3 (r3.reps m2) ?_
    rw [m1]
    exact wpR.mono h3 (fun _ _ x => x.mono le3) fun _ _ x => x.mono le3
def PPairs (X : Cx) (E : XK) (pos : Pos) (keys : List (Option Expr)) (values : List Expr) (fs : List (Den × Den)) : Prop := PPs X pos keys values (fs.map fun p => (tD X.K E p.1, tD X.K E p.2))
theorem pp_nil {pos : Pos} : PPairs X E pos [] [] [] := pps_nil
theorem pp_cons {pos : Pos} {k v : Expr} {ks : List (Option Expr)} {vs : List Expr} {fk fv : Den} {fs : List (Den × Den)} (hk : PD X E k fk) (hv : PD X E v fv) (hr : PPairs X E pos ks vs fs) : PPairs X E pos (some k :: ks) (v :: vs) ((fk, fv) :: fs) := pps_cons hk hv hr
theorem pd_dic {pos : Pos} {keys : List (Option Expr)} {values : List Expr} {fs : List (Den × Den)} (h : PPairs X E pos keys values fs) (hall : keys.all (·.isSome) = true) (hl : keys.length = values.length) (h0 : keys ≠ []) (h15 : keys.length ≤ 15) : PD X E (.Dict keys values pos) (dDic fs) :=
  PE.imp (pe_disp h hall hl h0 h15) fun σ H Q h => by
    obtain ⟨o, ρ, st, he, hs, h⟩ := h
    obtain ⟨h15, h⟩ := guardM_wp h
    exact disp_core he hs h (of_decide_eq_true h15) fun p H3 o3 st3 kvs ds hp s3 r3 h4 => (show VOk X.K H3 o3 Q (.dic (kvs.map (·.1)) ds) st3 from h4) _ _ o3 (Le.new hp) (s3.new hp) (Rep.newDic s3 hp r3)
theorem pd_dicOwn {pos : Pos} {keys : List (Option Expr)} {values : List Expr} {fs : List (Den × Den)} (h : PPairs X E pos keys values fs) (hall : keys.all (·.isSome) = true) (hl : keys.length = values.length) (h0 : keys ≠ []) (h15 : keys.length ≤ 15) : PD X E (.Dict keys values pos) (dDicOwn fs) :=
  PE.imp (pe_disp h hall hl h0 h15) fun σ H Q h => by
    obtain ⟨o, ρ, st, he, hs, h⟩ := h
    obtain ⟨h15, h⟩ := guardM_wp h
    exact disp_core he hs h (of_decide_eq_true h15) fun p H3 o3 st3 kvs ds hp s3 r3 h4 => ok_alloc h4 s3 hp ⟨p, kvs, rfl, upd_same, rfl, (Le.alloc hp).rep.reps r3⟩
def dDic0 : Den := fun _ => M.alloc (.dic [] [])
theorem pd_dic0 {pos : Pos} : PD X E (.Dict [] [] pos) dDic0 := PE.imp pe_dnewK fun σ H Q h => by
  obtain ⟨o, ρ, st, he, hs, h⟩ := h
  exact fun p hp => ok_alloc h hs hp ⟨p, [], rfl, upd_same, rfl, rfl⟩
end
end MP

namespace MP
open PySem L2
open PySem.Spec PyProof.Rows

/-! ## defs -/
def runDef (n : Nat) (body : DenS) (ds : List D) : M D := body (ds.map some ++ List.replicate (n - ds.length) none) >>= fun r => match r with
  | .nx _ => pure .non
  | .rt d => pure d
  | .bk _ => M.stuck
  | .ct _ => M.stuck
abbrev CF (P : Program) (w : World) (K : Frag) (mg : Str → Option Value) (base : Heap) (N : List Str) (qual : Str) (scope : Scope) (f : Addr) (cdv : Value) (A : Around) (outer : List PySem.Env) (s : Shared) (H : Hp) (E : XK) : Cx :=
  cxOf (L2.CX P w) P w K mg base N qual scope f cdv A outer s H E
structure Cok (X : Cx) (E : XK) (k : Nat) : Prop where
  room : Room k X.A
  pass : Passes (L2.CX X.prog X.w) X E
  takes : Takes X (fun cls d _ H => E cls d H)
section
variable {P : Program} {w : World} {K : Frag} {mg : Str → Option Value} {base : Heap} {N ps : List Str} {x qual : Str} {params : Arguments} {body : List Stmt} {scope : Scope} {f : Addr} {fd : FuncData} {k : Nat} {X : Cx} {E : XK}
theorem Cok.units (c : Cok X E k) : X.A.units + 64 < cLine := c.room.units
theorem Cok.units5 (c : Cok X E k) : X.A.units + 65 < cLine := by have := c.room.un; omega
theorem Cok.units1 (c : Cok X E k) : X.A.units + 1 < cLine := by have := c.room.un; omega
theorem Cok.blk {s : Shared} {H : Hp} {sc : Scope} {ce : PySem.Env} {fp : List Addr} (c : Cok X E k) : Cok (X.blk s H sc ce fp) EX0 k :=
  ⟨c.room, fun pins σ H s e s' I cx => by
    obtain ⟨a, B, H', cls, d, _, _, _, _, _, _, _, hE⟩ := cx
    exact False.elim hE, fun u s' x => by
    obtain ⟨_, _, _, _, _, _, _, _, _, _, _, _, _, _, _, _, hE⟩ := x
    exact False.elim hE⟩
theorem Cok.of {cdv : Value} {A : Around} {outer : List PySem.Env} {s : Shared} {H : Hp} (hr : Room k (A.deeper (envOfC qual scope s.heap.objs.size f cdv))) : Cok (CF P w K mg base N qual scope f cdv A outer s H E) E k :=
  ⟨hr, passes_call (takes_of rfl rfl rfl rfl) fun _ _ _ _ h => h, takes_of rfl rfl rfl rfl⟩
theorem own_cf {cdv : Value} {A : Around} {outer : List PySem.Env} {s : Shared} {H : Hp} : PassesOwn (model (CF P w K mg base N qual scope f cdv A outer s H E).prog (CF P w K mg base N qual scope f cdv A outer s H E).w) (CF P w K mg base N qual scope f cdv A outer s H E).A (CF P w K mg base N qual scope f cdv A outer s H E).env (CF P w K mg base N qual scope f cdv A outer s H E).xe := passes_of rfl
theorem start_env {H : Hp} {o : Lo} {ds : List D} {vs : List V} (r : Reps K H o ds vs) (hl : ds.length ≤ N.length) : EnvOk K H o (ds.map some ++ List.replicate (N.length - ds.length) none) (L2.start N vs) := by
  have e := r.length
  refine ⟨by unfold L2.start; simp [e], fun i d h => ?_⟩
  have hi : i < ds.length := by
    by_cases hi : i < ds.length
    · exact hi
    · rw [List.getElem?_append_right (by simpa using hi), List.getElem?_replicate] at h
      split at h <;> cases h
  rw [List.getElem?_append_left (by simpa using hi), List.getElem?_map] at h
  obtain ⟨d', h1, h2⟩ := Option.map_eq_some_iff.mp h
  cases h2
  obtain ⟨v, hv, rv⟩ := r.get h1
  refine ⟨v, ?_, rv⟩
  unfold L2.start
  rw [List.getElem?_append_left (by simpa [e] using hi), List.getElem?_map, hv]
  rfl
theorem fn_ok {m : DenS} {np : Nat} (F : FunD K x qual params body scope [] [] f fd) (S : FnScope N ps scope) (hnp : ps.length = np)
    (h : ∀ (cdv : Value) (A : Around) (outer : List PySem.Env) (s : Shared) (H : Hp) (E : XK), Cok (CF P w K mg base N qual scope f cdv A outer s H E) E k → PDSs (CF P w K mg base N qual scope f cdv A outer s H E) E body m) :
    FnOk P w K mg base (L2.CX P w) (k + 1) f fd ps (spD K np (runDef N.length m)) := by
  refine F.ok S (fun vs H Q E q => ?_) fun cdv A outer s H vs Q E hr q => ?_
  · obtain ⟨o, ds, st, r, e, _⟩ := q
    rw [r.length, e, hnp]
  · obtain ⟨o, ds, st, r, e, so, hw⟩ := q
    have hle : ps.length ≤ N.length := by have := congrArg List.length S.pre; rw [List.length_take] at this; omega
    refine ⟨_, h cdv A outer s H E (.of hr), o, _, st, start_env r (by omega), so, ?_⟩
    refine (wpR.bind.mp hw).mono (fun r st' hq => ?_) fun _ _ z => z
    cases r with
    | nx ρ => exact fun σ' H' o' l s' e' => (show VOk K H o Q .non st' from hq) .non H' o' l s' rfl
    | rt d => exact hq
    | bk ρ => exact False.elim hq
    | ct ρ => exact False.elim hq
/-- a def by its meaning -/
structure Cal (P : Program) (w : World) (K : Frag) (mg : Str → Option Value) (base : Heap) (k : Nat) (x : Str) (np : Nat) (p : List D → M D) : Prop where
  ex : ∃ (f : Addr) (fd : FuncData) (ps : List Str), FnOk P w K mg base (L2.CX P w) k f fd ps (spD K np p) ∧ mg x = some (.ref f) ∧ PySem.W.keepIn K (.ref f) = true ∧ Binds K fd ps []
theorem Cal.mono {np j : Nat} {p : List D → M D} (c : Cal P w K mg base j x np p) (h : j ≤ k) : Cal P w K mg base k x np p :=
  let ⟨f, fd, ps, F, g, kp, b⟩ := c.ex; ⟨f, fd, ps, F.mono h, g, kp, b⟩
/-- what a def of the text is known by -/
structure Dn (K : Frag) (mg : Str → Option Value) (x qual : Str) (params : Arguments) (body : List Stmt) (scope : Scope) (ps : List Str) : Prop where
  ex : ∃ (f : Addr) (fd : FuncData), FunD K x qual params body scope [] [] f fd ∧ mg x = some (.ref f) ∧ Binds K fd ps []
theorem Dn.cal {m : DenS} {np : Nat} (d : Dn K mg x qual params body scope ps) (S : FnScope N ps scope) (hnp : ps.length = np)
    (h : ∀ (f : Addr) (cdv : Value) (A : Around) (outer : List PySem.Env) (s : Shared) (H : Hp) (E : XK), Cok (CF P w K mg base N qual scope f cdv A outer s H E) E k → PDSs (CF P w K mg base N qual scope f cdv A outer s H E) E body m) :
    Cal P w K mg base (k + 1) x np (runDef N.length m) :=
  let ⟨f, fd, F, g, b⟩ := d.ex
  ⟨f, fd, ps, fn_ok F S hnp (h f), g, F.kp, b⟩
theorem Dn.never (d : Dn K mg x qual params body scope ps) {np : Nat} : Cal P w K mg base k x np (fun _ => M.stuck) :=
  let ⟨f, fd, F, g, b⟩ := d.ex
  ⟨f, fd, ps, ⟨fun vs H Q E q => by obtain ⟨_, _, _, _, _, _, hw⟩ := q; exact False.elim hw, fun A outer s H args us vs Q E hr e hb r q => by obtain ⟨_, _, _, _, _, _, hw⟩ := q; exact False.elim hw⟩, g, F.kp, b⟩
/-- a call -/
theorem pd_callU {j np : Nat} {p : List D → M D} {e : Expr} {es : List Expr} {fs : DenL} {pn pos : Pos} (c : Cok X E k) (F : Cal X.prog X.w X.K X.mg X.base j x np p) (hj : j ≤ k) (hg : Gl X x) (ha : PL X E (e :: es) fs)
    (hdb : (x == ("__debug__" : Str)) = false) (he : starEach (e :: es) X.env = (false, eval e X.env) :: starEach es X.env) (hpl : (backTo pos (starEach es X.env)).any (·.1) = false) :
    PD X E (.Call (.Name x pn) (e :: es) [] pos) (dCall (arity np p) fs) :=
  let ⟨f, fd, ps, F, hm, hk, hb⟩ := (F.mono hj).ex
  pd_call F c.room hg hm hk hb c.pass ha hdb he hpl
theorem pd_callU0 {j np : Nat} {p : List D → M D} {pn pos : Pos} (c : Cok X E k) (F : Cal X.prog X.w X.K X.mg X.base j x np p) (hj : j ≤ k) (hg : Gl X x) (hdb : (x == ("__debug__" : Str)) = false) :
    PD X E (.Call (.Name x pn) [] [] pos) (dCall (arity np p) dNil) :=
  let ⟨f, fd, ps, F, hm, hk, hb⟩ := (F.mono hj).ex
  pd_call0 F c.room hg hm hk hb c.pass hdb

/-! ## a, b = e, f -/
def dPar (js : List Nat) (fs : DenL) : DenS := fun ρ => fs ρ >>= fun ds => bif ds.length == js.length then pure (.nx ((js.zip ds).foldl (fun r p => r.set p.1 (some p.2)) ρ)) else M.stuck
theorem dp_par2 {i j : Nat} {x y : Str} {a b : Expr} {fs : DenL} {px py pt pos : Pos} {kt k2 : Nat} {pt2 : Pos} (hc : X.calm = true) (hN : X.N.Nodup) (hi : X.N[i]? = some x) (hj : X.N[j]? = some y) (hij : i ≠ j)
    (hx : X.env.scope.names.lookup x = some .local) (hy : X.env.scope.names.lookup y = some .local) (ha : PL X E [a, b] fs)
    (hw : swappedStores [.Tuple [.Name x px, .Name y py] kt pt] (.Tuple [a, b] k2 pt2) X.env = pure (some [x, y]))
    (hs : swapsWithSole [.Tuple [.Name x px, .Name y py] kt pt] (.Tuple [a, b] k2 pt2) pos.line X.env = pure false) :
    PDS X E (.Assign [.Tuple [.Name x px, .Name y py] kt pt] (.Tuple [a, b] k2 pt2) pos) (dPar [i, j] fs) := PS.imp (ps_par hc hN hi hj hij hx hy ha hw hs) fun D σ H h => by
  obtain ⟨o, ρ, st, he, so, h⟩ := h
  refine ⟨o, ρ, st, he, so, (wpR.bind.mp h).mono (fun ds st1 h1 vs H1 o1 l s1 r => ?_) fun _ _ z => z⟩
  match ds, r, h1 with
  | [], _, h1 => exact False.elim h1
  | [_], _, h1 => exact False.elim h1
  | _ :: _ :: _ :: _, _, h1 => exact False.elim h1
  | [d, e], r, h1 =>
    obtain ⟨v, u, ev, rv, ru⟩ := r.two_of
    exact ⟨v, u, ev, (show EOk X.K H o D.nx ((ρ.set i (some d)).set j (some e)) st1 from h1) _ H1 o1 l s1 (((he.mono l.rep).set i rv).set j ru)⟩
end
end MP

namespace MP
open PySem L2
open PySem.Spec PyProof.Rows

/-! ## short names for what a program prints -/
@[simp] abbrev d1 (p : D → M D) (f : Den) : Den := fun ρ => f ρ >>= fun x => p x
@[simp] abbrev d2 (p : D → D → M D) (f g : Den) : Den := fun ρ => f ρ >>= fun x => g ρ >>= fun y => p x y
@[simp] abbrev oNone : DenO := fun _ => pure none
@[simp] abbrev oSome (f : Den) : DenO := fun ρ => f ρ >>= asI
@[simp] abbrev dSl (f : Den) (l h : DenO) : Den := fun ρ => f ρ >>= fun x => l ρ >>= fun a => h ρ >>= fun b => opSl a b x
@[simp] abbrev bVal (f : Den) : DenB := fun ρ => f ρ >>= asB
@[simp] abbrev bTrue : DenB := fun _ => pure true
@[simp] abbrev iVal (f : Den) : DenI := fun ρ => f ρ >>= itemsOf
@[simp] abbrev iRange1 (fs : DenL) : DenI := fun ρ => fs ρ >>= rng1
@[simp] abbrev iRange2 (fs : DenL) : DenI := fun ρ => fs ρ >>= rng2
def dNever : DenS := fun _ => M.stuck
section
variable {X : Cx} {E : XK} {x : Str} {pos : Pos}
theorem gl_ (h : X.env.kindOf x = some .globalImplicit) : Gl X x := h
theorem ps_never {s : Stmt} : PDS X E s dNever := ⟨fun _ _ _ _ _ _ h => by
  obtain ⟨o, ρ, st, _, _, h⟩ := h
  exact False.elim h⟩
theorem pd_non {j : Nat} : PD X E (.Constant .none j pos) (dC .non) := pd_const pe_non fun _ _ => rfl
theorem pd_bl {b : Bool} {j : Nat} : PD X E (.Constant (.bool b) j pos) (dC (.bl b)) := pd_const pe_bl fun _ _ => rfl
theorem pd_int {i : Int} {j : Nat} : PD X E (.Constant (.int i) j pos) (dC (.int i)) := pd_const pe_int fun _ _ => rfl
theorem pd_str {z : Str} {j : Nat} : PD X E (.Constant (.str z) j pos) (dC (.str z)) := pd_const pe_str fun _ _ => rfl
/-- a name's slot -/
def vB (N : List Str) (sc : Scope) (x : Str) (i : Nat) : Bool := decide (N[i]? = some x) && ((match sc.names.lookup x with
  | some .local => true
  | some .cell => true
  | some .free => true
  | _ => false) && (!(x == ("__debug__" : Str)) && !(x == ("__classdict__" : Str))))
theorem pv_ {i : Nat} (h : vB X.N X.env.scope x i = true) : PD X E (.Name x pos) (dVar i) := by
  unfold vB at h
  simp only [Bool.and_eq_true, Bool.not_eq_true'] at h
  obtain ⟨h1, h2, h3, h4⟩ := h
  refine pd_var (of_decide_eq_true h1) ?_ h3 h4
  unfold Vis
  split at h2
  · exact .inl (by assumption)
  · exact .inr (.inl (by assumption))
  · exact .inr (.inr (by assumption))
  · cases h2
end
theorem bb_isinstance : bootBuiltins "isinstance" = some (.builtin "isinstance") := by decide +kernel
theorem bb_len : bootBuiltins "len" = some (.builtin "len") := by decide +kernel
theorem bb_abs : bootBuiltins "abs" = some (.builtin "abs") := by decide +kernel
theorem bb_min : bootBuiltins "min" = some (.builtin "min") := by decide +kernel
theorem bb_max : bootBuiltins "max" = some (.builtin "max") := by decide +kernel
theorem bb_all : bootBuiltins "all" = some (.builtin "all") := by decide +kernel
theorem bb_any : bootBuiltins "any" = some (.builtin "any") := by decide +kernel
theorem bb_sum : bootBuiltins "sum" = some (.builtin "sum") := by decide +kernel
theorem bb_sorted : bootBuiltins "sorted" = some (.builtin "sorted") := by decide +kernel
theorem bb_int : bootBuiltins "int" = some (.type "int") := by decide +kernel
theorem bb_bool : bootBuiltins "bool" = some (.type "bool") := by decide +kernel
theorem bb_str : bootBuiltins "str" = some (.type "str") := by decide +kernel
theorem bb_list : bootBuiltins "list" = some (.type "list") := by decide +kernel
theorem bb_dict : bootBuiltins "dict" = some (.type "dict") := by decide +kernel
theorem bb_tuple : bootBuiltins "tuple" = some (.type "tuple") := by decide +kernel
abbrev plain_list := PySem.F.plainAttrs_list
abbrev plain_str := PySem.F.plainAttrs_str
abbrev slot_append := PySem.F.slot_list_append
abbrev slot_join := PySem.F.slot_str_join
abbrev slot_split := PySem.F.slot_str_split
abbrev ty_append := PySem.F.type_list_append
abbrev ty_join := PySem.F.type_str_join
abbrev ty_split := PySem.F.type_str_split

/-! ## names of the module that hold values -/
/-- a value that stands in the ground -/
def Grd (K : Frag) (d : D) (v : V) : Prop := ∀ H o, Rep K H o d v
structure GCon (K : Frag) (mg : Str → Option Value) (x : Str) (d : D) : Prop where
  ex : ∃ (u : Value) (v : V), mg x = some u ∧ RelV v u ∧ Grd K d v
theorem pd_glob {X : Cx} {E : XK} {x : Str} {d : D} {pos : Pos} (hg : Gl X x) (c : GCon X.K X.mg x d) (hd : (x == ("__debug__" : Str)) = false := by rfl) : PD X E (.Name x pos) (dC d) :=
  let ⟨u, v, hm, r, g⟩ := c.ex
  pd_const (pe_glob hg hm r hd) g
/-- a dict that stands in the ground -/
structure KDs (P : Program) (w : World) (K : Frag) (mg : Str → Option Value) (x : Str) (kd : List (Key × D)) : Prop where
  ex : ∃ (a : Addr) (kvs : List (Key × V)), mg x = some (.ref a) ∧ (a == sysModules) = false ∧ kvs.length ≤ big ∧ kvs.map (·.1) = kd.map (·.1) ∧ (∀ H o, Reps K H o (kd.map (·.2)) (kvs.map (·.2))) ∧
    ∀ h : Heap, K.In h → ∃ vs, KV kvs vs ∧ h.DictOf (mixKind P w) a vs
section
variable {X : Cx} {E : XK} {x y : Str} {kd : List (Key × D)} {p p1 pos : Pos}
def dKdict (kd : List (Key × D)) : Den := fun _ => pure (.dic (kd.map (·.1)) (kd.map (·.2)))
def keyV : Key → D
  | .inl i => .int i
  | .inr s => .str s
def dKlist (kd : List (Key × D)) : Den := fun _ => pure (.lst (kd.map fun q => keyV q.1))
theorem Reps.keys {K : Frag} {H : Hp} {o : Lo} : ∀ ks : List Key, Reps K H o (ks.map keyV) (ks.map kV)
  | [] => rfl
  | .inl i :: ks => ⟨_, _, rfl, rfl, Reps.keys ks⟩
  | .inr i :: ks => ⟨_, _, rfl, rfl, Reps.keys ks⟩
theorem call_copyK {a : Addr} {kvs : List (Key × V)} (hs : (a == sysModules) = false) (hl : kvs.length ≤ big) (hD : ∀ h : Heap, X.K.In h → ∃ vs, KV kvs vs ∧ h.DictOf (mixKind X.prog X.w) a vs) :
    CallR X (.type "dict") (fun xs H Q => xs = [.ref a] ∧ ∀ l, H l = none → Q (.ref l) (upd H l (.dK kvs))) := by
  intro pins s σ H xs us Q I r q
  obtain ⟨rfl, q⟩ := q
  obtain ⟨u, rfl, rx⟩ := vals1 r
  cases rx
  obtain ⟨vs, rel, dd⟩ := hD _ I.kIn
  have z : kvs.length ≤ sizeLine := Nat.le_trans hl big_le
  refine kt_call_dict hs dd (by rw [← rel.length]; exact z) fun h' d' g => ?_
  have hm : (s.heap.objs.size == sysModules) = false := beq_eq_false_iff_ne.mpr (Nat.ne_of_gt I.big)
  refine ⟨.ref s.heap.objs.size, upd H s.heap.objs.size (.dK kvs), I.laid (t' := s.toks) (fun b u e => ?_) (Nat.le_refl _) (show ObjOk X.prog X.w _ _ _ (.dK kvs) from ⟨z, hm, vs, rel, d'⟩), rfl, q _ (I.hok.fresh (Nat.le_refl _))⟩
  exact (g.2 b (Nat.ne_of_lt (Heap.lt_size e))).trans (Heap.get?_push_of_some _ e)
theorem call_keysK (hc : X.calm = true) {a : Addr} {kvs : List (Key × V)} (hs : (a == sysModules) = false) (hl : kvs.length ≤ big) (hD : ∀ h : Heap, X.K.In h → ∃ vs, KV kvs vs ∧ h.DictOf (mixKind X.prog X.w) a vs) :
    CallR X (.type "list") (fun xs H Q => xs = [.ref a] ∧ ∀ l, H l = none → Q (.ref l) (upd H l (.lst (kvs.map fun kv => kV kv.1)))) := by
  intro pins s σ H xs us Q I r q
  obtain ⟨rfl, q⟩ := q
  obtain ⟨u, rfl, rx⟩ := vals1 r
  cases rx
  obtain ⟨vs, rel, dd⟩ := hD _ I.kIn
  have z : kvs.length ≤ sizeLine := Nat.le_trans hl big_le
  obtain ⟨ep, hat⟩ := dd.dictAt
  have ek : (kvs.map fun kv => kV kv.1) = vs.map fun z => kV z.1 := by
    have e := congrArg (List.map kV) rel.keys
    rw [List.map_map, List.map_map] at e
    exact e
  refine PySem.W.kdl_call (PySem.W.kdl_dict (knd := mixKind X.prog X.w) (kvs := vs) (ep := ep) hs) (I.ok.hd hc) hat (by rw [← rel.length]; exact z) fun h' tk acc c' hk hD hacc => ?_
  have hv : Vals (vs.map fun z => kV z.1) acc.toList := keys_at (by rw [Array.length_toList]; exact hacc.1) fun j v e => hacc.2 j v (by rw [← Array.getElem?_toList]; exact e)
  refine ⟨.ref s.heap.objs.size, upd H s.heap.objs.size (.lst (kvs.map fun kv => kV kv.1)), I.laid (t' := tk) hk (Nat.le_refl _) ?_, rfl, q _ (I.hok.fresh (Nat.le_refl _))⟩
  exact (show ObjOk X.prog X.w _ _ _ (.lst (kvs.map fun kv => kV kv.1)) from ⟨by rw [List.length_map]; exact z, acc.toList, c', by rw [ek]; exact hv, by rw [Array.toArray_toList]; exact hD⟩)
theorem pd_Kdict (hg : Gl X x) (hm : X.mg x = none) (hv : bootBuiltins x = some (.type "dict")) (hg2 : Gl X y) (c : KDs X.prog X.w X.K X.mg y kd) (hn : x ≠ "__name__") (hdb : (x == ("__debug__" : Str)) = false) (hdb2 : (y == ("__debug__" : Str)) = false) : PD X E (.Call (.Name x p) [.Name y p1] [] pos) (dKdict kd) := by
  obtain ⟨a, kvs, hy, hs, hl, e1, e2, hD⟩ := c.ex
  refine PE.imp (pe_callTy (call_copyK hs hl hD) hg hm hv (pa_cons (pe_glob hg2 hy (v := .ref a) rfl hdb2) pa_nil) hn hdb rfl rfl) fun σ H Q h => ?_
  obtain ⟨o, ρ, st, he, so, h⟩ := h
  refine ⟨rfl, fun l hl => ?_⟩
  have q := Rep.newDic so hl (kvs := kvs) (e2 _ _)
  rw [e1] at q
  exact (show VOk X.K H o Q (.dic (kd.map (·.1)) (kd.map (·.2))) st from h) _ _ o (Le.new hl) (so.new hl) q
theorem pd_Klist (hg : Gl X x) (hm : X.mg x = none) (hv : bootBuiltins x = some (.type "list")) (hc : X.calm = true) (hg2 : Gl X y) (c : KDs X.prog X.w X.K X.mg y kd) (hn : x ≠ "__name__") (hdb : (x == ("__debug__" : Str)) = false) (hdb2 : (y == ("__debug__" : Str)) = false) : PD X E (.Call (.Name x p) [.Name y p1] [] pos) (dKlist kd) := by
  obtain ⟨a, kvs, hy, hs, hl, e1, e2, hD⟩ := c.ex
  refine PE.imp (pe_callTy (call_keysK hc hs hl hD) hg hm hv (pa_cons (pe_glob hg2 hy (v := .ref a) rfl hdb2) pa_nil) hn hdb rfl rfl) fun σ H Q h => ?_
  obtain ⟨o, ρ, st, he, so, h⟩ := h
  refine ⟨rfl, fun l hl => ?_⟩
  refine ok_newLst (ds := kd.map fun q => keyV q.1) (show VOk X.K H o Q (.lst (kd.map fun q => keyV q.1)) st from h) so ?_ hl
  have e3 : (kd.map fun q => keyV q.1) = (kd.map (·.1)).map keyV := by rw [List.map_map]; rfl
  have e4 : (kvs.map fun q => kV q.1) = (kvs.map (·.1)).map kV := by rw [List.map_map]; rfl
  rw [e3, e4, e1]
  exact Reps.keys _
end
end MP

namespace MP
open PySem L2
open PySem.Spec PyProof.Rows

/-! ## sum(x): of a tuple too -/
section
variable {prog : Program} {w : World} {A : Around} {E : Value → Shared → Prop} {s : Shared} {l : Addr} {its : List Value} {ns : List Int} {Q : Value → Shared → Prop}
theorem sum_tup (hh : A.handled = none) (hl : s.heap.IsTuple l its.toArray) (hi : IntsAre its ns)
    (h : ∀ h' tk t', (∀ b o, s.heap.get? b = some o → h'.get? b = some o) → Q (.int ns.sum t') { s with heap := h', toks := tk }) : wpAny (model prog w) A (call (.builtin "sum") [.ref l]) Q E s := by
  obtain ⟨xs, e⟩ := hi.allInts.items
  have hn : numsOf (intItems xs).toList = ns := by rw [← e]; exact hi.numsOf
  rw [nums_intItems] at hn
  rw [e] at hl
  have hlt : l < s.heap.objs.size := by obtain ⟨_, z, _⟩ := hl; exact Heap.lt_size z
  refine call_sum_walkG (wpAny_pyIter_tuple hl ?_)
  refine ⟨_, [_, l], [_], _, _, _, numAt xs, rfl, Walks.tuple (A := A.in1) hh _ l (Nat.ne_of_lt hlt) (intItems xs), ⟨⟨_, Heap.get?_push_size _ rfl, rfl, rfl⟩, hl.push _⟩, fun b hb => ?_, (fun _ _ => intItems_at), fun h' tk t' hk => ?_⟩
  · show b < (s.heap.push _).objs.size
    rw [Heap.size_push]
    rcases List.mem_cons.mp hb with rfl | hb
    · exact Nat.lt_succ_self _
    · rcases List.mem_cons.mp hb with rfl | hb
      · exact Nat.lt_succ_of_lt hlt
      · cases hb
  · have e2 : preSum (numAt xs) (intItems xs).size = ns.sum := by
      rw [show (intItems xs).size = xs.size by simp [intItems], preSum_eq, List.take_of_length_le (by simp), hn]
    rw [e2]
    refine h h' tk t' fun b o eo => hk b o (fun hm => ?_) (Heap.get?_push_of_some _ eo)
    rcases List.mem_cons.mp hm with e1 | hm
    · have := Heap.lt_size eo
      rw [e1] at this
      exact absurd this (Nat.lt_irrefl _)
    · cases hm
end
section
variable {X : Cx} {E : XK}
theorem cr_sumT (hc : X.calm = true) : CallR X (.builtin "sum") (fun vs H Q => ∃ (a : Addr) (ns : List Int), vs = [V.ref a] ∧ SqT X.K H a (ns.map V.int) ∧ Q (.int ns.sum) H) := by
  intro pins s σ H vs us Q I r h
  obtain ⟨a, ns, rfl, hs, q⟩ := h
  obtain ⟨its, rv, hl, _⟩ := I.tuple hs
  rw [Vals.ref1 r]
  exact sum_tup (I.ok.hd hc) (show s.heap.IsTuple a its.toArray from hl) rv.ints fun h' tk t' hk => ⟨.int _, H, I.kept hk, ⟨_, rfl⟩, q⟩
def biSumA : D → M D
  | .lst ds => sumL ds
  | .tup ds => sumL ds
  | _ => M.stuck
theorem cd_sum (hc : X.calm = true) : CallD X E (.builtin "sum") (on1 biSumA) := cd_on1 fun pins s σ H v us Q d o st I r r1 so h => by
  have key : ∀ ds, wpR (sumL ds st) (VOk X.K H o Q) (XOk X.K E H o) → ∃ ns : List Int, ds = ns.map D.int ∧ Q (.int ns.sum) H := fun ds h => by
    unfold sumL at h
    cases q : intsD ds with
    | none => rw [q] at h; exact False.elim h
    | some ns => rw [q] at h; exact ⟨ns, intsD_eq q, ok_flat h so rfl⟩
  cases d with
  | lst ds =>
    obtain ⟨a, ys, rfl, k1, _, q1⟩ := r1
    obtain ⟨ns, e, hq⟩ := key ds h
    subst e
    rw [q1.ints] at k1
    exact cr_sum hc pins s σ H _ us Q I r ⟨a, ns, rfl, SqL.of k1, hq⟩
  | tup ds =>
    obtain ⟨a, ys, rfl, k1, q1⟩ := r1
    obtain ⟨ns, e, hq⟩ := key ds h
    subst e
    rw [q1.ints] at k1
    exact cr_sumT hc pins s σ H _ us Q I r ⟨a, ns, rfl, tup_sq k1, hq⟩
  | _ => exact False.elim h
end
end MP

namespace MP
open PySem L2
open PySem.Spec PyProof.Rows
section
variable {X : Cx} {E : XK}
theorem Reps.three_of {K : Frag} {H : Hp} {o : Lo} {d e f : D} {vs : List V} (r : Reps K H o [d, e, f] vs) : ∃ u v w, vs = [u, v, w] ∧ Rep K H o d u ∧ Rep K H o e v ∧ Rep K H o f w := by
  obtain ⟨u, vs1, rfl, h1, r⟩ := r
  obtain ⟨v, w, rfl, h2, h3⟩ := Reps.two_of r
  exact ⟨u, v, w, rfl, h1, h2, h3⟩
theorem dp_par3 {i j l : Nat} {x y z : Str} {a b c : Expr} {fs : DenL} {px py pz pt pos : Pos} {kt k2 : Nat} {pt2 : Pos} (hc : X.calm = true) (hN : X.N.Nodup) (hi : X.N[i]? = some x) (hj : X.N[j]? = some y) (hl : X.N[l]? = some z) (hij : i ≠ j) (hil : i ≠ l) (hjl : j ≠ l)
    (hx : X.env.scope.names.lookup x = some .local) (hy : X.env.scope.names.lookup y = some .local) (hz : X.env.scope.names.lookup z = some .local) (ha : PL X E [a, b, c] fs)
    (hw : swappedStores [.Tuple [.Name x px, .Name y py, .Name z pz] kt pt] (.Tuple [a, b, c] k2 pt2) X.env = pure (some [x, y, z]))
    (hs : swapsWithSole [.Tuple [.Name x px, .Name y py, .Name z pz] kt pt] (.Tuple [a, b, c] k2 pt2) pos.line X.env = pure false) :
    PDS X E (.Assign [.Tuple [.Name x px, .Name y py, .Name z pz] kt pt] (.Tuple [a, b, c] k2 pt2) pos) (dPar [i, j, l] fs) := PS.imp (ps_par3 hc hN hi hj hl hij hil hjl hx hy hz ha hw hs) fun D σ H h => by
  obtain ⟨o, ρ, st, he, so, h⟩ := h
  refine ⟨o, ρ, st, he, so, (wpR.bind.mp h).mono (fun ds st1 h1 vs H1 o1 l1 s1 r => ?_) fun _ _ z => z⟩
  match ds, r, h1 with
  | [], _, h1 => exact False.elim h1
  | [_], _, h1 => exact False.elim h1
  | [_, _], _, h1 => exact False.elim h1
  | _ :: _ :: _ :: _ :: _, _, h1 => exact False.elim h1
  | [d, e, f], r, h1 =>
    obtain ⟨v, u, t, ev, rv, ru, rt⟩ := r.three_of
    exact ⟨v, u, t, ev, (show EOk X.K H o D.nx (((ρ.set i (some d)).set j (some e)).set l (some f)) st1 from h1) _ H1 o1 l1 s1 ((((he.mono l1.rep).set i rv).set j ru).set l rt)⟩
/-! ## d.get(k, x) -/
def getK (z : D) (k : D) (p : List Key × List D) : M D := match keyD k with
  | some q => pure ((dget p.1 p.2 q).getD z)
  | none => M.stuck
def dGet2 (f g h : Den) : Den := fun ρ => f ρ >>= fun x => dicOf x >>= fun _ => g ρ >>= fun k => h ρ >>= fun z => dicOf x >>= getK z k
theorem pd_get2 {o e f : Expr} {apos cpos : Pos} {fo fe ff : Den} (hu : X.A.units + 1 < cLine) (ho : PD X E o fo) (he : PD X E e fe) (hf : PD X E f ff) (m : M2 X o "get" apos e f cpos) :
    PD X E (.Call (.Attribute o "get" apos) [e, f] [] cpos) (dGet2 fo fe ff) := PE.imp (pe_dget2 hu ho he hf m) fun σ H Q h => by
  obtain ⟨o, ρ, st, he, so, h⟩ := h
  refine ⟨o, ρ, st, he, so, ?_⟩
  refine (wpR.bind.mp h).mono (fun x st1 h1 v H1 o1 l1 s1 r1 => ?_) fun _ _ z => z
  obtain ⟨ks, ds, a, kvs, rfl, e1, e2, e3, h1⟩ := dicOf_wp r1 s1 (wpR.bind.mp h1)
  refine ⟨a, rfl, .inl ⟨kvs, .inl e1⟩, o1, ρ, st1, he.mono l1.rep, s1, ?_⟩
  refine (wpR.bind.mp h1).mono (fun k st2 h2 w H2 o2 l2 s2 r2 => ⟨o2, ρ, st2, (he.mono l1.rep).mono l2.rep, s2, ?_⟩) fun _ _ z => z.mono l1
  refine (wpR.bind.mp h2).mono (fun z st3 h3 u H3 o3 l3 s3 r3 => ?_) fun _ _ z => (z.mono l1).mono l2
  obtain ⟨ks', ds', a', kvs', ea, e1', e2', e3', h3⟩ := dicOf_wp (Rep.mono (l2.trans l3) _ _ r1) s3 (wpR.bind.mp h3)
  cases ea
  unfold getK at h3
  cases q : keyD k with
  | none => rw [q] at h3; exact False.elim h3
  | some q' =>
    rw [q] at h3
    have ek := keyD_rep q (Rep.mono l3 _ _ r2)
    subst e2'
    have h4 : VOk X.K H o Q ((dget (kvs'.map (·.1)) ds' q').getD z) st3 := h3
    rcases dget_val (q := q') e3' with ⟨g1, g2⟩ | ⟨d', v', g1, g2, g3⟩
    · rw [g1] at h4
      exact ⟨none, .inl ⟨kvs', q', .inl e1', ek, g2.symm⟩, (show VOk X.K H o Q z st3 from h4) u H3 o3 ((l1.trans l2).trans l3) s3 r3⟩
    · rw [g1] at h4
      exact ⟨some v', .inl ⟨kvs', q', .inl e1', ek, g2.symm⟩, (show VOk X.K H o Q d' st3 from h4) v' H3 o3 ((l1.trans l2).trans l3) s3 g3⟩
end
end MP

namespace MP
open PySem L2
open PySem.Spec PyProof.Rows

/-! ## facts behind the top -/
section
variable {P : Program} {w : World} {K : Frag} {mg : Str → Option Value} {h : Heap}
theorem reps_of_strs : ∀ (zs : List Str) H o, Reps K H o (zs.map D.str) (zs.map V.str) := fun zs _ _ => Reps.ofStrs zs
theorem gcon_tup {x : Str} {zs : List Str} (X : K.In h) (G : h.Ns mainGlobals mg) (g : (He.Fa.glo x).ok K = true) (t : He.tupB K x (zs.map He.Dv.str) = true) : GCon K mg x (.tup (zs.map D.str)) := by
  refine ⟨.ref (He.ga K x), .ref (He.ga K x), He.glo_ok X G g, rfl, fun H o => ?_⟩
  have e : (zs.map He.Dv.str).map (He.Dv.v K) = zs.map V.str := by rw [List.map_map]; rfl
  have s := He.tupB_ok t (fun _ => none)
  rw [e] at s
  rcases s with s | s
  · rcases s with s | ⟨_, s⟩ <;> cases s
  · exact ⟨_, _, rfl, .inr s, Reps.ofStrs zs⟩
theorem gcon_int {x : Str} {i : Int} (X : K.In h) (G : h.Ns mainGlobals mg) (g : (He.Fa.int x i).ok K = true) : GCon K mg x (.int i) :=
  let ⟨t, e⟩ := He.int_ok X G g
  ⟨_, .int i, e, ⟨t, rfl⟩, fun _ _ => rfl⟩
theorem gcon_str {x z : Str} (X : K.In h) (G : h.Ns mainGlobals mg) (g : (He.Fa.str x z).ok K = true) : GCon K mg x (.str z) :=
  let ⟨t, e⟩ := He.str_ok X G g
  ⟨_, .str z, e, ⟨t, rfl⟩, fun _ _ => rfl⟩
theorem dict_pairs : ∀ {l : List DictEntry} {ks : List Str} {vs : List V}, l.map He.keyOf = He.keysIn w.params ks → Vals vs (l.map (·.val)) →
    (∀ e ∈ l, ∃ k, (mixKind P w).is k e.key = true ∧ e.hash = (mixKind P w).hash k) ∧ ∃ rs : List (Key × Value), Pairs (mixKind P w) l rs ∧ rs.map (·.1) = ks.map Sum.inr ∧ KV ((ks.zip vs).map fun q => ((Sum.inr q.1 : Key), q.2)) rs ∧ vs.length = ks.length
  | [], [], vs, _, r => by
    cases r
    exact ⟨fun e h => (by cases h), [], .nil, rfl, .nil, rfl⟩
  | [], _ :: _, _, h, _ => by cases h
  | _ :: _, [], _, h, _ => by cases h
  | e :: l, k :: ks, vs, h, r => by
    cases r with
    | @cons v u vs us rv rvs =>
      have h1 : He.keyOf e :: l.map He.keyOf = some (k, PyData.keyHash w.params k) :: He.keysIn w.params ks := h
      injection h1 with h2 h3
      obtain ⟨q1, rs, q2, q3, q4, q5⟩ := dict_pairs h3 rvs
      have hk : (mixKind P w).is (Sum.inr k) e.key = true ∧ e.hash = (mixKind P w).hash (Sum.inr k) := by
        unfold He.keyOf at h2
        split at h2
        · rename_i x t q
          have h4 := Option.some.inj h2
          obtain ⟨h5, h6⟩ := Prod.mk.inj h4
          subst h5
          exact ⟨by rw [q]; exact decide_eq_true rfl, h6⟩
        · cases h2
      refine ⟨fun e' he' => ?_, (Sum.inr k, e.val) :: rs, .cons hk.1 rfl q2, by rw [List.map_cons, List.map_cons, q3], .cons ⟨rfl, rv⟩ q4, by rw [List.length_cons, List.length_cons, q5]⟩
      rcases List.mem_cons.mp he' with rfl | he'
      · exact ⟨_, hk⟩
      · exact q1 e' he'
theorem kds_of {x : Str} {ks zs : List Str} (X : K.In h) (G : h.Ns mainGlobals mg) (g : (He.Fa.glo x).ok K = true) (hk : He.dicW K (He.ga K x) = some (He.keysIn w.params ks)) (hv : valsD K (He.ga K x) (zs.map V.str) = true) (nd : ks.Nodup) (hl : ks.length ≤ big) :
    KDs P w K mg x ((ks.zip zs).map fun q => ((Sum.inr q.1 : Key), D.str q.2)) := by
  obtain ⟨es, n, kd⟩ := He.dicW_ok hk
  have e1 : es.toList.map He.keyOf = He.keysIn w.params ks := by
    unfold He.dicW at hk
    rw [kd.at_] at hk
    have hk' : (match decide ("dict" = "dict") && ((#[] : Array (Option Value)).isEmpty && !(He.ga K x == sysModules)) with
      | true => some (es.toList.map He.keyOf)
      | false => none) = some (He.keysIn w.params ks) := hk
    split at hk'
    · exact Option.some.inj hk'
    · cases hk'
  have e2 : He.relAll (zs.map V.str) (es.toList.map (·.val)) = true := by
    unfold valsD at hv
    rw [kd.at_] at hv
    exact hv
  obtain ⟨q1, rs, q2, q3, q4, q5⟩ := dict_pairs (P := P) e1 (He.relAll_ok e2)
  have hz : ((ks.zip (zs.map V.str)).map fun q => ((Sum.inr q.1 : Key), q.2)) = (ks.zip zs).map fun q => ((Sum.inr q.1 : Key), V.str q.2) := by
    rw [List.zip_map_right, List.map_map]; rfl
  rw [hz] at q4
  have q5' : zs.length = ks.length := by simpa using q5
  refine ⟨He.ga K x, (ks.zip zs).map fun q => ((Sum.inr q.1 : Key), V.str q.2), He.glo_ok X G g, kd.low, ?_, ?_, fun H o => ?_, fun h2 X2 => ⟨rs, q4, ?_⟩⟩
  · rw [List.length_map, List.length_zip]; omega
  · rw [List.map_map, List.map_map]; rfl
  · rw [List.map_map, List.map_map]
    have ez : ∀ (f : Str → D), ((ks.zip zs).map ((·.2) ∘ fun q => ((Sum.inr q.1 : Key), f q.2))) = zs.map f := fun f => by
      rw [show ((fun (z : Key × D) => z.2) ∘ fun (q : Str × Str) => ((Sum.inr q.1 : Key), f q.2)) = f ∘ Prod.snd from rfl, ← List.map_map, List.map_snd_zip (by omega)]
    have ez2 : ((ks.zip zs).map ((fun (z : Key × V) => z.2) ∘ fun q => ((Sum.inr q.1 : Key), V.str q.2))) = zs.map V.str := by
      rw [show ((fun (z : Key × V) => z.2) ∘ fun (q : Str × Str) => ((Sum.inr q.1 : Key), V.str q.2)) = V.str ∘ Prod.snd from rfl, ← List.map_map, List.map_snd_zip (by omega)]
    rw [ez, ez2]
    exact Reps.ofStrs zs
  · obtain ⟨a1, a2⟩ : h2.get? (He.ga K x) = some ⟨.type "dict", none, .dict es n, #[]⟩ ∧ True := ⟨X2 _ _ kd.at_, trivial⟩
    exact ⟨_, es, n, a1, ⟨rfl, rfl, rfl⟩, rfl, fun e he => q1 e (Array.mem_toList_iff.mpr he), q2, by rw [q3]; exact List.Pairwise.map _ (fun a b z e => z (Sum.inr.inj e)) nd⟩
theorem dn_of {fa : List He.Fa} {fn : List He.DefD} {x qual : Str} {params : Arguments} {body : List Stmt} {scope : Scope} {ps : List Str} (X : K.In h) (G : h.Ns mainGlobals mg) (c : He.SaysD fa fn K) (i : Nat) (hf : fn[i]? = some ⟨(x, none), x, qual, params, body, scope, [], []⟩) (g : (He.Fa.glo x).ok K = true)
    (hb : ∀ (kV doc pm : Value) (an : Option Addr) (cdv ct : Value) (us : List Value), us.length = ps.length → bindArgs (PySem.W.fnOf x qual params body scope .none kV doc pm an cdv ct) ⟨us, []⟩ = pure (ps.zip us)) : Dn K mg x qual params body scope ps := by
  obtain ⟨fd, F⟩ := c.def_ i hf
  exact ⟨_, fd, F, He.glo_ok X G g, F.bindsN hb⟩
end

/-! ## the end -/
theorem walk_ofM {l : PySem.W.OpenLaw} {n k : Nat} {q : Program} {loose : List Str} {XP : (Str → Option Value) → Heap → Prop} {YP : World → Heap → Prop} {d : DefRec} {x : Str} {m : List D → M D}
    (hn : l.most = some n) (hn2 : n ≤ sizeLine) (hdf : d.params.defaults = []) (hr : Room k callerA)
    (F : ∀ (w : World) (mg : Str → Option Value) (h : Heap), YP w h → h.Ns mainGlobals mg →
      ∃ K : Frag, K.In h ∧ tabsK K = [] ∧ ∀ fa : Addr, mg d.name = some (.ref fa) → ∃ fd : FuncData, (∀ (s : Shared) (u : Value), BindsTo s fd ⟨[u], []⟩ [(x, u)]) ∧
        ∀ base : Heap, K.In base → base.Ns mainGlobals mg → FnOk l.prog w K mg base (L2.CX l.prog w) k fa fd [x] (spD K 1 m))
    (hm : ∀ ns : List Int, ns.length ≤ n → (∀ z ∈ ns, Builtin.Int.intBits z ≤ 1048576) → ∃ st, m [.scr ns] [] = .ok (.bl true) st) :
    PySem.W.WalkO q loose XP YP l.row.toRowW d [] (fun f vs => PySem.call f vs) := by
  refine Att.attach_callB hn hdf fun w s0 s1 mg mb fa o pm cd doc a vs ns G Y ho hd hcd hmg hobj hints hlen hbits hg => ?_
  obtain ⟨K, KX, hT0, hF⟩ := F w mg _ Y G.T.g
  obtain ⟨fd, hb, hF⟩ := hF fa hmg
  refine law_call KX G.T.g G.T.b G.T.builtins G.T.nolimit hg hobj hints (Nat.le_trans hlen hn2) hr hF hb (fun H hO hS => ?_) fun H e s' cx => ?_
  · obtain ⟨st, e⟩ := hm ns hlen hbits
    refine ⟨⟨[], [], none⟩, [.scr ns], [], ⟨.ref a, [], rfl, ⟨a, rfl, ?_⟩, rfl⟩, rfl, ⟨rfl, fun n m a z _ => by simp at z, fun a z => by simp at z, fun n c z => by simp at z, fun p hp => by rw [hT0] at hp; cases hp⟩, ?_⟩
    · rcases hS with hS | hS
      · rcases hS with hS | ⟨ob, hS⟩
        · rcases hO a with z | ⟨o, xs, z⟩ <;> rw [hS] at z <;> cases z
        · exact .inl ⟨.inr ⟨ob, hS⟩, by simp [Lo.av]⟩
      · exact .inr hS
    · rw [e]
      exact fun v H' o' _ _ r => r
  · obtain ⟨_, _, _, _, _, _, _, _, _, _, _, _, hE⟩ := cx
    exact hE
end MP

namespace MP
open PySem L2
open PySem.Spec PyProof.Rows
/-! ## running meanings -/
def T {α : Type} (m : M α) (st : Store) (Q : α → Store → Prop) : Prop := wpR (m st) Q (fun _ _ => False)
section
variable {α β : Type} {st st' : Store}
theorem T.bind {m : M α} {f : α → M β} {Q : β → Store → Prop} {P : α → Store → Prop} (h : T m st P) (k : ∀ a st', P a st' → T (f a) st' Q) : T (m >>= f) st Q :=
  wpR.bind.mpr (wpR.mono h k fun _ _ z => z)
theorem T.mono {m : M α} {P Q : α → Store → Prop} (h : T m st P) (k : ∀ a st', P a st' → Q a st') : T m st Q := wpR.mono h k fun _ _ z => z
theorem T.ok {m : M α} {a : α} {Q : α → Store → Prop} (e : m st = .ok a st') (h : Q a st') : T m st Q := by
  unfold T; rw [e]; exact h
theorem T.get {m : M α} {Q : α → Store → Prop} (h : T m st Q) : ∃ a st', m st = .ok a st' ∧ Q a st' := by
  unfold T at h
  cases q : m st with
  | ok a st' => rw [q] at h; exact ⟨a, st', rfl, h⟩
  | exn e st' => rw [q] at h; exact h.elim
  | stuck => rw [q] at h; exact h.elim
@[simp] theorem t_bind {m : M α} {f : α → M β} {Q : β → Store → Prop} : T (m >>= f) st Q = T m st (fun a s => T (f a) s Q) := propext wpR.bind
@[simp] theorem t_map {m : M α} {f : α → β} {Q : β → Store → Prop} : T (f <$> m) st Q = T m st (fun a s => Q (f a) s) := by
  rw [map_eq_pure_bind, t_bind]; rfl
@[simp] theorem t_pure {a : α} {Q : α → Store → Prop} : T (pure a : M α) st Q = Q a st := rfl
@[simp] theorem t_guard {c : Bool} {m : M D} {Q : D → Store → Prop} : T (guardM c m) st Q = (c = true ∧ T m st Q) := by
  cases c with
  | true => exact propext ⟨fun h => ⟨rfl, h⟩, fun h => h.2⟩
  | false => exact propext ⟨fun h => False.elim h, fun h => by cases h.1⟩
@[simp] theorem t_guardL {c : Bool} {m : M α} {Q : α → Store → Prop} : T (guardL c m) st Q = (c = true ∧ T m st Q) := by
  cases c with
  | true => exact propext ⟨fun h => ⟨rfl, h⟩, fun h => h.2⟩
  | false => exact propext ⟨fun h => False.elim h, fun h => by cases h.1⟩
@[simp] theorem t_cond {c : Bool} {m m' : M α} {Q : α → Store → Prop} : T (cond c m m') st Q = ((c = true → T m st Q) ∧ (c = false → T m' st Q)) := by
  cases c <;> simp
@[simp high] theorem cond_pure {c : Bool} {a b : α} : (cond c (pure a) (pure b) : M α) = pure (cond c a b) := by cases c <;> rfl
@[simp] theorem t_ixr {n : Nat} {k : D} {Q : D → Store → Prop} : T (opIx (.ref n) k) st Q = T (ixCell st[n]? k) st Q := rfl
@[simp] theorem t_lenr {n : Nat} {Q : D → Store → Prop} : T (biLen (.ref n)) st Q = T (cellLen st[n]?) st Q := rfl
def setMc (n : Nat) : Option Cell → M Unit
  | some c => fun st => .ok () (st.set n c)
  | none => M.stuck
@[simp] theorem t_setr {n : Nat} {i v : D} {Q : Unit → Store → Prop} : T (setM (.ref n) i v) st Q = T (setMc n (setCell st[n]? i v)) st Q := by
  unfold T
  show wpR (match setCell st[n]? i v with | some c => R.ok () (st.set n c) | none => .stuck) Q _ = wpR (setMc n (setCell st[n]? i v) st) Q _
  cases setCell st[n]? i v <;> rfl
@[simp] theorem t_setc {n : Nat} {c : Cell} {Q : Unit → Store → Prop} : T (setMc n (some c)) st Q = Q () (st.set n c) := rfl
@[simp] theorem t_alloc {c : Cell} {Q : D → Store → Prop} : T (M.alloc c) st Q = Q (.ref st.length) (st ++ [c]) := rfl
@[simp] theorem t_stuck {Q : α → Store → Prop} : T (M.stuck : M α) st Q = False := rfl
@[simp] theorem t_noX {m : M α} {Q : α → Store → Prop} : T (noX m) st Q = T m st Q := by
  unfold T noX
  cases m st <;> rfl
@[simp] theorem big_lt' : (n < big) = (n < 16000000) := rfl
@[simp] theorem big_eq : (n ≤ big) = (n ≤ 16000000) := rfl
def lcl : Option Cell → M (List D)
  | some (.lst ds) => pure ds
  | _ => M.stuck
@[simp] theorem lcl_s {ds : List D} : lcl (some (.lst ds)) = pure ds := rfl
@[simp] theorem t_lstr {n : Nat} {Q : List D → Store → Prop} : T (lstOf (.ref n)) st Q = T (lcl st[n]?) st Q := by
  unfold T
  show wpR (match st[n]? with | some (.lst ds) => R.ok ds st | _ => .stuck) Q _ = _
  cases h : st[n]? with
  | none => rfl
  | some c => cases c <;> rfl
@[simp] theorem tuple_r {n : Nat} : biTuple (.ref n) = lstOf (.ref n) >>= fun ds => pure (.tup ds) := rfl
@[simp] theorem list_r {n : Nat} : biList (.ref n) = lstOf (.ref n) >>= fun ds => pure (.lst ds) := rfl
@[simp] theorem sl_r {n : Nat} {lo hi : Option Int} : opSl lo hi (.ref n) = lstOf (.ref n) >>= fun ds => pure (.lst (cutL ds lo hi)) := rfl
def isl : Option Cell → M Unit
  | some (.lst _) => pure ()
  | _ => M.stuck
@[simp] theorem isl_s {ds : List D} : isl (some (.lst ds)) = pure () := rfl
@[simp] theorem t_isl {n : Nat} {Q : Unit → Store → Prop} : T (isTy "list" (.ref n)) st Q = T (isl st[n]?) st Q := by
  unfold T
  show wpR (match st[n]? with | some (.lst _) => R.ok () st | _ => .stuck) Q _ = _
  cases h : st[n]? with
  | none => rfl
  | some c => cases c <;> rfl
def wrc (n : Nat) (c : Cell) : M D := fun st => .ok .non (st.set n c)
def apc (n : Nat) (v : D) : Option Cell → M D
  | some (.lst ds) => guardM (decide (ds.length < big)) (wrc n (.lst (ds ++ [v])))
  | _ => M.stuck
@[simp] theorem t_app {n : Nat} {v : D} {Q : D → Store → Prop} : T (mAppend (.ref n) [v]) st Q = T (apc n v st[n]?) st Q := by
  unfold T
  show wpR (match st[n]? with | some (.lst ds) => bif decide (ds.length < big) then R.ok .non (st.set n (.lst (ds ++ [v]))) else .stuck | _ => .stuck) Q _ = _
  cases h : st[n]? with
  | none => rfl
  | some c =>
    cases c with
    | lst ds =>
      show wpR (bif decide (ds.length < big) then R.ok D.non (st.set n (.lst (ds ++ [v]))) else .stuck) Q _ = wpR (guardM (decide (ds.length < big)) (wrc n (.lst (ds ++ [v]))) st) Q _
      cases decide (ds.length < big) <;> rfl
    | _ => rfl
@[simp] theorem t_apc {n : Nat} {v : D} {ds : List D} {Q : D → Store → Prop} : T (apc n v (some (.lst ds))) st Q = (ds.length < big ∧ Q .non (st.set n (.lst (ds ++ [v])))) := by
  show T (guardM (decide (ds.length < big)) (wrc n (.lst (ds ++ [v])))) st Q = _
  rw [t_guard, decide_eq_true_eq]
  rfl
theorem set_get {n : Nat} {c c' : Cell} (h : st[n]? = some c) : (st.set n c')[n]? = some c' := List.getElem?_set_self (List.getElem?_eq_some_iff.mp h).1
end
def RetQ (Q : D → Store → Prop) : Fl → Store → Prop
  | .nx _, s => Q .non s
  | .rt d, s => Q d s
  | _, _ => False
@[simp] theorem retQ_rt {Q : D → Store → Prop} {d : D} {s : Store} : RetQ Q (.rt d) s = Q d s := rfl
@[simp] theorem retQ_nx {Q : D → Store → Prop} {ρ : Env} {s : Store} : RetQ Q (.nx ρ) s = Q .non s := rfl
section
variable {n i : Nat} {b : DenS} {ds : List D} {st : Store} {f : Den} {f' g' g h k : DenS} {c : DenB} {ρ : Env} {js : List Nat} {fs : DenL}
theorem t_run {Q : D → Store → Prop} : T (runDef n b ds) st Q = T (b (ds.map some ++ List.replicate (n - ds.length) none)) st (RetQ Q) := by
  unfold runDef
  rw [t_bind]
  congr 1
  funext r s
  cases r <;> rfl
variable {Q : Fl → Store → Prop}
theorem t_asg : T (dSeq (dAsg f (gSet i)) g ρ) st Q = T (f ρ) st (fun d s => T (g (ρ.set i (some d))) s Q) := by
  unfold dSeq dAsg gSet
  simp only [t_bind, t_pure]
theorem t_asg1 : T (dAsg f (gSet i) ρ) st Q = T (f ρ) st (fun d s => Q (.nx (ρ.set i (some d))) s) := by
  unfold dAsg gSet
  simp only [t_bind, t_pure]
theorem t_ifs : T (dSeq (dIfS c f' g') k ρ) st Q = T (c ρ) st (fun b s => (b = true → T (dSeq f' k ρ) s Q) ∧ (b = false → T (dSeq g' k ρ) s Q)) := by
  unfold dSeq dIfS
  simp only [t_bind]
  congr 1
  funext b s
  cases b <;> simp
theorem t_ifs1 : T (dIfS c g h ρ) st Q = T (c ρ) st (fun b s => (b = true → T (g ρ) s Q) ∧ (b = false → T (h ρ) s Q)) := by
  unfold dIfS
  simp only [t_bind]
  congr 1
  funext b s
  cases b <;> simp
@[simp] theorem t_skip : T (dSeq dSkip g ρ) st Q = T (g ρ) st Q := by
  unfold dSeq dSkip
  simp only [t_bind, t_pure]
@[simp] theorem t_skip1 : T (dSkip ρ) st Q = Q (.nx ρ) st := rfl
theorem t_ret : T (dSeq (dRet f) g ρ) st Q = T (f ρ) st (fun d s => Q (.rt d) s) := by
  unfold dSeq dRet
  simp only [t_bind, t_pure]
theorem t_ret1 : T (dRet f ρ) st Q = T (f ρ) st (fun d s => Q (.rt d) s) := by
  unfold dRet
  simp only [t_bind, t_pure]
theorem t_retN : T (dRetN ρ) st Q = Q (.rt .non) st := rfl
theorem t_seq : T (dSeq (dSeq g h) k ρ) st Q = T (dSeq g (dSeq h k) ρ) st Q := by
  unfold dSeq
  simp only [t_bind]
  congr 1
  funext r s
  cases r <;> simp
theorem t_tg {t : Tg} : T (dSeq (dAsg f (gOf t)) g ρ) st Q = T (f ρ) st (fun d s => T (optE (t.bind d ρ)) s fun ρ' s => T (g ρ') s Q) := by
  unfold dSeq dAsg gOf
  simp only [t_bind, t_pure]
@[simp] theorem tgb2 {i j : Nat} {a b : D} {ρ : Env} : Tg.bind (.tup [.nm i, .nm j]) (.tup [a, b]) ρ = some ((ρ.set i (some a)).set j (some b)) := by simp [Tg.bind, Tgs.bind]
@[simp] theorem tgb3 {i j l : Nat} {a b c : D} {ρ : Env} : Tg.bind (.tup [.nm i, .nm j, .nm l]) (.tup [a, b, c]) ρ = some (((ρ.set i (some a)).set j (some b)).set l (some c)) := by simp [Tg.bind, Tgs.bind]
@[simp] theorem optE_s {ρ : Env} : optE (some ρ) = pure ρ := rfl
theorem t_par : T (dSeq (dPar js fs) g ρ) st Q = T (fs ρ) st (fun ds s => ds.length = js.length ∧ T (g ((js.zip ds).foldl (fun r p => r.set p.1 (some p.2)) ρ)) s Q) := by
  unfold dSeq dPar
  simp only [t_bind]
  congr 1
  funext ds s
  cases q : ds.length == js.length with
  | true => simp [eq_of_beq q]
  | false => simp; intro e; rw [e, beq_self_eq_true] at q; cases q
theorem t_exp : T (dSeq (dExpr f) g ρ) st Q = T (f ρ) st (fun _ s => T (g ρ) s Q) := by
  unfold dSeq dExpr
  simp only [t_bind, t_pure]
theorem t_for1 {it : DenI} {gt : DenG} : T (dFor it gt b ρ) st Q = T (it ρ) st (fun ds s => T (forL (fun d ρ => gt d ρ >>= b) ds ρ) s Q) := by
  unfold dFor
  simp only [t_bind]
theorem t_exp1 : T (dExpr f ρ) st Q = T (f ρ) st (fun _ s => Q (.nx ρ) s) := by
  unfold dExpr
  simp only [t_bind, t_pure]
@[simp] theorem gOf_nm {i : Nat} {d : D} : gOf (.nm i) d ρ = pure (ρ.set i (some d)) := rfl
theorem t_for {it : DenI} {gt : DenG} : T (dSeq (dFor it gt b) g ρ) st Q = T (it ρ) st (fun ds s => T (forL (fun d ρ => gt d ρ >>= b) ds ρ) s fun r s => T (match r with | .nx ρ' => g ρ' | .rt d => pure (.rt d) | .bk ρ' => pure (.bk ρ') | .ct ρ' => pure (.ct ρ')) s Q) := by
  unfold dSeq dFor
  simp only [t_bind] <;> rfl
/-- a loop that always goes on -/
theorem forL_inv {b : D → DenS} {I : Env → Store → Prop} : ∀ {ds : List D} {ρ : Env} {st : Store}, I ρ st → (∀ d ∈ ds, ∀ ρ st, I ρ st → T (b d ρ) st (fun r s => ∃ ρ', r = .nx ρ' ∧ I ρ' s)) → T (forL b ds ρ) st (fun r s => ∃ ρ', r = .nx ρ' ∧ I ρ' s)
  | [], ρ, st, h, _ => ⟨ρ, rfl, h⟩
  | d :: ds, ρ, st, h, k => by
    unfold forL
    rw [t_bind]
    refine (k d List.mem_cons_self ρ st h).mono fun r s hr => ?_
    obtain ⟨ρ', rfl, h'⟩ := hr
    exact forL_inv h' fun x hx => k x (List.mem_cons_of_mem _ hx)
end
theorem lg2 {n k : Nat} (h : n < 2 ^ k) (hk : 0 < k) : n.log2 < k := by
  by_cases h0 : n = 0
  · subst h0; simpa using hk
  · exact (Nat.log2_lt h0).mpr h
theorem lg {x : Int} (h0 : 0 ≤ x) (h : x < 1152921504606846976) : x.natAbs.log2 < 60 := lg2 (by omega) (by decide)
section
variable {i j : Int} {xs ys ds : List D} {a b : Str} {p : Int → Int → Bool} {bb : Bool} {k : D} {lo hi : Option Int}
@[simp] theorem add_ii : opAdd (.int i) (.int j) = pure (.int (i + j)) := rfl
@[simp] theorem add_ss : opAdd (.str a) (.str b) = guardM (decide (a.length + b.length ≤ big)) (pure (.str (a ++ b))) := rfl
@[simp] theorem add_tt : opAdd (.tup xs) (.tup ys) = guardM (decide (xs.length + ys.length ≤ big)) (pure (.tup (xs ++ ys))) := rfl
@[simp] theorem add_ll : opAdd (.lst xs) (.lst ys) = guardM (decide (xs.length + ys.length ≤ big)) (pure (.lst (xs ++ ys))) := rfl
@[simp] theorem sub_ii : opSub (.int i) (.int j) = pure (.int (i - j)) := rfl
@[simp] theorem mul_ii : opMul (.int i) (.int j) = guardM (decide (i.natAbs.log2 + j.natAbs.log2 < 1000000)) (pure (.int (i * j))) := rfl
@[simp] theorem mul_li : opMul (.lst xs) (.int i) = guardM (decide (-(2 ^ 63) ≤ i ∧ i < 2 ^ 63 ∧ xs.length * i.toNat ≤ big)) (pure (.lst (List.replicate i.toNat xs).flatten)) := rfl
@[simp] theorem mul_ti : opMul (.tup xs) (.int i) = guardM (!xs.isEmpty && decide (2 ≤ i ∧ i ≤ 1000 ∧ xs.length ≤ 1000)) (pure (.tup (List.replicate i.toNat xs).flatten)) := rfl
@[simp] theorem div_ii : opDiv (.int i) (.int j) = guardM (decide (0 < j ∧ j.natAbs.log2 < 9000)) (pure (.int (i / j))) := rfl
@[simp] theorem mod_ii : opMod (.int i) (.int j) = guardM (decide (0 < j)) (pure (.int (i % j))) := rfl
@[simp] theorem pow_ii : opPow (.int i) (.int j) = guardM (decide (0 ≤ j ∧ j ≤ 1000000 ∧ i.natAbs < 2 ^ 64)) (pure (.int (i ^ j.toNat))) := rfl
@[simp] theorem neg_i : opNeg (.int i) = pure (.int (-i)) := rfl
@[simp] theorem cmp_ii : opCmp p (.int i) (.int j) = pure (.bl (p i j)) := rfl
@[simp] theorem int_i : biInt (.int i) = pure (.int i) := rfl
@[simp] theorem int_b : biInt (.bl bb) = pure (.int (if bb then 1 else 0)) := rfl
@[simp] theorem abs_i : biAbs (.int i) = pure (.int (if i < 0 then -i else i)) := rfl
@[simp] theorem min_ii : biMin (.int i) (.int j) = pure (.int (if j < i then j else i)) := rfl
@[simp] theorem max_ii : biMax (.int i) (.int j) = pure (.int (if j > i then j else i)) := rfl
@[simp] theorem len_t : biLen (.tup xs) = pure (.int xs.length) := rfl
@[simp] theorem len_l : biLen (.lst xs) = pure (.int xs.length) := rfl
@[simp] theorem len_c {ns : List Int} : biLen (.scr ns) = pure (.int ns.length) := rfl
@[simp] theorem clen_l : cellLen (some (.lst xs)) = pure (.int xs.length) := rfl
@[simp] theorem cix_l : ixCell (some (.lst xs)) (.int i) = optM (atI xs i) := rfl
@[simp] theorem ix_t : opIx (.tup xs) (.int i) = optM (atI xs i) := rfl
@[simp] theorem ix_l : opIx (.lst xs) (.int i) = optM (atI xs i) := rfl
@[simp] theorem ix_c {ns : List Int} : opIx (.scr ns) (.int i) = optM ((atI ns i).map D.int) := rfl
@[simp] theorem optM_s {d : D} : optM (some d) = pure d := rfl
@[simp] theorem optM_n : optM none = M.stuck := rfl
@[simp] theorem setc_l : setCell (some (.lst xs)) (.int i) k = (ixN xs.length i).map fun j => .lst (xs.set j k) := rfl
@[simp] theorem sl_t : opSl lo hi (.tup xs) = pure (.tup (cutL xs lo hi)) := rfl
@[simp] theorem sl_l : opSl lo hi (.lst xs) = pure (.lst (cutL xs lo hi)) := rfl
@[simp] theorem asI_i : asI (.int i) = pure (some i) := rfl
@[simp] theorem asB_b : asB (.bl bb) = pure bb := rfl
@[simp] theorem list_t : biList (.tup xs) = pure (.lst xs) := rfl
@[simp] theorem list_l : biList (.lst xs) = pure (.lst xs) := rfl
@[simp] theorem tuple_l : biTuple (.lst xs) = pure (.tup xs) := rfl
@[simp] theorem tuple_t : biTuple (.tup xs) = pure (.tup xs) := rfl
@[simp] theorem dict_ix {ks : List Key} : opIx (.dic ks ds) k = ixCell (some (.dic ks ds)) k := rfl
@[simp] theorem cix_ds {ks : List Key} : ixCell (some (.dic ks ds)) (.str a) = optM (dget ks ds (.inr a)) := rfl
@[simp] theorem items_l : itemsOf (.lst xs) = pure xs := rfl
@[simp] theorem items_t : itemsOf (.tup xs) = pure xs := rfl
@[simp] theorem rng1_i : rng1 [.int i] = (bif decide (-(2 ^ 62) ≤ i ∧ i < 2 ^ 62) then pure (rangeL 0 i) else M.stuck) := rfl
end
@[simp] theorem at2_0 {a b : D} : atI [a, b] 0 = some a := rfl
@[simp] theorem at2_1 {a b : D} : atI [a, b] 1 = some b := rfl
@[simp] theorem at1_0 {a : D} : atI [a] 0 = some a := rfl
@[simp] theorem at3_0 {a b c : D} : atI [a, b, c] 0 = some a := rfl
@[simp] theorem at3_1 {a b c : D} : atI [a, b, c] 1 = some b := rfl
@[simp] theorem at3_2 {a b c : D} : atI [a, b, c] 2 = some c := rfl
@[simp] theorem ix2_0 : ixN 2 0 = some 0 := rfl
@[simp] theorem ix2_1 : ixN 2 1 = some 1 := rfl
theorem at_zero {α : Type} {a : α} {r : List α} : atI (a :: r) 0 = some a := by
  unfold atI ixN
  rw [if_pos (by omega), if_pos (by simp)]; rfl
theorem at_one {α : Type} {a b : α} {r : List α} : atI (a :: b :: r) 1 = some b := by
  unfold atI ixN
  rw [if_pos (by omega), if_pos (by simp only [List.length_cons]; omega)]; rfl
theorem at_two {α : Type} {a b c : α} {r : List α} : atI (a :: b :: c :: r) 2 = some c := by
  unfold atI ixN
  rw [if_pos (by omega), if_pos (by simp only [List.length_cons]; omega)]; rfl
@[simp] theorem cond_bl {c x y : Bool} : (cond c (D.bl x) (D.bl y)) = D.bl (cond c x y) := by cases c <;> rfl
@[simp] theorem at0n {α : Type} : atI ([] : List α) 0 = none := rfl
@[simp] theorem at1n {α : Type} {a : α} : atI [a] 1 = none := rfl
end MP

namespace MP
open PySem L2
open PySem.Spec PyProof.Rows
/-! ## values that == reads, and how deep they are -/
structure Dep (k : Nat) (d : D) : Prop where
  ok : d.okD = true
  dp : d.py.depth ≤ k
theorem Dep.mono {j k : Nat} {d : D} (h : Dep j d) (q : j ≤ k) : Dep k d := ⟨h.ok, Nat.le_trans h.dp q⟩
theorem Dep.sh {d : D} (h : Dep 64 d) : d.sh = true := by
  unfold D.sh
  rw [h.ok, Bool.true_and]
  exact decide_eq_true h.dp
@[simp] theorem dep_int {k : Nat} {i : Int} : Dep k (.int i) := ⟨rfl, by simp [D.py, PyData.depth]⟩
@[simp] theorem dep_bl {k : Nat} {b : Bool} : Dep k (.bl b) := ⟨rfl, by simp [D.py, PyData.depth]⟩
@[simp] theorem dep_non {k : Nat} : Dep k .non := ⟨rfl, by simp [D.py, PyData.depth]⟩
@[simp] theorem dep_str {k : Nat} {s : Str} (h : PyData.strOk s = true) : Dep k (.str s) := ⟨h, by simp [D.py, PyData.depth]⟩
theorem depthAll_le {k : Nat} : ∀ {ds : List D}, (∀ d ∈ ds, d.py.depth ≤ k) ↔ PyData.depthAll (pys ds) ≤ k
  | [] => by simp [pys, PyData.depthAll]
  | d :: ds => by
    have := depthAll_le (k := k) (ds := ds)
    simp only [pys, PyData.depthAll, List.mem_cons, forall_eq_or_imp, this]
    omega
@[simp] theorem dep_tup {k : Nat} {ds : List D} : Dep (k + 1) (.tup ds) ↔ ∀ d ∈ ds, Dep k d := by
  constructor
  · intro h d hd
    have h1 : okDs ds = true := h.ok
    rw [okDs_all, List.all_eq_true] at h1
    have h2 : PyData.depthAll (pys ds) + 1 ≤ k + 1 := by have := h.dp; simpa [D.py, PyData.depth] using this
    exact ⟨h1 d hd, depthAll_le.mpr (by omega) d hd⟩
  · intro h
    refine ⟨by show okDs ds = true; rw [okDs_all, List.all_eq_true]; exact fun d hd => (h d hd).ok, ?_⟩
    have := (depthAll_le (k := k) (ds := ds)).mp fun d hd => (h d hd).dp
    simp only [D.py, PyData.depth]; omega
@[simp] theorem dep_lst {k : Nat} {ds : List D} : Dep (k + 1) (.lst ds) ↔ ∀ d ∈ ds, Dep k d := by
  constructor
  · intro h d hd
    have h1 : okDs ds = true := h.ok
    rw [okDs_all, List.all_eq_true] at h1
    have h2 : PyData.depthAll (pys ds) + 1 ≤ k + 1 := by have := h.dp; simpa [D.py, PyData.depth] using this
    exact ⟨h1 d hd, depthAll_le.mpr (by omega) d hd⟩
  · intro h
    refine ⟨by show okDs ds = true; rw [okDs_all, List.all_eq_true]; exact fun d hd => (h d hd).ok, ?_⟩
    have := (depthAll_le (k := k) (ds := ds)).mp fun d hd => (h d hd).dp
    simp only [D.py, PyData.depth]; omega
theorem dep_tnil {k : Nat} : Dep (k + 1) (.tup []) := dep_tup.mpr fun _ h => by cases h
theorem Dep.pos_t {k : Nat} {ds : List D} (h : Dep k (.tup ds)) : 0 < k := by have := h.dp; simp only [D.py, PyData.depth] at this; omega
theorem Dep.pos_l {k : Nat} {ds : List D} (h : Dep k (.lst ds)) : 0 < k := by have := h.dp; simp only [D.py, PyData.depth] at this; omega
theorem Dep.items {k : Nat} {ds : List D} (h : Dep k (.tup ds)) {d : D} (hd : d ∈ ds) : Dep (k - 1) d := by
  obtain ⟨j, rfl⟩ : ∃ j, k = j + 1 := ⟨k - 1, by have := h.pos_t; omega⟩
  exact dep_tup.mp h d hd
theorem Dep.itemsL {k : Nat} {ds : List D} (h : Dep k (.lst ds)) {d : D} (hd : d ∈ ds) : Dep (k - 1) d := by
  obtain ⟨j, rfl⟩ : ∃ j, k = j + 1 := ⟨k - 1, by have := h.pos_l; omega⟩
  exact dep_lst.mp h d hd
theorem dataOf_ok {d : D} (h : d.okD = true) : dataOf d = pure d := by
  cases d <;> first | rfl | cases h
theorem eq_of {neg : Bool} {x y : D} (hx : Dep 64 x) (hy : Dep 64 y) : opEq neg x y = pure (.bl (if neg then !deq x y else deq x y)) := by
  unfold opEq
  rw [dataOf_ok hx.ok, dataOf_ok hy.ok]
  simp [hx.sh, hy.sh, guardM]
theorem in_of {neg : Bool} {x : D} {es : List D} (hx : Dep 64 x) (hy : Dep 64 (.tup es)) : opIn neg x (.tup es) = pure (.bl (if neg then !(es.any fun z => deq z x) else es.any fun z => deq z x)) := by
  have e : opIn neg x (.tup es) = dataOf x >>= fun a => guardM (a.sh && (D.tup es).sh) (pure (.bl (if neg then !(es.any fun z => deq z a) else es.any fun z => deq z a))) := by cases x <;> rfl
  rw [e, dataOf_ok hx.ok]
  simp [hx.sh, hy.sh, guardM]
theorem in_ofL {neg : Bool} {x : D} {es : List D} (hx : Dep 64 x) (hy : Dep 64 (.lst es)) : opIn neg x (.lst es) = pure (.bl (if neg then !(es.any fun z => deq z x) else es.any fun z => deq z x)) := by
  have e : opIn neg x (.lst es) = dataOf x >>= fun a => guardM (a.sh && (D.lst es).sh) (pure (.bl (if neg then !(es.any fun z => deq z a) else es.any fun z => deq z a))) := by cases x <;> rfl
  rw [e, dataOf_ok hx.ok]
  simp [hx.sh, hy.sh, guardM]
mutual
theorem deq_refl : ∀ {d : D}, d.okD = true → deq d d = true
  | .non, _ => by simp [deq, D.py, PyData.eqv]
  | .bl b, _ => by simp [deq, D.py, PyData.eqv]
  | .int i, _ => by simp [deq, D.py, PyData.eqv]
  | .str s, _ => by simp [deq, D.py, PyData.eqv]
  | .tup ds, h => by
    have := deqs_refl (ds := ds) h
    simpa [deq, D.py, PyData.eqv] using this
  | .lst ds, h => by
    have := deqs_refl (ds := ds) h
    simpa [deq, D.py, PyData.eqv] using this
  | .dic _ _, h => by cases h
  | .scr _, h => by cases h
  | .ref _, h => by cases h
theorem deqs_refl : ∀ {ds : List D}, okDs ds = true → PyData.eqvAll (pys ds) (pys ds) = true
  | [], _ => by simp [pys, PyData.eqvAll]
  | d :: ds, h => by
    have h' : (d.okD && okDs ds) = true := h
    rw [Bool.and_eq_true] at h'
    have e1 := deq_refl h'.1
    have e2 := deqs_refl h'.2
    unfold deq at e1
    simp [pys, PyData.eqvAll, e1, e2]
end
def isS (s : Str) : D → Bool
  | .str t => t == s
  | _ => false
@[simp] theorem deq_sr {d : D} {s : Str} : deq d (.str s) = isS s d := by cases d <;> simp [deq, D.py, PyData.eqv, isS]
@[simp] theorem deq_sl {d : D} {s : Str} : deq (.str s) d = isS s d := by
  cases d <;> simp [deq, D.py, PyData.eqv, isS]
  first | exact BEq.comm | exact Bool.eq_iff_iff.mpr (by simp [eq_comm])
def isNil : D → Bool
  | .tup [] => true
  | _ => false
@[simp] theorem deq_nil {d : D} : deq d (.tup []) = isNil d := by
  cases d with
  | tup ds => cases ds <;> simp [deq, D.py, pys, PyData.eqv, PyData.eqvAll, isNil]
  | _ => simp [deq, D.py, pys, PyData.eqv, isNil]
@[simp] theorem deq_ii {i j : Int} : deq (.int i) (.int j) = (i == j) := by simp [deq, D.py, PyData.eqv]
@[simp] theorem deq_bb {i j : Bool} : deq (.bl i) (.bl j) = (i == j) := by simp [deq, D.py, PyData.eqv]
@[simp] theorem deq_tt {xs ys : List D} : deq (.tup xs) (.tup ys) = PyData.eqvAll (pys xs) (pys ys) := by simp [deq, D.py, PyData.eqv]
@[simp] theorem deq_ll {xs ys : List D} : deq (.lst xs) (.lst ys) = PyData.eqvAll (pys xs) (pys ys) := by simp [deq, D.py, PyData.eqv]
@[simp] theorem eqvAll_cons {x y : D} {xs ys : List D} : PyData.eqvAll (pys (x :: xs)) (pys (y :: ys)) = (deq x y && PyData.eqvAll (pys xs) (pys ys)) := by simp [pys, PyData.eqvAll, deq]
@[simp] theorem eqvAll_nil : PyData.eqvAll (pys []) (pys []) = true := by simp [pys, PyData.eqvAll]
@[simp] theorem eqvAll_nc {x : D} {xs : List D} : PyData.eqvAll (pys []) (pys (x :: xs)) = false := by simp [pys, PyData.eqvAll]
@[simp] theorem eqvAll_cn {x : D} {xs : List D} : PyData.eqvAll (pys (x :: xs)) (pys []) = false := by simp [pys, PyData.eqvAll]
theorem eq_of_T {α : Type} {m : M α} {r : α} (h : ∀ st, T m st fun d s => d = r ∧ s = st) : m = pure r := by
  funext st
  obtain ⟨a, s, e, rfl, rfl⟩ := (h st).get
  exact e
@[simp] theorem guardM_t {m : M D} : guardM true m = m := rfl
@[simp] theorem q_ii {neg : Bool} {i j : Int} : opEq neg (.int i) (.int j) = pure (.bl (if neg then !(i == j) else i == j)) := by rw [eq_of dep_int dep_int]; simp
@[simp] theorem q_bb {neg : Bool} {i j : Bool} : opEq neg (.bl i) (.bl j) = pure (.bl (if neg then !(i == j) else i == j)) := by rw [eq_of dep_bl dep_bl]; simp
theorem q_s {neg : Bool} {a : D} {s : Str} (h : Dep 64 a) (hs : PyData.strOk s = true) : opEq neg a (.str s) = pure (.bl (if neg then !isS s a else isS s a)) := by rw [eq_of h (dep_str hs)]; simp
/-! ## kinds of values -/
def isI : D → Bool
  | .int _ => true
  | _ => false
def isB : D → Bool
  | .bl _ => true
  | _ => false
def isSt : D → Bool
  | .str _ => true
  | _ => false
def isTu : D → Bool
  | .tup _ => true
  | _ => false
theorem isi_int {d : D} (h : d.okD = true) : opIsi "int" d = pure (.bl (isI d || isB d)) := by cases d <;> first | rfl | cases h
theorem isi_bool {d : D} (h : d.okD = true) : opIsi "bool" d = pure (.bl (isB d)) := by cases d <;> first | rfl | cases h
theorem isi_str {d : D} (h : d.okD = true) : opIsi "str" d = pure (.bl (isSt d)) := by cases d <;> first | rfl | cases h
theorem isi_tuple {d : D} (h : d.okD = true) : opIsi "tuple" d = pure (.bl (isTu d)) := by cases d <;> first | rfl | cases h
@[simp] theorem noX_pure {α : Type} {a : α} : noX (pure a : M α) = pure a := rfl
theorem lc_map {t : Tg} {c : DenB} {f : Den} {ρ : Env} {p : D → Bool} {g : D → D} : ∀ {ds : List D}, (∀ d ∈ ds, ∃ ρ1, t.bind d ρ = some ρ1 ∧ c ρ1 = pure (p d) ∧ (p d = true → f ρ1 = pure (g d))) → lcL t c f ρ ds = pure ((ds.filter p).map g)
  | [], _ => rfl
  | d :: ds, h => by
    obtain ⟨ρ1, h1, h2, h3⟩ := h d List.mem_cons_self
    have ih := lc_map (ds := ds) fun x hx => h x (List.mem_cons_of_mem _ hx)
    unfold lcL
    rw [h1]
    simp only [optB, h2, noX_pure, pure_bind]
    cases hp : p d with
    | true => simp [h3 hp, ih, List.filter_cons, hp]
    | false => simp [ih, List.filter_cons, hp]
end MP

namespace MP
open PySem L2
open PySem.Spec PyProof.Rows
/-! ## zip of two sequences, each a list or a tuple -/
/-- true: a tuple -/
def ItAt (k : Bool) (h : Heap) (it l : Addr) (i : Nat) : Prop := if k then h.IsTupleIter it l i else h.IsListIter it l i
def SeqAt (k : Bool) (h : Heap) (l : Addr) (xs : Array Value) : Prop := if k then h.IsTuple l xs else h.IsList l xs
def SqX (K : Frag) (k : Bool) (H : Hp) (a : Addr) (xs : List V) : Prop := if k then SqT K H a xs else SqL K H a xs
section
variable {prog : Program} {w : World} {A : Around} {E : Value → Shared → Prop} {s : Shared} {k k' : Bool}
theorem ItAt.eb {b : Addr} {h h' : Heap} {it l : Addr} {i : Nat} (x : ItAt k h it l i) (e : Heap.ExtBut b h h') (n : it ≠ b) : ItAt k h' it l i := by
  cases k
  · exact Heap.IsListIter.extBut x e n
  · exact Heap.IsTupleIter.extBut x e n
theorem ItAt.ob {h h' : Heap} {it l : Addr} {i : Nat} (x : ItAt k h it l i) (e : ∀ o, h.get? it = some o → h'.get? it = some o) : ItAt k h' it l i := by
  cases k
  · exact Heap.IsListIter.at x e
  · exact Heap.IsTupleIter.at x e
theorem ItAt.obj {h : Heap} {it l : Addr} {i : Nat} (x : ItAt k h it l i) : ∃ o, h.get? it = some o ∧ ∀ v, o.data ≠ .cell v := by
  cases k <;> obtain ⟨o, e, _, d⟩ := x <;> exact ⟨o, e, fun v q => by rw [d] at q; cases q⟩
theorem ItAt.lt {h : Heap} {it l : Addr} {i : Nat} (x : ItAt k h it l i) : it < h.objs.size := let ⟨_, e, _⟩ := x.obj; Heap.lt_size e
theorem SeqAt.eb {b : Addr} {h h' : Heap} {l : Addr} {xs : Array Value} (x : SeqAt k h l xs) (e : Heap.ExtBut b h h') (n : l ≠ b) : SeqAt k h' l xs := by
  cases k
  · exact Heap.IsList.extBut x e n
  · exact Heap.IsTuple.extBut x e n
theorem SeqAt.push {h : Heap} {l : Addr} {xs : Array Value} (x : SeqAt k h l xs) (o : Obj) : SeqAt k (h.push o) l xs := by
  cases k
  · exact Heap.IsList.push x o
  · exact Heap.IsTuple.push x o
theorem SeqAt.lt {h : Heap} {l : Addr} {xs : Array Value} (x : SeqAt k h l xs) : l < h.objs.size := by
  cases k <;> obtain ⟨o, e, _⟩ := x <;> exact Heap.lt_size e
theorem next_ok {it l : Addr} {i : Nat} {xs : Array Value} {x : Value} {Q : Value → Shared → Prop} (hi : ItAt k s.heap it l i) (hl : SeqAt k s.heap l xs) (hx : xs[i]? = some x)
    (q : ∀ h', ItAt k h' it l (i + 1) → Heap.SameBut it s.heap h' → Q x { s with heap := h' }) : wpAny (model prog w) A (Builtin.SmallTypes.nextOf (.ref it)) Q E s := by
  cases k
  · exact wpAny_nextOf_list_item hi hl hx q
  · exact RZ.nextOf_tuple_item hi hl hx q
theorem next_no {it l : Addr} {i : Nat} {xs : Array Value} {Q : Value → Shared → Prop} (hh : A.handled = none) (hi : ItAt k s.heap it l i) (hl : SeqAt k s.heap l xs) (hx : xs[i]? = none)
    (q : ∀ h' e, Heap.ExtBut it s.heap h' → (∃ o, h'.get? e = some o ∧ o.cls = .type "StopIteration") → E (.ref e) { s with heap := h' }) : wpAny (model prog w) A (Builtin.SmallTypes.nextOf (.ref it)) Q E s := by
  cases k
  · exact wpAny_nextOf_list_end hh hi hl hx q
  · exact RZ.nextOf_tuple_end hh hi hl hx q
/-- where a zip's things stand -/
structure ZAt (h : Heap) (z p r i j l m : Addr) (k k' : Bool) (n : Nat) (f : Value) : Prop where
  zip : IsZip h z p r f
  its : IsPair h p (.ref i) (.ref j)
  out : ∃ a b, IsPair h r a b
  i1 : ItAt k h i l n
  i2 : ItAt k' h j m n
def Kept (z r i j : Addr) (h h' : Heap) : Prop := ∀ c o, c ≠ z → c ≠ r → c ≠ i → c ≠ j → h.get? c = some o → h'.get? c = some o
theorem zip_yes {z p r i j l m : Addr} {n : Nat} {xs ys : Array Value} {x y : Value} {Q : Value → Shared → Prop} (D : ZipApart z p r i j l m) (Z : ZAt s.heap z p r i j l m k k' n .none)
    (hl : SeqAt k s.heap l xs) (hm : SeqAt k' s.heap m ys) (hx : xs[n]? = some x) (hy : ys[n]? = some y)
    (q : ∀ h', ZAt h' z p r i j l m k k' (n + 1) (rawInt s.heap.objs.size) → IsPair h' s.heap.objs.size x y → h'.objs.size = s.heap.objs.size + 1 → Kept z r i j s.heap h' → Q (.ref s.heap.objs.size) { s with heap := h' }) :
    wpAny (model prog w) A (Builtin.«zip.__next__» ⟨[.ref z], []⟩) (fun fin s' => ∃ v, fin = .done (.ret v) ∧ Q v s') E s := by
  obtain ⟨hz, hp, ⟨a, b, hr⟩, hi, hj⟩ := Z
  show wpAny _ _ (field (.ref z) 2 >>= _) _ _ _; refine wpAny_bind (wpAny_field hz rfl (x := .bool false) rfl ?_)
  show wpAny _ _ (field (.ref z) 3 >>= _) _ _ _; refine wpAny_bind (wpAny_field hz rfl (x := .ref p) rfl ?_)
  refine wpAny_bind (wpAny_seqItems hp rfl ?_); show wpAny _ _ (Builtin.SmallTypes.ownedTupleIsFree (.ref z) >>= _) _ _ _
  apply wpAny_bind; unfold Builtin.SmallTypes.ownedTupleIsFree; refine wpAny_bind (wpAny_field hz rfl (x := .none) rfl (wpAny_pure ?_))
  simp only [if_true]; apply wpAny_bind; refine wpAny_rule ?_
  refine wpAny_bind (wpAny_field hz rfl (x := .ref r) rfl ?_)
  refine wpAny_bind (wpAny_setField_rec hz (by simp) fun g1 z1 s1 => ?_); have z1 : IsZip g1 z p r .ellipsis := z1
  apply wpAny_bind; simp only [List.zipIdx_cons, List.zipIdx_nil, List.forIn_cons, List.forIn_nil]
  apply wpAny_bind; apply wpAny_bind; refine wpAny_onRaise ?_; show wpAny _ _ (Builtin.SmallTypes.nextOf (.ref i) >>= _) _ _ _
  refine wpAny_bind (next_ok (hi.eb s1.extBut D.i1z) (hl.eb s1.extBut D.l1z) hx fun g2 i2 s2 => wpAny_pure ?_)
  have r2 : IsPair g2 r a b := s2.extBut _ _ D.TOi1 (s1.extBut _ _ D.TOz hr)
  refine wpAny_bind (wpAny_seqItems r2 rfl ?_); refine wpAny_bind (wpAny_updateSeq_pair r2 fun g3 r3 s3 => ?_); have r3 : IsPair g3 r x b := r3
  refine wpAny_bind (wpAny_letGo (wpAny_pure ?_)); apply wpAny_bind; apply wpAny_bind; refine wpAny_onRaise ?_
  show wpAny _ _ (Builtin.SmallTypes.nextOf (.ref j) >>= _) _ _ _
  refine wpAny_bind (next_ok (((hj.eb s1.extBut D.i2z).eb s2.extBut D.i12.symm).eb s3.extBut D.TOi2.symm) (((hm.eb s1.extBut D.l2z).eb s2.extBut D.l2i1).eb s3.extBut D.l2TO) hy fun g4 j4 s4 => wpAny_pure ?_)
  have r4 : IsPair g4 r x b := s4.extBut _ _ D.TOi2 r3
  refine wpAny_bind (wpAny_seqItems r4 rfl ?_); refine wpAny_bind (wpAny_updateSeq_pair r4 fun g5 r5 s5 => ?_); have r5 : IsPair g5 r x y := r5
  refine wpAny_bind (wpAny_letGo (wpAny_pure (wpAny_pure ?_))); refine wpAny_bind (wpAny_seqItems r5 rfl ?_); refine wpAny_bind (wpAny_newTuple ?_)
  have sz : g5.objs.size = s.heap.objs.size := by rw [s5.1, s4.1, s3.1, s2.1, s1.1]
  have z5 : IsZip g5 z p r .ellipsis := s5.extBut _ _ D.TOz.symm (s4.extBut _ _ D.i2z.symm (s3.extBut _ _ D.TOz.symm (s2.extBut _ _ D.i1z.symm z1)))
  have kp : Kept z r i j s.heap g5 := fun c o n1 n2 n3 n4 e => s5.extBut _ _ n2 (s4.extBut _ _ n4 (s3.extBut _ _ n2 (s2.extBut _ _ n3 (s1.extBut _ _ n1 e))))
  have i5 : ItAt k g5 i l (n + 1) := ((i2.eb s3.extBut D.TOi1.symm).eb s4.extBut D.i12).eb s5.extBut D.TOi1.symm
  have j5 : ItAt k' g5 j m (n + 1) := j4.eb s5.extBut D.TOi2.symm
  have zl : z < g5.objs.size := Heap.lt_size z5
  show wpAny _ _ (Builtin.SmallTypes.ownedTupleHandOut (.ref z) (.ref g5.objs.size) >>= _) _ _ _
  apply wpAny_bind; unfold Builtin.SmallTypes.ownedTupleHandOut
  have z6 : IsZip (g5.push { cls := .type "tuple", data := .seq #[x, y] }) z p r .ellipsis := Heap.get?_push_of_some _ z5
  refine wpAny_bind (wpAny_setField_rec z6 (by simp) fun g7 z7 s7 => ?_); have z7 : IsZip g7 z p r (rawInt g5.objs.size) := z7
  refine wpAny_setField_rec z7 (by simp) fun g8 z8 s8 => ?_; have z8 : IsZip g8 z p r (rawInt g5.objs.size) := z8
  have up : ∀ c o, c ≠ z → g5.get? c = some o → g8.get? c = some o := fun c o n1 e => s8.extBut _ _ n1 (s7.extBut _ _ n1 (Heap.get?_push_of_some _ e))
  have t8 : IsPair g8 g5.objs.size x y := s8.extBut _ _ (Nat.ne_of_gt zl) (s7.extBut _ _ (Nat.ne_of_gt zl) (Heap.get?_push_size _ rfl))
  have sz8 : g8.objs.size = g5.objs.size + 1 := by rw [s8.1, s7.1, Heap.size_push]
  rw [sz] at z8 t8 sz8; refine wpAny_pure ⟨_, rfl, ?_⟩; show Q (.ref g5.objs.size) _
  rw [sz]
  exact q g8 ⟨z8, kp _ _ D.TIz D.TITO D.TIi1 D.TIi2 hp |> up _ _ D.TIz, ⟨_, _, up _ _ D.TOz r5⟩, i5.ob fun o e => up _ o D.i1z e, j5.ob fun o e => up _ o D.i2z e⟩ t8 sz8 fun c o n1 n2 n3 n4 e => up c o n1 (kp c o n1 n2 n3 n4 e)
theorem zip_no {z p r i j l m : Addr} {n : Nat} {xs ys : Array Value} {Q : Fin → Shared → Prop} (hh : A.handled = none) (D : ZipApart z p r i j l m) (Z : ZAt s.heap z p r i j l m k k' n .none)
    (hl : SeqAt k s.heap l xs) (hm : SeqAt k' s.heap m ys) (he : xs[n]? = none ∨ ys[n]? = none)
    (q : ∀ h' e, Kept z r i j s.heap h' → (∃ o, h'.get? e = some o ∧ o.cls = .type "StopIteration") → E (.ref e) { s with heap := h' }) : wpAny (model prog w) A (Builtin.«zip.__next__» ⟨[.ref z], []⟩) Q E s := by
  obtain ⟨hz, hp, ⟨a, b, hr⟩, hi, hj⟩ := Z
  show wpAny _ _ (field (.ref z) 2 >>= _) _ _ _; refine wpAny_bind (wpAny_field hz rfl (x := .bool false) rfl ?_)
  show wpAny _ _ (field (.ref z) 3 >>= _) _ _ _; refine wpAny_bind (wpAny_field hz rfl (x := .ref p) rfl ?_)
  refine wpAny_bind (wpAny_seqItems hp rfl ?_); show wpAny _ _ (Builtin.SmallTypes.ownedTupleIsFree (.ref z) >>= _) _ _ _
  apply wpAny_bind; unfold Builtin.SmallTypes.ownedTupleIsFree; refine wpAny_bind (wpAny_field hz rfl (x := .none) rfl (wpAny_pure ?_))
  simp only [if_true]; apply wpAny_bind; refine wpAny_rule ?_
  refine wpAny_bind (wpAny_field hz rfl (x := .ref r) rfl ?_)
  refine wpAny_bind (wpAny_setField_rec hz (by simp) fun g1 z1 s1 => ?_); have z1 : IsZip g1 z p r .ellipsis := z1
  apply wpAny_bind; simp only [List.zipIdx_cons, List.zipIdx_nil, List.forIn_cons, List.forIn_nil]
  apply wpAny_bind; apply wpAny_bind; refine wpAny_onRaise ?_; show wpAny _ _ (Builtin.SmallTypes.nextOf (.ref i) >>= _) _ _ _
  cases hx : xs[n]? with
  | none =>
    refine wpAny_bind (next_no hh (hi.eb s1.extBut D.i1z) (hl.eb s1.extBut D.l1z) hx fun g2 e s2 ⟨o, ho, hc⟩ => ?_)
    have z2 : IsZip g2 z p r .ellipsis := s2 _ _ D.i1z.symm z1
    have ez : e ≠ z := fun w => by subst w; rw [z2] at ho; cases ho; simp at hc
    exact wpAny_setField_rec z2 (by simp) fun g3 _ s3 => q g3 e (fun c o n1 _ n3 _ w => s3.extBut _ _ n1 (s2 _ _ n3 (s1.extBut _ _ n1 w))) ⟨o, s3.extBut _ _ ez ho, hc⟩
  | some x =>
    have hy : ys[n]? = none := he.elim (fun w => by rw [hx] at w; cases w) id
    refine wpAny_bind (next_ok (hi.eb s1.extBut D.i1z) (hl.eb s1.extBut D.l1z) hx fun g2 i2 s2 => wpAny_pure ?_)
    have r2 : IsPair g2 r a b := s2.extBut _ _ D.TOi1 (s1.extBut _ _ D.TOz hr)
    refine wpAny_bind (wpAny_seqItems r2 rfl ?_); refine wpAny_bind (wpAny_updateSeq_pair r2 fun g3 r3 s3 => ?_)
    refine wpAny_bind (wpAny_letGo (wpAny_pure ?_)); apply wpAny_bind; apply wpAny_bind; refine wpAny_onRaise ?_
    show wpAny _ _ (Builtin.SmallTypes.nextOf (.ref j) >>= _) _ _ _
    refine wpAny_bind (next_no hh (((hj.eb s1.extBut D.i2z).eb s2.extBut D.i12.symm).eb s3.extBut D.TOi2.symm) (((hm.eb s1.extBut D.l2z).eb s2.extBut D.l2i1).eb s3.extBut D.l2TO) hy fun g4 e s4 ⟨o, ho, hc⟩ => ?_)
    have z4 : IsZip g4 z p r .ellipsis := s4 _ _ D.i2z.symm (s3.extBut _ _ D.TOz.symm (s2.extBut _ _ D.i1z.symm z1))
    have ez : e ≠ z := fun w => by subst w; rw [z4] at ho; cases ho; simp at hc
    exact wpAny_setField_rec z4 (by simp) fun g5 _ s5 => q g5 e (fun c o n1 n2 n3 n4 w => s5.extBut _ _ n1 (s4 _ _ n4 (s3.extBut _ _ n2 (s2.extBut _ _ n3 (s1.extBut _ _ n1 w))))) ⟨o, s5.extBut _ _ ez ho, hc⟩
theorem pyNext_yes {z p r i j l m : Addr} {n : Nat} {xs ys : Array Value} {x y : Value} {Q : Option Value → Shared → Prop} (D : ZipApart z p r i j l m) (Z : ZAt s.heap z p r i j l m k k' n .none)
    (hl : SeqAt k s.heap l xs) (hm : SeqAt k' s.heap m ys) (hx : xs[n]? = some x) (hy : ys[n]? = some y)
    (q : ∀ h', ZAt h' z p r i j l m k k' (n + 1) (rawInt s.heap.objs.size) → IsPair h' s.heap.objs.size x y → h'.objs.size = s.heap.objs.size + 1 → Kept z r i j s.heap h' → Q (some (.ref s.heap.objs.size)) { s with heap := h' }) :
    wpAny (model prog w) A (pyNext (.ref z)) Q E s := by
  have T : s.TypeIs (.ref z) "zip" := ⟨_, Z.zip, rfl⟩
  unfold pyNext; apply wpAny_bind; apply wpAny_attempt
  exact wpAny_callSpecial?_slot (name := Str.ofString "__next__") T F.slot_zip_next (wpAny_call_entry F.slot_zip_next T F.entry_zip_next (zip_yes D Z hl hm hx hy fun h' a b c d => wpAny_pure (q h' a b c d)) (F.args_zip_next_1 _))
theorem pyNext_no {z p r i j l m : Addr} {n : Nat} {xs ys : Array Value} {Q : Option Value → Shared → Prop} (hh : A.handled = none) (D : ZipApart z p r i j l m) (Z : ZAt s.heap z p r i j l m k k' n .none)
    (hl : SeqAt k s.heap l xs) (hm : SeqAt k' s.heap m ys) (he : xs[n]? = none ∨ ys[n]? = none)
    (q : ∀ h', Kept z r i j s.heap h' → Q none { s with heap := h' }) : wpAny (model prog w) A (pyNext (.ref z)) Q E s := by
  have T : s.TypeIs (.ref z) "zip" := ⟨_, Z.zip, rfl⟩
  unfold pyNext; apply wpAny_bind; apply wpAny_attempt
  refine wpAny_callSpecial?_slot (name := Str.ofString "__next__") T F.slot_zip_next (wpAny_call_entry F.slot_zip_next T F.entry_zip_next (zip_no hh D Z hl hm he fun h' e kp ⟨o, ho, hc⟩ => ?_) (F.args_zip_next_1 _))
  exact wpAny_bind (wpAny_isInstance (T := "StopIteration") (b := true) ⟨o, ho, hc⟩ isSubtype_stop (wpAny_pure (q _ kp)))
def itO (k : Bool) (l : Addr) : Obj := { cls := .type (if k then "tuple_iterator" else "list_iterator"), data := .fields #[.ref l, .int 0 0] }
theorem iter_new {l : Addr} {xs : Array Value} {Q : Value → Shared → Prop} (hl : SeqAt k s.heap l xs) (h : Q (.ref s.heap.objs.size) { s with heap := s.heap.push (itO k l) }) : wpAny (model prog w) A (pyIter (.ref l)) Q E s := by
  cases k
  · exact wpAny_pyIter_list hl h
  · exact wpAny_pyIter_tuple hl h
theorem itO_at {h : Heap} {l it : Addr} (e : h.get? it = some (itO k l)) : ItAt k h it l 0 := by
  cases k <;> exact ⟨_, e, rfl, rfl⟩
end
/-- the heap behind zip(l, m) -/
def hzip (k k' : Bool) (h : Heap) (l m : Addr) : Heap :=
  ((((h.push (itO k l)).push (itO k' m)).push { cls := .type "tuple", data := .seq #[.ref h.objs.size, .ref (h.push (itO k l)).objs.size] }).push { cls := .type "tuple", data := .seq #[.none, .none] }).push
    { cls := .type "zip", data := .fields #[.none, .bool false, .bool false, .ref ((h.push (itO k l)).push (itO k' m)).objs.size, .ref (((h.push (itO k l)).push (itO k' m)).push { cls := .type "tuple", data := .seq #[.ref h.objs.size, .ref (h.push (itO k l)).objs.size] }).objs.size] }
theorem zip_meets (k k' : Bool) (l m : Addr) (xs ys : Array Value) :
    Meets (Builtin.«zip.__new__» ⟨[.type "zip", .ref l, .ref m], []⟩) (fun _ R s => SeqAt k s.heap l xs ∧ SeqAt k' s.heap m ys ∧ R (.ok (.ret (.ref (s.heap.objs.size + 4)))) { s with heap := hzip k k' s.heap l m }) :=
  .of_wp fun prog w A R s h => by
    obtain ⟨hp, g, d, tk, os⟩ := s; obtain ⟨h1, h2, h⟩ := h
    have su := sub_zip
    have a1 : SeqAt k (Shared.heap ⟨hp, g, d, tk, os⟩) l xs := h1
    have a2 : SeqAt k' (Shared.heap ⟨hp.push (itO k l), g, d, tk, os⟩) m ys := SeqAt.push h2 _
    wp_walk using iter_new a1, iter_new a2
    refine ⟨_, rfl, ?_⟩
    have e : hp.objs.size + 4 = ((((hp.push (itO k l)).push (itO k' m)).push { cls := .type "tuple", data := .seq #[.ref hp.objs.size, .ref (hp.push (itO k l)).objs.size] }).push { cls := .type "tuple", data := .seq #[.none, .none] }).objs.size := by simp [Heap.size_push]
    rw [show (Shared.heap ⟨hp, g, d, tk, os⟩) = hp from rfl, e] at h
    exact h
theorem zip_at {h : Heap} {k k' : Bool} {l m : Addr} : ZAt (hzip k k' h l m) (h.objs.size + 4) (h.objs.size + 2) (h.objs.size + 3) h.objs.size (h.objs.size + 1) l m k k' 0 .none ∧ (∀ c o, h.get? c = some o → (hzip k k' h l m).get? c = some o) := by
  have z1 : (h.push (itO k l)).objs.size = h.objs.size + 1 := Heap.size_push ..
  have z2 : ((h.push (itO k l)).push (itO k' m)).objs.size = h.objs.size + 2 := by rw [Heap.size_push, z1]
  unfold hzip
  rw [z1, z2]
  generalize ho3 : ({ cls := .type "tuple", data := .seq #[.ref h.objs.size, .ref (h.objs.size + 1)] } : Obj) = o3
  have z3 : (((h.push (itO k l)).push (itO k' m)).push o3).objs.size = h.objs.size + 3 := by rw [Heap.size_push, z2]
  rw [z3]
  generalize ho4 : ({ cls := .type "tuple", data := .seq #[.none, .none] } : Obj) = o4
  have z4 : ((((h.push (itO k l)).push (itO k' m)).push o3).push o4).objs.size = h.objs.size + 4 := by rw [Heap.size_push, z3]
  refine ⟨⟨?_, ?_, ⟨.none, .none, ?_⟩, itO_at ?_, itO_at ?_⟩, fun c o e => ?_⟩
  · rw [← z4]; exact Heap.get?_push_size _ rfl
  · refine Heap.get?_push_of_some _ (Heap.get?_push_of_some _ ?_); rw [← z2]; subst ho3; exact Heap.get?_push_size _ rfl
  · refine Heap.get?_push_of_some _ ?_; rw [← z3]; subst ho4; exact Heap.get?_push_size _ rfl
  · refine Heap.get?_push_of_some _ (Heap.get?_push_of_some _ (Heap.get?_push_of_some _ (Heap.get?_push_of_some _ ?_))); exact Heap.get?_push_size _ (by cases k <;> rfl)
  · refine Heap.get?_push_of_some _ (Heap.get?_push_of_some _ (Heap.get?_push_of_some _ ?_)); rw [← z1]; exact Heap.get?_push_size _ (by cases k' <;> rfl)
  · exact Heap.get?_push_of_some _ (Heap.get?_push_of_some _ (Heap.get?_push_of_some _ (Heap.get?_push_of_some _ (Heap.get?_push_of_some _ e))))
theorem call_zipX {prog : Program} {w : World} {A : Around} {E : Value → Shared → Prop} {s : Shared} {k k' : Bool} {l m : Addr} {xs ys : Array Value} {Q : Value → Shared → Prop} (h1 : SeqAt k s.heap l xs) (h2 : SeqAt k' s.heap m ys)
    (h : Q (.ref (s.heap.objs.size + 4)) { s with heap := hzip k k' s.heap l m }) : wpAny (model prog w) A (call (.type "zip") [.ref l, .ref m]) Q E s := by
  refine callType_new F.called_zip (by decide) (F.typeCall_zip_2 _ _) (F.newCall_zip_2 _ _) (fun obj => F.args_object_init_3 obj _ _) F.entry_zip_new (zip_meets k k' l m xs ys) ⟨h1, h2, ?_⟩
  exact ⟨⟨_, zip_at.1.zip, rfl⟩, h⟩
/-! ### at the layer -/
def Itx (K : Frag) (k k' : Bool) (a b : Addr) : It :=
  ⟨fun i H => ∃ (xs ys : List V) (x y : V), SqX K k H a xs ∧ SqX K k' H b ys ∧ xs[i]? = some x ∧ ys[i]? = some y,
    fun i H v H' => ∃ T x y, v = .ref T ∧ H T = none ∧ H' = upd H T (.tup [x, y]) ∧ (∀ xs, SqX K k H a xs → xs[i]? = some x) ∧ ∀ ys, SqX K k' H b ys → ys[i]? = some y,
    fun i H => ∃ xs ys : List V, SqX K k H a xs ∧ SqX K k' H b ys ∧ (xs.length ≤ i ∨ ys.length ≤ i)⟩
section
variable {X : Cx} {pins : List (Addr × Obj)} {σ : L2.St} {H : Hp} {s : Shared} {k : Bool}
theorem seq_inj (I : Inv X pins σ H s) {a : Addr} {xs ys : List V} (h : SqX X.K k H a xs) (h' : SqX X.K k H a ys) : xs = ys := by
  cases k
  · exact I.list_inj h h'
  · exact I.tuple_inj h h'
theorem seq_at (I : Inv X pins σ H s) {a : Addr} {xs : List V} (h : SqX X.K k H a xs) : ∃ its : List Value, Vals xs its ∧ SeqAt k s.heap a its.toArray := by
  cases k
  · obtain ⟨its, rv, p, _⟩ := I.list h
    exact ⟨its, rv, p.isList⟩
  · obtain ⟨its, rv, p, _⟩ := I.tuple h
    exact ⟨its, rv, p⟩
end
theorem apart_of {n l m : Nat} (h1 : l < n) (h2 : m < n) : ZipApart (n + 4) (n + 2) (n + 3) n (n + 1) l m := PySem.W.ktu_apart n l m h1 h2
theorem turn_zipX {P : Program} {w : World} {K : Frag} {elts : List Expr} {kk : Nat} {tpos : Pos} {k k' : Bool} {a b z p r i1 i2 : Addr} (D : ZipApart z p r i1 i2 a b) :
    Turn P w K (.Tuple elts kk tpos) (Itx K k k' a b) [z, p, r, i1, i2] z (fun i h => ZAt h z p r i1 i2 a b k k' i .none) where
  mem := by simp
  obj := fun i h st c hc => by
    obtain ⟨hz, hp, ⟨x, y, hr⟩, h1, h2⟩ := st
    have hc' : c = z ∨ c = p ∨ c = r ∨ c = i1 ∨ c = i2 := by simpa using hc
    rcases hc' with rfl | rfl | rfl | rfl | rfl
    · exact ⟨_, hz, fun v q => nomatch q⟩
    · exact ⟨_, hp, fun v q => nomatch q⟩
    · exact ⟨_, hr, fun v q => nomatch q⟩
    · exact h1.obj
    · exact h2.obj
  keep := fun i h h' st kp => by
    obtain ⟨hz, hp, ⟨x, y, hr⟩, h1, h2⟩ := st
    exact ⟨kp z (by simp) _ hz, kp p (by simp) _ hp, ⟨x, y, kp r (by simp) _ hr⟩, h1.ob fun o q => kp i1 (by simp) o q, h2.ob fun o q => kp i2 (by simp) o q⟩
  item := by
    intro X hP hw hK hc i pins s σ H E I hf Z hg; subst hP hw hK
    obtain ⟨xs, ys, x, y, q1, q2, hx, hy⟩ := hg
    obtain ⟨its, rv, p1⟩ := seq_at I q1
    obtain ⟨its2, rv2, p2⟩ := seq_at I q2
    obtain ⟨u, hu, ru⟩ := rv.get hx
    obtain ⟨u2, hu2, ru2⟩ := rv2.get hy
    have zl : z < s.heap.objs.size := Heap.lt_size Z.zip
    refine pyNext_yes D Z p1 p2 (x := u) (y := u2) (by simpa using hu) (by simpa using hu2) fun h' Z' hT sz kp => ?_
    refine ⟨_, rfl, wpAny_letOwnedTupleGo_zip (s := { s with heap := h' }) Z'.zip fun g gz sb => ?_⟩
    have gT : g.get? s.heap.objs.size = some { cls := .type "tuple", data := .seq #[u, u2] } := (sb.2 _ (Nat.ne_of_gt zl)).trans hT
    have new : ObjOk X.prog X.w (upd H s.heap.objs.size (.tup [x, y])) g s.heap.objs.size (.tup [x, y]) := ⟨by show 2 ≤ sizeLine; decide, [u, u2], .cons ru (.cons ru2 .nil), ⟨_, gT, rfl, _, rfl⟩⟩
    have I1 : Inv X pins σ (upd H s.heap.objs.size (.tup [x, y])) { s with heap := g } :=
      I.turnedNew (t' := s.toks) (ch := [z, p, r, i1, i2]) (fun c o hb q => by
        have hb' : c ≠ z ∧ c ≠ p ∧ c ≠ r ∧ c ≠ i1 ∧ c ≠ i2 := by simpa using hb
        exact (sb.2 c hb'.1).trans (kp c o hb'.1 hb'.2.2.1 hb'.2.2.2.1 hb'.2.2.2.2 q)) hf (Nat.le_refl _) new
    refine ⟨.ref s.heap.objs.size, _, I1, rfl, ⟨_, x, y, rfl, I.hok.fresh (Nat.le_refl _), rfl, fun l hl => by rw [seq_inj I hl q1]; exact hx, fun l hl => by rw [seq_inj I hl q2]; exact hy⟩, ⟨gz, ?_, ?_, ?_, ?_⟩, fun c hcm => ?_⟩
    · exact (sb.2 _ D.TIz).trans Z'.its
    · obtain ⟨a', b', e⟩ := Z'.out
      exact ⟨a', b', (sb.2 _ D.TOz).trans e⟩
    · exact Z'.i1.ob fun o q => (sb.2 _ D.i1z).trans q
    · exact Z'.i2.ob fun o q => (sb.2 _ D.i2z).trans q
    · have lt : c < s.heap.objs.size := by
        have hc' : c = z ∨ c = p ∨ c = r ∨ c = i1 ∨ c = i2 := by simpa using hcm
        rcases hc' with rfl | rfl | rfl | rfl | rfl
        · exact zl
        · exact Heap.lt_size Z.its
        · obtain ⟨_, _, e⟩ := Z.out; exact Heap.lt_size e
        · exact Z.i1.lt
        · exact Z.i2.lt
      rw [upd_ne (Nat.ne_of_lt lt)]; exact (hf c hcm).1
  done := by
    intro X hP hw hK hc i pins s σ H E I hf Z hg; subst hP hw hK
    obtain ⟨xs, ys, q1, q2, hend⟩ := hg
    obtain ⟨its, rv, p1⟩ := seq_at I q1
    obtain ⟨its2, rv2, p2⟩ := seq_at I q2
    have l1 := rv.length
    have l2 := rv2.length
    have he : its.toArray[i]? = none ∨ its2.toArray[i]? = none := hend.imp (fun q => by simp; omega) (fun q => by simp; omega)
    exact pyNext_no (I.ok.hd hc) D Z p1 p2 he fun h' kp => ⟨rfl, I.turnedL (t' := s.toks) (ch := [z, p, r, i1, i2]) (fun c o hb q => by
        have hb' : c ≠ z ∧ c ≠ p ∧ c ≠ r ∧ c ≠ i1 ∧ c ≠ i2 := by simpa using hb
        exact kp c o hb'.1 hb'.2.2.1 hb'.2.2.2.1 hb'.2.2.2.2 q) hf⟩
  self := fun A i s Q E st h => wpAny_pyIter_zip st.zip h
def iZipX (K : Frag) (ta : TA) : TI := fun σ H R => ta σ H fun vs H1 => ∃ k k' a b xs ys, vs = [.ref a, .ref b] ∧ SqX K k H1 a xs ∧ SqX K k' H1 b ys ∧ R (Itx K k k' a b) H1
theorem pi_zipX {X : Cx} {e e2 : Expr} {ta : TA} {p pos tpos : Pos} {elts : List Expr} {kk : Nat} (hg : Gl X "zip") (hm : X.mg "zip" = none) (ha : PA X [e, e2] ta)
    (hs : starEach [e, e2] X.env = (false, eval e X.env) :: starEach [e2] X.env := by rfl) (hpl : (backTo pos (starEach [e2] X.env)).any (·.1) = false := by rfl) :
    PI X (.Tuple elts kk tpos) (.Call (.Name "zip" p) [e, e2] [] pos) (iZipX X.K ta) := by
  refine ⟨fun pins s σ H R I h => ?_⟩
  refine Call_ (ld_blt I hg hm boot_zip (callWith_type1 (thn (ha.run pos pins s σ H _ I h) fun us s1 ⟨vs, H1, I1, r1, q1⟩ => ?_) hs hpl))
  obtain ⟨k, k', a, b, xs, ys, ev, qa, qb, q⟩ := q1
  subst ev
  cases r1 with
  | cons ra r2 =>
  cases r2 with
  | cons rb r3 =>
  cases r3
  cases ra
  cases rb
  obtain ⟨its, rv, p1⟩ := seq_at I1 qa
  obtain ⟨its2, rv2, p2⟩ := seq_at I1 qb
  obtain ⟨Z, kp⟩ := zip_at (h := s1.heap) (k := k) (k' := k') (l := a) (m := b)
  refine call_zipX p1 p2 (wpAny_pyIter_zip Z.zip ?_)
  have I2 : Inv X pins σ H1 { s1 with heap := hzip k k' s1.heap a b } := I1.kept (t' := s1.toks) kp
  refine ⟨s1.heap.objs.size + 4, [s1.heap.objs.size + 4, s1.heap.objs.size + 2, s1.heap.objs.size + 3, s1.heap.objs.size, s1.heap.objs.size + 1], _, _, H1, rfl, I2, turn_zipX (apart_of p1.lt p2.lt), Z, fun c hcm => ?_, q⟩
  have le : s1.heap.objs.size ≤ c := by
    have hc' : c = s1.heap.objs.size + 4 ∨ c = s1.heap.objs.size + 2 ∨ c = s1.heap.objs.size + 3 ∨ c = s1.heap.objs.size ∨ c = s1.heap.objs.size + 1 := by simpa using hcm
    rcases hc' with e | e | e | e | e <;> rw [e]
    · exact Nat.le_add_right _ _
    · exact Nat.le_add_right _ _
    · exact Nat.le_add_right _ _
    · exact Nat.le_refl _
    · exact Nat.le_add_right _ _
  exact I1.fpOk le (I1.hok.fresh le)
/-! ### by the data -/
def seqOf : D → M (List D)
  | .lst ds => pure ds
  | .tup ds => pure ds
  | _ => M.stuck
def zipL : List D → M (List D)
  | [x, y] => seqOf x >>= fun a => seqOf y >>= fun b => pure ((a.zip b).map fun p => D.tup [p.1, p.2])
  | _ => M.stuck
section
variable {K : Frag} {E : XK} {H : Hp} {o : Lo} {st : Store} {X : Cx}
theorem seqOf_wp {d : D} {v : V} {Q : List D → Store → Prop} {Z : Exn → Store → Prop} (r : Rep K H o d v) (h : wpR (seqOf d st) Q Z) :
    ∃ k ds a xs, v = .ref a ∧ SqX K k H a xs ∧ Reps K H o ds xs ∧ (∀ H' o', LeR K H o H' o' → ∃ xs, SqX K k H' a xs ∧ Reps K H' o' ds xs) ∧ Q ds st := by
  cases d with
  | lst ds =>
    obtain ⟨a, xs, e, h1, av, h2⟩ := id r
    refine ⟨false, ds, a, xs, e, SqL.of h1, h2, fun H' o' l => ?_, h⟩
    obtain ⟨a', xs', e', h1', _, h2'⟩ := l _ _ r
    rw [e] at e'; cases e'
    exact ⟨xs', SqL.of h1', h2'⟩
  | tup ds =>
    obtain ⟨a, xs, e, h1, h2⟩ := id r
    refine ⟨true, ds, a, xs, e, tup_sq h1, h2, fun H' o' l => ?_, h⟩
    obtain ⟨a', xs', e', h1', h2'⟩ := l _ _ r
    rw [e] at e'; cases e'
    exact ⟨xs', tup_sq h1', h2'⟩
  | _ => exact False.elim h
theorem di_zip {e e2 : Expr} {fs : DenL} {p pos tpos : Pos} {elts : List Expr} {kk : Nat} (hg : Gl X "zip") (hm : X.mg "zip" = none) (ha : PL X E [e, e2] fs)
    (hs : starEach [e, e2] X.env = (false, eval e X.env) :: starEach [e2] X.env := by rfl) (hpl : (backTo pos (starEach [e2] X.env)).any (·.1) = false := by rfl) :
    PDI X E (.Tuple elts kk tpos) (.Call (.Name "zip" p) [e, e2] [] pos) (fun ρ => fs ρ >>= zipL) := PI.imp (pi_zipX hg hm ha hs hpl) fun σ H R h => by
  obtain ⟨o, ρ, st, he, so, h⟩ := h
  refine ⟨o, ρ, st, he, so, ?_⟩
  refine (wpR.bind.mp h).mono (fun ds st1 h1 vs H1 o1 l s1 r => ?_) fun _ _ x => x
  match ds, r, h1 with
  | [], _, h1 => exact False.elim h1
  | [_], _, h1 => exact False.elim h1
  | _ :: _ :: _ :: _, _, h1 => exact False.elim h1
  | [d, d'], r, h1 =>
    obtain ⟨v, v', rfl, rv, rv'⟩ := r.two_of
    have h1' : wpR ((seqOf d >>= fun a => seqOf d' >>= fun b => pure ((a.zip b).map fun p => D.tup [p.1, p.2])) st1) (IOk X.K H o R) (XOk X.K E H o) := h1
    obtain ⟨k, as, a, xs, rfl, sa, ra, ka, h2⟩ := seqOf_wp rv (wpR.bind.mp h1')
    obtain ⟨k', bs, b, ys, rfl, sb, rb, kb, h3⟩ := seqOf_wp rv' (wpR.bind.mp h2)
    refine ⟨k, k', a, b, xs, ys, rfl, sa, sb, (show IOk X.K H o R ((as.zip bs).map fun p => D.tup [p.1, p.2]) st1 from h3) _ H1 o1 l s1 ?_⟩
    intro H2 o2 st2 lr s2
    obtain ⟨xs2, sa2, ra2⟩ := ka H2 o2 lr.rep
    obtain ⟨ys2, sb2, rb2⟩ := kb H2 o2 lr.rep
    refine ⟨⟨xs2, ys2, sa2, sb2, ?_⟩, fun i d hd => ?_⟩
    · rw [ra2.length, rb2.length]; simp; omega
    · rw [List.getElem?_map] at hd
      obtain ⟨⟨x, y⟩, hz, rfl⟩ := Option.map_eq_some_iff.mp hd
      obtain ⟨hx, hy⟩ := List.getElem?_zip_eq_some.mp hz
      obtain ⟨u, hu, ru⟩ := ra2.get hx
      obtain ⟨u', hu', ru'⟩ := rb2.get hy
      refine ⟨⟨xs2, ys2, u, u', sa2, sb2, hu, hu'⟩, fun v H3 y => ?_⟩
      obtain ⟨T, x0, y0, rfl, hT, rfl, e1, e2⟩ := y
      have q1 := e1 _ sa2
      have q2 := e2 _ sb2
      rw [hu] at q1; rw [hu'] at q2
      cases q1; cases q2
      refine ⟨.inr ⟨T, _, hT, rfl⟩, ?_⟩
      exact Rep.newTup s2 hT ⟨u, _, rfl, ru, u', _, rfl, ru', rfl⟩
end
end MP

namespace MP
open PySem L2
open PySem.Spec PyProof.Rows
/-! ## comprehensions with two clauses, no tests -/
def lc2L (t : Tg) (it1 : DenI) (vs1 : List Nat) (t1 : Tg) (f : Den) (ρ0 : Env) : Nat → List D → M (List D)
  | _, [] => pure []
  | n, d :: ds => optB (t.bind d ρ0) fun ρ1 => noX (it1 ρ1) >>= fun es => guardL (decide (n + es.length ≤ big)) (lcL t1 (fun _ => pure true) f (wipeE ρ1 vs1) es) >>= fun ys => lc2L t it1 vs1 t1 f ρ0 (n + es.length) ds >>= fun zs => pure (ys ++ zs)
@[simp] def dLc2 (it : DenI) (vs : List Nat) (t : Tg) (it1 : DenI) (vs1 : List Nat) (t1 : Tg) (f : Den) : Den := fun ρ => it ρ >>= fun ds => lc2L t it1 vs1 t1 f (wipeE ρ vs) 0 ds >>= fun ys => pure (.lst ys)
section
variable {K : Frag} {E : XK} {H H' : Hp} {o o' : Lo} {st : Store} {X : Cx}
theorem tD_lc2 {it it1 : DenI} {vs vs1 : List Nat} {t t1 : Tg} {f : Den} {σ : L2.St} {Q : VK} (hsub : ∀ i ∈ t.slots, i ∈ vs) (hsub1 : ∀ i ∈ t1.slots, i ∈ vs1) (h : tD K E (dLc2 it vs t it1 vs1 t1 f) σ H Q) :
    tLc2 (tI K E it) (t.g K) (tT K EX0 fun _ => pure true) (tI K EX0 it1) (t1.g K) (tT K EX0 fun _ => pure true) (tD K EX0 f) vs vs1 σ H Q := by
  obtain ⟨o, ρ, st, he, hs, h⟩ := h
  refine ⟨o, ρ, st, he, hs, ?_⟩
  refine (wpR.bind.mp h).mono (fun ds st1 h1 J H1 o1 l1 s1 w Dd hD => ?_) fun _ _ x => x
  have h1 := wpR.bind.mp h1
  let P : Nat → List D → List D → Store → Prop := fun n rest accd st => wpR (lc2L t it1 vs1 t1 f (wipeE ρ vs) n rest st) (fun zs st' => VOk K H o Q (.lst (accd ++ zs)) st') (XOk K E H o)
  let W : List D → List V → Hp → Lo → Store → Prop := fun accd acc Hi oi sti => Lc H1 o1 Hi oi ∧ oi.z = Dd :: o1.z ∧ LeW K (upd H1 Dd (.lst [])) (o1.hold Dd) Hi oi ∧ StOk K Hi oi sti ∧ Hi Dd = some (.lst acc) ∧ some Dd ∉ oi.l ∧ Reps K Hi oi accd acc
  refine ⟨fun i m Hi => m = ds.length - i ∧ i ≤ ds.length ∧ ∃ oi sti accd acc, W accd acc Hi oi sti ∧ P accd.length (ds.drop i) accd sti,
    ⟨_, rfl, Nat.zero_le _, o1.hold Dd, st1, [], [], ⟨Lc.hold hD, rfl, LeW.refl, s1.hold hD, upd_same, (s1.avOf hD).1, rfl⟩, h1⟩, ?_⟩
  rintro i m Hi ⟨rfl, hi, oi, sti, accd, acc, ⟨lc, ez, lr, si, eD, nD, ra⟩, hw⟩
  have lr0 : LeW K H1 o1 Hi oi := (LeW.hold hD).trans lr
  obtain ⟨w1, w2⟩ := w Hi oi sti lr0 si
  by_cases hlt : i < ds.length
  · rw [List.drop_eq_getElem_cons hlt] at hw
    obtain ⟨go, yl⟩ := w2 i _ (List.getElem?_eq_getElem hlt)
    refine .inr ⟨go, fun H2 => ∃ m', m' < ds.length - i ∧ (m' = ds.length - (i + 1) ∧ i + 1 ≤ ds.length ∧ ∃ oi sti accd acc, W accd acc H2 oi sti ∧ P accd.length (ds.drop (i + 1)) accd sti), fun _ x => x, fun x H2 y => ?_⟩
    obtain ⟨gr, rx⟩ := yl x H2 y
    have l2 : Le Hi oi H2 oi := Gr.le gr
    have s2 := Gr.stOk gr si
    have hw' : wpR (optB (t.bind ds[i] (wipeE ρ vs)) (fun ρ1 => noX (it1 ρ1) >>= fun es => guardL (decide (accd.length + es.length ≤ big)) (lcL t1 (fun _ => pure true) f (wipeE ρ1 vs1) es) >>= fun ys => lc2L t it1 vs1 t1 f (wipeE ρ vs) (accd.length + es.length) (ds.drop (i + 1)) >>= fun zs => pure (ys ++ zs)) sti) (fun zs st' => VOk K H o Q (.lst (accd ++ zs)) st') (XOk K E H o) := hw
    cases hb : t.bind ds[i] (wipeE ρ vs) with
    | none => rw [hb] at hw'; exact False.elim hw'
    | some ρ1 =>
      rw [hb] at hw'
      have env0 : EnvOk K H2 oi (wipeE ρ vs) (wipe σ vs) := ((he.mono (l1.rep.trans lr0.rep)).mono l2.rep).wipe vs
      refine t.ok rx hb env0 fun σ2 he2 kp => ?_
      refine ⟨(wipe_ext (kp.1.trans rfl) fun j hj => kp.2 j fun q => hj (hsub j q)).trans (wipe_wipe σ vs), ?_⟩
      refine ⟨oi, ρ1, sti, he2, s2, ?_⟩
      intro H3 o3 l3 s3
      refine iteT ⟨o3, ρ1, sti, he2.mono l3.rep, s3, ?_⟩
      have hw2 := wpR.bind.mp (show wpR ((noX (it1 ρ1) >>= fun es => guardL (decide (accd.length + es.length ≤ big)) (lcL t1 (fun _ => pure true) f (wipeE ρ1 vs1) es) >>= fun ys => lc2L t it1 vs1 t1 f (wipeE ρ vs) (accd.length + es.length) (ds.drop (i + 1)) >>= fun zs => pure (ys ++ zs)) sti) (fun zs st' => VOk K H o Q (.lst (accd ++ zs)) st') (XOk K E H o) from hw')
      refine wpR.mono (noX_wp hw2) (fun es st4 h4 J1 H4 o4 l4 s4 wk => ?_) fun _ _ x => x
      obtain ⟨hlen, h4⟩ := guardL_wp (wpR.bind.mp h4)
      have hlen := of_decide_eq_true hlen
      have l24 : Le Hi oi H4 o4 := (l2.trans l3).trans l4
      obtain ⟨eD4, nD4⟩ := l24.keep Dd _ eD nD
      refine ⟨fun j k Hj => k = es.length - j ∧ j ≤ es.length ∧ ∃ oj stj accd' acc', W accd' acc' Hj oj stj ∧ LeW K H4 o4 Hj oj ∧ accd'.length = accd.length + j ∧
          wpR (lcL t1 (fun _ => pure true) f (wipeE ρ1 vs1) (es.drop j) stj) (fun ys st' => P (accd.length + es.length) (ds.drop (i + 1)) (accd' ++ ys) st' ∧ ys.length = es.length - j) (XOk K E H o),
        ⟨_, rfl, Nat.zero_le _, o4, st4, accd, acc, ⟨lc.trans l24.toLc, l24.z.trans ez, lr.trans l24.w, s4, eD4, nD4, l24.rep.reps ra⟩, LeW.refl, rfl, ?_⟩, ?_⟩
      · have hln : ∀ (es : List D) (st : Store) (Q : List D → Store → Prop) (Z : Exn → Store → Prop), wpR (lcL t1 (fun _ => pure true) f (wipeE ρ1 vs1) es st) Q Z → wpR (lcL t1 (fun _ => pure true) f (wipeE ρ1 vs1) es st) (fun ys s => Q ys s ∧ ys.length = es.length) Z := by
          intro es
          induction es with
          | nil => exact fun st Q Z h => ⟨h, rfl⟩
          | cons e es ih =>
            intro st Q Z h
            have h' : wpR (optB (t1.bind e (wipeE ρ1 vs1)) (fun ρ2 => noX (f ρ2) >>= fun y => lcL t1 (fun _ => pure true) f (wipeE ρ1 vs1) es >>= fun ys => pure (y :: ys)) st) Q Z := h
            show wpR (optB (t1.bind e (wipeE ρ1 vs1)) (fun ρ2 => noX (f ρ2) >>= fun y => lcL t1 (fun _ => pure true) f (wipeE ρ1 vs1) es >>= fun ys => pure (y :: ys)) st) (fun ys s => Q ys s ∧ ys.length = (e :: es).length) Z
            cases hb : t1.bind e (wipeE ρ1 vs1) with
            | none => rw [hb] at h'; exact False.elim h'
            | some ρ2 =>
              rw [hb] at h'
              have h' := wpR.bind.mp (show wpR ((noX (f ρ2) >>= fun y => lcL t1 (fun _ => pure true) f (wipeE ρ1 vs1) es >>= fun ys => pure (y :: ys)) st) Q Z from h')
              refine (wpR.bind (m := noX (f ρ2))).mpr (h'.mono (fun y s hy => ?_) fun _ _ x => x)
              refine wpR.bind.mpr ((ih _ _ _ (wpR.bind.mp hy)).mono (fun ys s hys => ?_) fun _ _ x => x)
              exact ⟨hys.1, by simp [hys.2]⟩
        refine (hln _ _ _ _ h4).mono (fun ys s hys => ⟨?_, by rw [hys.2]; rfl⟩) fun _ _ x => x
        refine (wpR.bind.mp hys.1).mono (fun zs s2 hz => ?_) fun _ _ x => x
        rw [List.append_assoc]
        exact hz
      · rintro j k Hj ⟨rfl, hj, oj, stj, accd', acc', ⟨lcj, ezj, lrj, sj, eDj, nDj, raj⟩, lj, hl', hwj⟩
        obtain ⟨v1, v2⟩ := wk Hj oj stj lj sj
        by_cases hlt1 : j < es.length
        · rw [List.drop_eq_getElem_cons hlt1] at hwj
          obtain ⟨go1, yl1⟩ := v2 j _ (List.getElem?_eq_getElem hlt1)
          refine .inr ⟨go1, fun H2 => ∃ k', k' < es.length - j ∧ (k' = es.length - (j + 1) ∧ j + 1 ≤ es.length ∧ ∃ oj stj accd' acc', W accd' acc' H2 oj stj ∧ LeW K H4 o4 H2 oj ∧ accd'.length = accd.length + (j + 1) ∧
            wpR (lcL t1 (fun _ => pure true) f (wipeE ρ1 vs1) (es.drop (j + 1)) stj) (fun ys st' => P (accd.length + es.length) (ds.drop (i + 1)) (accd' ++ ys) st' ∧ ys.length = es.length - (j + 1)) (XOk K E H o)), fun _ x => x, fun x5 H5 y5 => ?_⟩
          obtain ⟨gr5, rx5⟩ := yl1 x5 H5 y5
          have l5 : Le Hj oj H5 oj := Gr.le gr5
          have s5 := Gr.stOk gr5 sj
          have hwj' : wpR (optB (t1.bind es[j] (wipeE ρ1 vs1)) (fun ρ2 => noX (f ρ2) >>= fun y => lcL t1 (fun _ => pure true) f (wipeE ρ1 vs1) (es.drop (j + 1)) >>= fun ys => pure (y :: ys)) stj) (fun ys st' => P (accd.length + es.length) (ds.drop (i + 1)) (accd' ++ ys) st' ∧ ys.length = es.length - j) (XOk K E H o) := hwj
          cases hb1 : t1.bind es[j] (wipeE ρ1 vs1) with
          | none => rw [hb1] at hwj'; exact False.elim hwj'
          | some ρ2 =>
            rw [hb1] at hwj'
            have env1 : EnvOk K H5 oj (wipeE ρ1 vs1) (wipe σ2 vs1) := ((he2.mono ((l3.trans l4).rep.trans lj.rep)).mono l5.rep).wipe vs1
            refine t1.ok rx5 hb1 env1 fun σ3 he3 kp1 => ?_
            refine ⟨(wipe_ext (kp1.1.trans rfl) fun j hj => kp1.2 j fun q => hj (hsub1 j q)).trans (wipe_wipe σ2 vs1), ?_⟩
            refine ⟨oj, ρ2, stj, he3, s5, ?_⟩
            intro H6 o6 l6 s6
            refine iteT ⟨o6, ρ2, stj, he3.mono l6.rep, s6, ?_⟩
            have hwj2 := wpR.bind.mp (show wpR ((noX (f ρ2) >>= fun y => lcL t1 (fun _ => pure true) f (wipeE ρ1 vs1) (es.drop (j + 1)) >>= fun ys => pure (y :: ys)) stj) (fun ys st' => P (accd.length + es.length) (ds.drop (i + 1)) (accd' ++ ys) st' ∧ ys.length = es.length - j) (XOk K E H o) from hwj')
            refine wpR.mono (noX_wp hwj2) (fun y7 st7 h7 v7 H7 o7 l7 s7 r7 => ?_) fun _ _ x => x
            have l57 : Le Hj oj H7 o7 := (l5.trans l6).trans l7
            obtain ⟨eD7, nD7⟩ := l57.keep Dd _ eDj nDj
            have ez7 : o7.z = Dd :: o1.z := l57.z.trans ezj
            have hin : Dd ∈ o7.z := by rw [ez7]; exact List.mem_cons_self
            have al : acc'.length = accd'.length := raj.length
            refine ⟨acc', eD7, by have := big_lt; omega, _, by omega, rfl, by omega, o7, st7, accd' ++ [y7], acc' ++ [v7], ⟨(lcj.trans l57.toLc).rewriteNew hD, ez7, (lrj.trans l57.w).trans (LeW.rewrite hin), s7.rewrite hin, upd_same, nD7, (LeR.rewrite hin).reps ((l57.rep.reps raj).append (Reps.one r7))⟩,
              (lj.trans l57.w).trans (LeW.rewrite hin), by simp; omega, ?_⟩
            refine (wpR.bind.mp h7).mono (fun ys st8 h8 => ?_) fun _ _ x => x
            obtain ⟨h8, h9⟩ := h8
            rw [List.append_assoc]
            exact ⟨h8, by simp at h9; omega⟩
        · have e : j = es.length := by omega
          subst e
          rw [List.drop_length] at hwj
          obtain ⟨hP, _⟩ := (show P (accd.length + es.length) (ds.drop (i + 1)) (accd' ++ []) stj ∧ ([] : List D).length = es.length - es.length from hwj)
          rw [List.append_nil, ← hl'] at hP
          exact .inl ⟨v1, _, by omega, rfl, by omega, oj, stj, accd', acc', ⟨lcj, ezj, lrj, sj, eDj, nDj, raj⟩, hP⟩
  · have e : i = ds.length := by omega
    subst e
    rw [List.drop_length] at hw
    refine .inl ⟨w1, ?_⟩
    have hw' : VOk K H o Q (.lst (accd ++ [])) sti := hw
    rw [List.append_nil] at hw'
    have hz : ∀ a ∈ o1.z, a ∈ oi.z := fun a ha => by rw [ez]; exact List.mem_cons_of_mem _ ha
    refine hw' (.ref Dd) Hi { oi with z := o1.z } (l1.trans ⟨⟨fun a u e n nt => lc.keep a u e n, lc.loc, lc.x⟩, rfl⟩) (si.unhold hz) ⟨Dd, acc, rfl, eD, ⟨nD, fun q => ?_⟩, (LeR.unhold hz).reps ra⟩
    obtain ⟨⟨u, e⟩, _⟩ := s1.zt Dd q
    rw [hD] at e; cases e
theorem pd_lc2 {elt tg iter tg1 iter1 : Expr} {scope : Scope} {own own1 : List (Str × Nat)} {pos : Pos} {it it1 : DenI} {t t1 : Tg} {f : Den} (hc : X.calm = true) (hN : X.N.Nodup) (hi : PDI X E tg iter it) (ok : BlkOk X.N X.env.scope scope own)
    (hv : ∀ i ∈ own1.map (·.2), i ∈ own.map (·.2))
    (hg : ∀ (s : Shared) (H : Hp) (C : Addr) (cl : List (Str × Addr)) (fp : List Addr), PG (X.blk s H scope (compEnvC scope cl C X.env) fp) tg (t.g X.K))
    (hi1 : ∀ (s : Shared) (H : Hp) (C : Addr) (cl : List (Str × Addr)) (fp : List Addr), PDI (X.blk s H scope (compEnvC scope cl C X.env) fp) EX0 tg1 iter1 it1)
    (hg1 : ∀ (s : Shared) (H : Hp) (C : Addr) (cl : List (Str × Addr)) (fp : List Addr), PG (X.blk s H scope (compEnvC scope cl C X.env) fp) tg1 (t1.g X.K))
    (he : ∀ (s : Shared) (H : Hp) (C : Addr) (cl : List (Str × Addr)) (fp : List Addr), PE (X.blk s H scope (compEnvC scope cl C X.env) fp) elt (tD X.K EX0 f)) (hs : ∀ x, foldedSetIterable iter X.env x = pure x) (hs1 : ∀ env x, foldedSetIterable iter1 env x = pure x) (hsub : ∀ i ∈ t.slots, i ∈ own.map (·.2)) (hsub1 : ∀ i ∈ t1.slots, i ∈ own1.map (·.2)) :
    PD X E (.ListComp elt [⟨tg, iter, [], 0⟩, ⟨tg1, iter1, [], 0⟩] scope pos) (dLc2 it (own.map (·.2)) t it1 (own1.map (·.2)) t1 f) :=
  PE.imp (pe_lc2 hc hN hi ok hv hg (fun _ _ _ _ _ => pts_nilD) hi1 hg1 (fun _ _ _ _ _ => pts_nilD) he hs hs1) fun _ _ _ h => tD_lc2 hsub hsub1 h
/-! ## enumerate of a list -/
def enumD (ds : List D) : List D := ds.zipIdx.map fun p => D.tup [.int (p.2 : Int), p.1]
def enumL : List D → M (List D)
  | [.lst ds] => pure (enumD ds)
  | _ => M.stuck
theorem di_enum {e : Expr} {fs : DenL} {p pos tpos : Pos} {elts : List Expr} {kk : Nat} (hg : Gl X "enumerate") (hm : X.mg "enumerate" = none) (ha : PL X E [e] fs) (hs : starEach [e] X.env = [(false, eval e X.env)] := by rfl) :
    PDI X E (.Tuple elts kk tpos) (.Call (.Name "enumerate" p) [e] [] pos) (fun ρ => fs ρ >>= enumL) := PI.imp (pi_enum hg hm ha hs) fun σ H R h => by
  obtain ⟨o, ρ, st, he, so, h⟩ := h
  refine ⟨o, ρ, st, he, so, ?_⟩
  refine (wpR.bind.mp h).mono (fun ds st1 h1 vs H1 o1 l s1 r => ?_) fun _ _ x => x
  match ds, r, h1 with
  | [], _, h1 => exact False.elim h1
  | d :: _ :: _, _, h1 => cases d <;> exact False.elim h1
  | [d], r, h1 =>
    obtain ⟨v, rfl, rv⟩ := r.one_of
    cases d with
    | lst as =>
      obtain ⟨a, xs, rfl, ka, av, ra⟩ := id rv
      refine ⟨a, xs, rfl, SqL.of ka, (show IOk X.K H o R (enumD as) st1 from h1) _ H1 o1 l s1 ?_⟩
      intro H2 o2 st2 lr s2
      obtain ⟨a', xs2, e2, ka2, av2, ra2⟩ := lr.rep _ _ rv
      cases e2
      refine ⟨⟨xs2, SqL.of ka2, by rw [ra2.length]; simp [enumD]⟩, fun i d hd => ?_⟩
      unfold enumD at hd
      rw [List.getElem?_map] at hd
      obtain ⟨⟨x, y⟩, hz, rfl⟩ := Option.map_eq_some_iff.mp hd
      obtain ⟨hx, rfl⟩ : as[i]? = some x ∧ y = i := by
        rw [List.getElem?_zipIdx] at hz
        obtain ⟨x', hx', e⟩ := Option.map_eq_some_iff.mp hz
        cases e
        exact ⟨hx', by simp⟩
      obtain ⟨u, hu, ru⟩ := ra2.get hx
      refine ⟨⟨xs2, u, SqL.of ka2, hu⟩, fun v H3 y => ?_⟩
      obtain ⟨T, x0, rfl, hT, rfl, e1⟩ := y
      have q1 := e1 _ (SqL.of ka2)
      rw [hu] at q1
      cases q1
      refine ⟨.inr ⟨T, _, hT, rfl⟩, ?_⟩
      exact Rep.newTup s2 hT ⟨_, _, rfl, rfl, u, _, rfl, ru, rfl⟩
    | _ => exact False.elim h1
end
end MP

namespace MP
open PySem L2
open PySem.Spec PyProof.Rows
/-! ## a cell's list becomes a value -/
def frzC (n : Nat) (st : Store) : Option Cell → R D
  | some (.lst ds) => .ok (.lst ds) (st.set n .dead)
  | some (.dic ks ds) => .ok (.dic ks ds) (st.set n .dead)
  | _ => .stuck
def frz : D → M D
  | .ref n => fun st => frzC n st st[n]?
  | d => pure d
@[simp] def dFrz (f : Den) : Den := fun ρ => f ρ >>= frz
section
variable {K : Frag} {E : XK} {H : Hp} {o : Lo} {st : Store} {X : Cx}
theorem frz_ok {d : D} {v : V} {Q : VK} (r : Rep K H o d v) (s : StOk K H o st) (h : wpR (frz d st) (VOk K H o Q) (XOk K E H o)) : Q v H := by
  cases d with
  | ref n =>
    obtain ⟨b, rfl, hb⟩ := r
    have h' : wpR (frzC n st st[n]?) (VOk K H o Q) (XOk K E H o) := h
    cases q : st[n]? with
    | none => rw [q] at h'; exact False.elim h'
    | some c =>
      have ck := s.cell n c q
      rw [q] at h'
      cases c with
      | lst ds =>
        obtain ⟨a, xs, e1, e2, e3⟩ := ck
        have e : a = b := by
          rw [e1] at hb
          rcases hb with hb | hb <;> cases hb
          rfl
        subst e
        obtain ⟨s', av⟩ := s.free e1
        exact (show VOk K H o Q (.lst ds) (st.set n .dead) from h') _ _ _ (Le.free (n := n)) s' ⟨a, xs, rfl, e2, av, (Le.free (n := n)).rep.reps e3⟩
      | dic ks ds =>
        obtain ⟨a, kvs, e1, e2, e4, e3⟩ := ck
        have e : a = b := by
          rw [e1] at hb
          rcases hb with hb | hb <;> cases hb
          rfl
        subst e
        obtain ⟨s', av⟩ := s.free e1
        exact (show VOk K H o Q (.dic ks ds) (st.set n .dead) from h') _ _ _ (Le.free (n := n)) s' ⟨a, kvs, rfl, e2, av, e4, (Le.free (n := n)).rep.reps e3⟩
      | _ => exact False.elim h'
  | _ => exact (show VOk K H o Q _ st from h) v H o (Le.refl _ _) s r
theorem pd_frz {e : Expr} {f : Den} (h : PD X E e f) : PD X E e (dFrz f) := PE.imp h fun σ H Q h => by
  obtain ⟨o, ρ, st, he, hs, h⟩ := h
  refine ⟨o, ρ, st, he, hs, ?_⟩
  refine (wpR.bind.mp h).mono (fun d st1 h1 v H1 o1 l s1 r => ?_) fun _ _ x => x
  exact frz_ok (E := E) r s1 (wpR.mono h1 (fun _ _ x => x.mono l) fun _ _ x => x.mono l)
end
end MP

namespace MP
open PySem L2
open PySem.Spec PyProof.Rows
/-! ## dicts with nested tuples as keys, all values True -/
def ksPut (ds : List D) (k : D) : List D := if ds.any (fun x => decide (nk x = nk k)) then ds else ds ++ [k]
def ksPuts (ds ks : List D) : List D := ks.foldl ksPut ds
def ksKey (k : D) : Bool := match k with
  | .tup _ => (nk k).any fun q => decide (q.depth ≤ 8)
  | _ => false
def ksOk (k v : D) : Bool := ksKey k && (match v with | .bl true => true | _ => false)
def ksCell : Option Cell → D → D → Option Cell
  | some (.kset ds), k, v => bif ksOk k v && decide (ds.length < big) then some (.kset (ksPut ds k)) else none
  | some (.dic [] []), k, v => bif ksOk k v then some (.kset [k]) else none
  | _, _, _ => none
def setK : D → D → D → M Unit
  | .ref n, k, v => fun st => match ksCell st[n]? k v with
    | some c => .ok () (st.set n c)
    | none => .stuck
  | _, _, _ => M.stuck
def kaPut (kas : KA) (k : NestedKey × Addr) : KA := if kas.any (fun x => decide (x.1 = k.1)) then kas else kas ++ [k]
def xsN (kas : KA) : List (NestedKey × Addr × Value) := kas.map fun k => (k.1, k.2, .bool true)
theorem atKey_xsN : ∀ (kas : KA) (k : NestedKey), (atKey (xsN kas) k).isSome = kas.any fun x => decide (x.1 = k)
  | [], _ => rfl
  | x :: r, k => by
    have ih := atKey_xsN r k
    unfold atKey at ih ⊢
    unfold xsN at ih ⊢
    by_cases h : x.1 = k
    · simp [h]
    · simp only [List.map_cons, List.find?_cons, h, decide_false, List.any_cons, Bool.false_or]
      exact ih
theorem stored_xsN (kas : KA) (k : NestedKey) (a : Addr) : storedH (xsN kas) k a (.bool true) = xsN (kaPut kas (k, a)) := by
  unfold storedH kaPut
  rw [atKey_xsN]
  split
  · unfold xsN
    rw [List.map_map]
    refine List.map_congr_left fun x _ => ?_
    simp [putAt]
  · simp [xsN]
theorem xsN_length (kas : KA) : (xsN kas).length = kas.length := by simp [xsN]
section
variable {K : Frag} {H : Hp} {o : Lo}
theorem ksR_mem : ∀ {ds : List D} {kas : KA}, ds.map nk = kas.map (fun k => some k.1) → ∀ k ∈ kas, ∃ d ∈ ds, nk d = some k.1
  | [], [], _, k, hk => by cases hk
  | [], _ :: _, h, _, _ => by simp at h
  | _ :: _, [], h, _, _ => by simp at h
  | d :: ds, q :: kas, h, k, hk => by
    simp only [List.map_cons, List.cons.injEq] at h
    rcases List.mem_cons.mp hk with rfl | hk
    · exact ⟨d, List.mem_cons_self, h.1⟩
    · obtain ⟨d', h1, h2⟩ := ksR_mem h.2 k hk
      exact ⟨d', List.mem_cons_of_mem _ h1, h2⟩
theorem ksR_any : ∀ {ds : List D} {kas : KA} {d : D} {q : NestedKey}, ds.map nk = kas.map (fun k => some k.1) → nk d = some q → (ds.any fun x => decide (nk x = nk d)) = kas.any fun x => decide (x.1 = q)
  | [], [], _, _, _, _ => rfl
  | [], _ :: _, _, _, h, _ => by simp at h
  | _ :: _, [], _, _, h, _ => by simp at h
  | x :: ds, y :: kas, d, q, h, e => by
    simp only [List.map_cons, List.cons.injEq] at h
    have ih := ksR_any (d := d) (q := q) h.2 e
    rw [List.any_cons, List.any_cons, ih, h.1, e]
    simp
theorem ksR_put {ds : List D} {kas : KA} {d : D} {q : NestedKey} {a : Addr} (h : KsR ds kas) (e : nk d = some q) (hd : q.depth ≤ 8) : KsR (ksPut ds d) (kaPut kas (q, a)) := by
  obtain ⟨h1, h2, h3⟩ := h
  unfold ksPut kaPut
  rw [ksR_any h1 e]
  cases hk : kas.any fun x => decide (x.1 = q) with
  | true => simp only [if_true]; exact ⟨h1, h2, h3⟩
  | false =>
    simp only [Bool.false_eq_true, if_false]
    refine ⟨by simp [h1, e], ?_, fun k hm => ?_⟩
    · rw [List.map_append]
      refine List.nodup_append.mpr ⟨h2, by simp, fun x hx y hy => ?_⟩
      have hy : y = q := by simpa using hy
      obtain ⟨z, hz, rfl⟩ := List.mem_map.mp hx
      intro e
      have : (kas.any fun x => decide (x.1 = q)) = true := List.any_eq_true.mpr ⟨z, hz, by simp [e, hy]⟩
      rw [hk] at this; cases this
    · rcases List.mem_append.mp hm with hm | hm
      · exact h3 k hm
      · simp at hm; subst hm; exact hd
theorem ksR_reps {ds : List D} {kas : KA} {d : D} {q : NestedKey} {a : Addr} (h : KsR ds kas) (e : nk d = some q) (r : Reps K H o ds (kas.map fun k => V.ref k.2)) (rd : Rep K H o d (.ref a)) : Reps K H o (ksPut ds d) ((kaPut kas (q, a)).map fun k => V.ref k.2) := by
  unfold ksPut kaPut
  rw [ksR_any h.1 e]
  cases hk : kas.any fun x => decide (x.1 = q) with
  | true => simp only [if_true]; exact r
  | false =>
    simp only [Bool.false_eq_true, if_false]
    rw [List.map_append]
    exact r.append (Reps.one rd)
theorem ksR_length {ds : List D} {kas : KA} (h : KsR ds kas) : kas.length = ds.length := by
  have := congrArg List.length h.1
  simpa using this.symm
end
section
variable {E : XK} {H : Hp} {o : Lo} {st : Store} {X : Cx} {pins : List (Addr × Obj)} {σ : L2.St} {s : Shared}
mutual
theorem rep_nested (I : Inv X pins σ H s) : ∀ (d : D) {v : V} {u : Value} {k : NestedKey}, Rep X.K H o d v → RelV v u → nk d = some k → NestedIs s.heap k u
  | .non, v, u, k, r, rv, h => by
    cases (show some NestedKey.none = some k from h); cases (show v = .non from r); cases (show u = .none from rv)
    exact .none
  | .bl b, v, u, k, r, rv, h => by
    cases (show some (NestedKey.num _) = some k from h); cases (show v = .bl b from r); cases (show u = .bool b from rv)
    exact .bool rfl
  | .int i, v, u, k, r, rv, h => by
    cases (show some (NestedKey.num _) = some k from h); cases (show v = .int i from r)
    obtain ⟨t, rfl⟩ := (show ∃ t, u = Value.int i t from rv)
    exact .int i t
  | .tup ds, v, u, k, r, rv, h => by
    obtain ⟨ks, e, rfl⟩ := Option.map_eq_some_iff.mp (show (nks ds).map NestedKey.tup = some k from h)
    obtain ⟨a, xs, rfl, h1, h2⟩ := r
    cases (show u = Value.ref a from rv)
    obtain ⟨its, rvs, ⟨ob, ho, hc, n, hd⟩, _⟩ := I.tuple (tup_sq h1)
    exact .tup ho hc hd (by simpa using reps_nested I ds h2 rvs e)
  | .str _, _, _, _, _, _, h => by cases (show none = some _ from h)
  | .lst _, _, _, _, _, _, h => by cases (show none = some _ from h)
  | .dic _ _, _, _, _, _, _, h => by cases (show none = some _ from h)
  | .scr _, _, _, _, _, _, h => by cases (show none = some _ from h)
  | .ref _, _, _, _, _, _, h => by cases (show none = some _ from h)
  | .kset _, _, _, _, _, _, h => by cases (show none = some _ from h)
  | .cls _, _, _, _, _, _, h => by cases (show none = some _ from h)
  | .exv, _, _, _, _, _, h => by cases (show none = some _ from h)
  | .tupn _, _, _, _, _, _, h => by cases (show none = some _ from h)
  | .thk _ _, _, _, _, _, _, h => by cases (show none = some _ from h)
  | .lam _ _, _, _, _, _, _, h => by cases (show none = some _ from h)
theorem reps_nested (I : Inv X pins σ H s) : ∀ (ds : List D) {vs : List V} {us : List Value} {ks : List NestedKey}, Reps X.K H o ds vs → Vals vs us → nks ds = some ks → NestedAll s.heap ks us
  | [], vs, us, ks, r, rv, h => by
    cases (show some [] = some ks from h)
    cases (show vs = [] from r)
    cases rv
    exact .nil
  | d :: ds, vs, us, ks, r, rv, h => by
    obtain ⟨k, e1, e2⟩ := Option.bind_eq_some_iff.mp (show (nk d).bind (fun k => (nks ds).map (k :: ·)) = some ks from h)
    obtain ⟨ks', e3, rfl⟩ := Option.map_eq_some_iff.mp e2
    obtain ⟨v, vs', rfl, r1, r2⟩ := r
    cases rv with
    | cons rv rvs => exact .cons (rep_nested I d r1 rv e1) (reps_nested I ds r2 rvs e3)
end
theorem setN_is (I : Inv X pins σ H s) {ds : List D} {kas : KA} (h : KsR ds kas) (r : Reps X.K H o ds (kas.map fun k => V.ref k.2)) : ∀ x ∈ xsN kas, (nestedKind X.prog X.w).is s.heap x.1 x.2.1 := by
  intro x hx
  obtain ⟨k, hk, rfl⟩ := List.mem_map.mp hx
  obtain ⟨i, hi, e⟩ := List.getElem_of_mem hk
  have hd : (ds.map nk)[i]? = some (some k.1) := by rw [h.1, List.getElem?_map, List.getElem?_eq_getElem hi, e]; rfl
  rw [List.getElem?_map] at hd
  obtain ⟨d, hd1, hd2⟩ := Option.map_eq_some_iff.mp hd
  obtain ⟨v, hv, rv⟩ := r.get hd1
  rw [List.getElem?_map, List.getElem?_eq_getElem hi, e] at hv
  cases hv
  exact ⟨rep_nested I d rv (show RelV (.ref k.2) (.ref k.2) from rfl) hd2, h.2.2 k hk⟩
theorem entN_eq {P : Program} {w : World} {ds : List D} {kas : KA} (h : ds.map nk = kas.map fun k => some k.1) : kas.map entN = (xsN kas).map (entryOfKey (nestedKind P w)) := by
  unfold xsN
  rw [List.map_map]
  refine List.map_congr_left fun k hk => ?_
  obtain ⟨d, _, hd⟩ := ksR_mem h k hk
  show entN k = ⟨NestedKey.hash w k.1, .ref k.2, .bool true⟩
  rw [nk_hash d _ hd]
  rfl
theorem setN_dict (I : Inv X pins σ H s) {ds : List D} {kas : KA} {a : Addr} {ob : Obj} (k : KsAt s.heap a ob kas) (h : KsR ds kas) (r : Reps X.K H o ds (kas.map fun k => V.ref k.2)) : s.heap.DictOfH (nestedKind X.prog X.w) a (xsN kas) := by
  obtain ⟨_, _, k1, k2, es, ep, k3, k4⟩ := k
  exact ⟨ob, es, ep, k1, k2, k3, by rw [k4]; exact entN_eq h.1, setN_is I h r, by have := h.2.1; simpa [xsN, Function.comp_def] using this⟩
theorem dict_setN {P : Program} {w : World} {h : Heap} {ds : List D} {kas : KA} {a : Addr} (x : h.DictOfH (nestedKind P w) a (xsN kas)) (hs : (a == sysModules) = false) (hl : kas.length ≤ sizeLine) (hr : ds.map nk = kas.map fun k => some k.1) : ∃ ob, KsAt h a ob kas := by
  obtain ⟨ob, es, ep, h1, h2, h3, h4, _, _⟩ := x
  exact ⟨ob, hl, hs, h1, h2, es, ep, h3, by rw [h4]; exact (entN_eq hr).symm⟩
theorem ksOk_of {k v : D} {x : V} (h : ksOk k v = true) (r : Rep X.K H o k x) : v = .bl true ∧ (∃ a, x = .ref a) ∧ ∃ q, nk k = some q ∧ q.depth ≤ 8 := by
  unfold ksOk at h
  rw [Bool.and_eq_true] at h
  obtain ⟨h1, h2⟩ := h
  have hv : v = .bl true := by
    cases v with
    | bl b => cases b with
      | true => rfl
      | false => cases h2
    | _ => cases h2
  cases k with
  | tup es =>
    obtain ⟨q, e1, e2⟩ := Option.any_eq_true_iff_get .. |>.mp h1 |> fun ⟨hs, hh⟩ => (⟨(nk (.tup es)).get hs, (Option.some_get hs).symm, of_decide_eq_true hh⟩ : ∃ q, nk (.tup es) = some q ∧ q.depth ≤ 8)
    obtain ⟨a, _, rfl, _⟩ := r
    exact ⟨hv, ⟨a, rfl⟩, q, e1, e2⟩
  | _ => cases h1
theorem kset_put (hu : X.A.units + 64 < cLine) (I : Inv X pins σ H s) {ds : List D} {kas : KA} {a p : Addr} {d : D} {q : NestedKey} {ob : Obj} (hk : KsAt s.heap a ob kas) (hm : Mut (H a)) (hR : KsR ds kas) (hr : Reps X.K H o ds (kas.map fun k => V.ref k.2)) (hd : Rep X.K H o d (.ref p)) (e : nk d = some q) (dp : q.depth ≤ 8) (hl : ds.length < sizeLine)
    {Q : Unit → Shared → Prop} {Z : Value → Shared → Prop} (h : ∀ s', Inv X pins σ (upd H a (SetN a (kaPut kas (q, p)))) s' → Q () s') : wpAny (model X.prog X.w) X.A (setItem (.ref a) (.ref p) (.bool true)) Q Z s := by
  have hl' : kas.length < sizeLine := by rw [ksR_length hR]; exact hl
  refine wpAny_setItem_heap (knd := nestedKind X.prog X.w) (k := q) (xs := xsN kas) (show X.A.in1.units + 8 < cLine from ?_) ⟨rep_nested I d hd (show RelV (.ref p) (.ref p) from rfl) e, dp⟩ (setN_dict I hk hR hr) (fun h' hm' sb => ?_) (by rw [xsN_length]; exact Nat.le_of_lt hl')
  · show X.A.units + 1 + 8 < cLine
    omega
  · rw [stored_xsN] at hm'
    have hR' := ksR_put (a := p) hR e dp
    have hz : (kaPut kas (q, p)).length ≤ sizeLine := by
      unfold kaPut
      split
      · exact Nat.le_of_lt hl'
      · simp; omega
    obtain ⟨ob', k'⟩ := dict_setN (ds := ksPut ds d) hm' hk.2.1 hz hR'.1
    exact h _ (I.write (e := a) (t' := _) hm (.inl rfl) (fun b u hb hu => (sb.2 b hb).trans hu) ⟨_, k'.2.2.1⟩ k'.newN)
theorem sd_setK (hu : X.A.units + 64 < cLine) : PSet X (tSetD X.K E setK) := by
  intro pins s σ H x i v ov iv u Q I rx ri rv h
  obtain ⟨o, st, dx, di, dv, r1, r2, r3, so, h⟩ := h
  cases dx with
  | ref n =>
    have h' : wpR (match ksCell st[n]? di dv with | some c => R.ok () (st.set n c) | none => .stuck) (UOk X.K H o Q) (XOk X.K E H o) := h
    cases q : st[n]? with
    | none => rw [q] at h'; exact False.elim h'
    | some c =>
      rw [q] at h'
      obtain ⟨b, e0, h1⟩ := r1
      subst e0
      cases rx
      have at_ : ∀ {a}, o.l[n]? = some (some a) → b = a := fun {a} e1 => by
        rw [e1] at h1
        rcases h1 with h1 | h1
        · cases h1; rfl
        · cases h1
      cases c with
      | kset ds =>
        obtain ⟨a, kas, e1, e2, e3, e4⟩ := so.cell n _ q
        cases at_ e1
        have h2 : wpR (match (bif ksOk di dv && decide (ds.length < big) then some (Cell.kset (ksPut ds di)) else none) with | some c => R.ok () (st.set n c) | none => .stuck) (UOk X.K H o Q) (XOk X.K E H o) := h'
        cases qb : ksOk di dv && decide (ds.length < big) with
        | false => rw [qb] at h2; exact False.elim h2
        | true =>
          rw [qb] at h2
          rw [Bool.and_eq_true] at qb
          obtain ⟨rfl, ⟨p, rfl⟩, k, ek, dk⟩ := ksOk_of qb.1 r2
          cases ri
          cases (show v = .bl true from r3)
          cases (show u = Value.bool true from rv)
          obtain ⟨⟨ob, hob⟩, _⟩ := I.hok b _ e2
          have hm : some b ∈ o.l := List.mem_of_getElem? e1
          refine kset_put hu I hob (by rw [e2]; trivial) e3 e4 r2 ek dk (Nat.lt_of_lt_of_le (of_decide_eq_true qb.2) big_le) fun s' I' => ⟨_, I', ?_⟩
          exact (show UOk X.K H o Q () (st.set n (.kset (ksPut ds di))) from h2) _ o (Le.write hm) (so.write e1 ⟨b, _, rfl, upd_same, ksR_put e3 ek dk, (Le.write hm).rep.reps (ksR_reps e3 ek e4 r2)⟩)
      | dic ks ds =>
        obtain ⟨a, kvs, e1, e2, e3, e4⟩ := so.cell n _ q
        cases at_ e1
        cases ks with
        | cons _ _ => cases ds <;> exact False.elim h'
        | nil =>
          cases ds with
          | cons _ _ => exact False.elim h'
          | nil =>
            have h2 : wpR (match (bif ksOk di dv then some (Cell.kset [di]) else none) with | some c => R.ok () (st.set n c) | none => .stuck) (UOk X.K H o Q) (XOk X.K E H o) := h'
            cases qb : ksOk di dv with
            | false => rw [qb] at h2; exact False.elim h2
            | true =>
              rw [qb] at h2
              obtain ⟨rfl, ⟨p, rfl⟩, k, ek, dk⟩ := ksOk_of qb r2
              cases ri
              cases (show v = .bl true from r3)
              cases (show u = Value.bool true from rv)
              have ekv : kvs = [] := List.map_eq_nil_iff.mp e3
              subst ekv
              obtain ⟨_, hsm, vs, kv, ob, es, ep, ho, hx, hdt, _, he, _⟩ := I.hok b _ e2
              cases kv
              have he : es.toList = [] := by cases hq : es.toList with
                | nil => rfl
                | cons _ _ => rw [hq] at he; cases he
              have hob : KsAt s.heap b ob [] := ⟨Nat.zero_le _, hsm, ho, hx, es, ep, hdt, by simpa using he⟩
              have hm : some b ∈ o.l := List.mem_of_getElem? e1
              have R0 : KsR [] ([] : KA) := ⟨rfl, List.nodup_nil, fun _ h => nomatch h⟩
              refine kset_put (ds := []) hu I hob (by rw [e2]; trivial) R0 rfl r2 ek dk (by rw [sizeLine_eq]; decide) fun s' I' => ⟨_, I', ?_⟩
              exact (show UOk X.K H o Q () (st.set n (.kset [di])) from h2) _ o (Le.write hm) (so.write e1 ⟨b, _, rfl, upd_same, ksR_put (ds := []) R0 ek dk, (Le.write hm).rep.reps (ksR_reps (ds := []) R0 ek rfl r2)⟩)
      | _ => exact False.elim h'
  | _ => exact False.elim h
@[simp] def gSubK (fo fi : Den) : DenG := fun d ρ => fo ρ >>= fun x => fi ρ >>= fun i => setK x i d >>= fun _ => pure ρ
theorem dg_subK {a i : Expr} {fo fi : Den} {pos : Pos} (hu : X.A.units + 64 < cLine) (ho : PD X E a fo) (hi : PD X E i fi)
    (ha : ∀ v, assign (.Subscript a i pos) X.env v = (do
      let ov ← holding [v] (eval a X.env)
      let iv ← holding [v, ov] (eval i X.env)
      standAt pos
      holding [v, ov, iv] (setItem ov iv v)
      release [v, ov, iv] [])) : PDG X E (.Subscript a i pos) (gSubK fo fi) :=
  PG.imp (pg_sub ho hi (sd_setK (E := E) hu) ha) fun v σ H Q h => by
    obtain ⟨o, ρ, st, d, he, hs, r, h⟩ := h
    refine ⟨o, ρ, st, he, hs, ?_⟩
    refine (wpR.bind.mp h).mono (fun x st1 h1 vx H1 o1 l1 s1 r1 => ⟨o1, ρ, st1, he.mono l1.rep, s1, ?_⟩) fun _ _ x => x
    refine (wpR.bind.mp h1).mono (fun i st2 h2 vi H2 o2 l2 s2 r2 => ⟨o2, st2, x, i, d, Rep.mono l2 _ _ r1, r2, Rep.mono (l1.trans l2) _ _ r, s2, ?_⟩) fun _ _ x => x.mono l1
    have l12 := l1.trans l2
    refine wpR.mono (wpR.bind.mp h2) (fun u st3 h3 H3 o3 l3 s3 => ?_) fun _ _ x => x.mono l12
    exact (show EOk X.K H o Q ρ st3 from h3) σ H3 o3 (l12.trans l3) s3 (he.mono ((l12.trans l3).rep))
end
/-! ### dict([(k, True), ..]) -/
def ksPairs : List D → Option (List D)
  | [] => some []
  | .tup [k, .bl true] :: r => bif ksKey k then (ksPairs r).map (k :: ·) else none
  | _ => none
def ksAlloc (n : Nat) : Option (List D) → M D
  | some ks => guardM (decide (n ≤ big)) (M.alloc (.kset (ksPuts [] ks)))
  | none => M.stuck
def biDictK : D → M D
  | .lst ps => ksAlloc ps.length (ksPairs ps)
  | _ => M.stuck
def kaPuts (kas more : KA) : KA := more.foldl kaPut kas
theorem stored_all : ∀ (more kas : KA), storedAllH (xsN kas) (xsN more) = xsN (kaPuts kas more)
  | [], kas => rfl
  | k :: more, kas => by
    show storedAllH (storedH (xsN kas) k.1 k.2 (.bool true)) (xsN more) = xsN (kaPuts (kaPut kas k) more)
    rw [stored_xsN]
    exact stored_all more _
theorem kaPut_length (kas : KA) (k : NestedKey × Addr) : (kaPut kas k).length ≤ kas.length + 1 := by
  unfold kaPut
  split <;> simp
theorem kaPuts_length : ∀ (more kas : KA), (kaPuts kas more).length ≤ kas.length + more.length
  | [], kas => Nat.le_refl _
  | k :: more, kas => by
    have h1 := kaPuts_length more (kaPut kas k)
    have h2 := kaPut_length kas k
    show (kaPuts (kaPut kas k) more).length ≤ kas.length + (more.length + 1)
    omega
section
variable {K : Frag} {H : Hp} {o : Lo}
theorem ksPuts_ok : ∀ {ks ds : List D} {more kas : KA}, KsR ds kas → Reps K H o ds (kas.map fun k => V.ref k.2) → ks.map nk = more.map (fun k => some k.1) → (∀ k ∈ more, k.1.depth ≤ 8) → Reps K H o ks (more.map fun k => V.ref k.2) →
    KsR (ksPuts ds ks) (kaPuts kas more) ∧ Reps K H o (ksPuts ds ks) ((kaPuts kas more).map fun k => V.ref k.2)
  | [], ds, [], kas, hR, r, _, _, _ => ⟨hR, r⟩
  | [], _, _ :: _, _, _, _, h, _, _ => by simp at h
  | _ :: _, _, [], _, _, _, h, _, _ => by simp at h
  | k :: ks, ds, (q, a) :: more, kas, hR, r, h, hd, rk => by
    simp only [List.map_cons, List.cons.injEq] at h
    obtain ⟨v, vs, e, r1, r2⟩ := rk
    obtain ⟨rfl, rfl⟩ := List.cons.inj e
    have h8 : q.depth ≤ 8 := hd _ List.mem_cons_self
    have h9 := ksPuts_ok (ks := ks) (more := more) (ds := ksPut ds k) (kas := kaPut kas (q, a)) (ksR_put hR h.1 h8) (ksR_reps hR h.1 r r1) h.2 (fun x hx => hd x (List.mem_cons_of_mem _ hx)) r2
    exact h9
theorem ksKey_of {k : D} {x : V} (h : ksKey k = true) (r : Rep K H o k x) : (∃ a, x = .ref a) ∧ ∃ q, nk k = some q ∧ q.depth ≤ 8 := by
  cases k with
  | tup es =>
    have h' : (nk (.tup es)).any (fun q => decide (q.depth ≤ 8)) = true := h
    cases e : nk (.tup es) with
    | none => rw [e] at h'; cases h'
    | some q =>
      rw [e] at h'
      obtain ⟨a, _, rfl, _⟩ := r
      exact ⟨⟨a, rfl⟩, q, rfl, by simpa using h'⟩
  | _ => cases h
theorem ksPairs_reps : ∀ {ps ks : List D} {vs : List V}, ksPairs ps = some ks → Reps K H o ps vs → ∃ (Ts : List Addr) (more : KA), vs = Ts.map V.ref ∧ ks.map nk = more.map (fun k => some k.1) ∧ (∀ k ∈ more, k.1.depth ≤ 8) ∧ Reps K H o ks (more.map fun k => V.ref k.2) ∧ Ts.length = more.length ∧ ∀ (i : Nat) (T : Addr) (k : NestedKey × Addr), Ts[i]? = some T → more[i]? = some k → SqT K H T [.ref k.2, .bl true]
  | [], ks, vs, h, r => by
    cases (show some [] = some ks from h)
    cases (show vs = [] from r)
    exact ⟨[], [], rfl, rfl, (fun _ h => nomatch h), rfl, rfl, fun i T k h => by simp at h⟩
  | p :: ps, ks, vs, h, r => by
    obtain ⟨v, vs', rfl, r1, r2⟩ := r
    match p, h, r1 with
    | .tup [k, .bl true], h, r1 =>
      have h' : (bif ksKey k then (ksPairs ps).map (k :: ·) else none) = some ks := h
      cases hk : ksKey k with
      | false => rw [hk] at h'; cases h'
      | true =>
        rw [hk] at h'
        obtain ⟨ks', e, rfl⟩ := Option.map_eq_some_iff.mp h'
        obtain ⟨Ts, more, rfl, e1, e2, e3, e4, e5⟩ := ksPairs_reps e r2
        obtain ⟨a, xs, rfl, h1, h2⟩ := r1
        obtain ⟨x, xs', rfl, hx, y, xs'', rfl, hy, hz⟩ := h2
        cases (show xs'' = [] from hz)
        cases (show y = .bl true from hy)
        obtain ⟨⟨b, rfl⟩, q, hq, dq⟩ := ksKey_of hk hx
        refine ⟨a :: Ts, (q, b) :: more, rfl, by simp [hq, e1], fun k hk => ?_, ⟨_, _, rfl, hx, e3⟩, by simp [e4], fun i T k hT hk => ?_⟩
        · rcases List.mem_cons.mp hk with rfl | hk
          · exact dq
          · exact e2 k hk
        · cases i with
          | zero => simp at hT hk; subst hT; subst hk; exact tup_sq h1
          | succ i => exact e5 i T k (by simpa using hT) (by simpa using hk)
end
section
variable {E : XK} {H : Hp} {o : Lo} {st : Store} {X : Cx}
theorem cd_dictK (hc : X.calm = true) (hu : X.A.units + 64 < cLine) : CallD X E (.type "dict") (on1 biDictK) := cd_on1 fun pins s σ H v us Q d o st I r r1 so h => by
  cases d with
  | lst ps =>
    have h' : wpR (ksAlloc ps.length (ksPairs ps) st) (VOk X.K H o Q) (XOk X.K E H o) := h
    cases hp : ksPairs ps with
    | none => rw [hp] at h'; exact False.elim h'
    | some ks =>
      rw [hp] at h'
      obtain ⟨hl, h2⟩ := guardM_wp h'
      have hl := of_decide_eq_true hl
      obtain ⟨a, xs, rfl, k1, av, q1⟩ := r1
      obtain ⟨Ts, more, rfl, e1, e2, e3, e4, e5⟩ := ksPairs_reps hp q1
      obtain ⟨u, rfl, ru⟩ := r.one
      cases ru
      obtain ⟨its, rv, pl, hz⟩ := I.list (SqL.of k1)
      have ei := refs_at rv
      subst ei
      have lT : Ts.length = ps.length := by have := q1.length; simpa using this
      have hpair : ∀ (i : Nat) (k : NestedKey × Addr), more[i]? = some k → ∃ T, Ts[i]? = some T ∧ s.heap.IsTuple T #[.ref k.2, .bool true] := fun i k hk => by
        have hi : i < Ts.length := by rw [e4]; exact (List.getElem?_eq_some_iff.mp hk).1
        obtain ⟨its, rv, p, _⟩ := I.tuple (e5 i _ k (List.getElem?_eq_getElem hi) hk)
        refine ⟨_, List.getElem?_eq_getElem hi, ?_⟩
        cases rv with
        | cons rx rv =>
        cases rv with
        | cons ry rv =>
        cases rv
        cases rx
        cases ry
        exact p
      let psV : List (Value × Value) := more.map fun k => (.ref k.2, .bool true)
      have lV : psV.length = ps.length := by simp only [psV, List.length_map]; rw [← e4, lT]
      obtain ⟨ob, n, ho, hcl, hdn, hdat⟩ := pl
      refine call_dict_pairsH (knd := nestedKind X.prog X.w) (ps := xsN more) (PairArg.list a (Ts.map Value.ref).toArray (fun j => (Ts[j]?).getD 0) psV) (I.ok.hd hc) (show X.A.in1.in1.units + 8 < cLine from ?_) ⟨⟨ob, n, ho, hcl, hdn, hdat⟩, ?_, fun j k v hj => ?_⟩ ⟨?_, fun i key v hr => ?_⟩ (fun h' hk x hx => ?_) ?_ fun h' tk hm' hk => ?_
      · show X.A.units + 1 + 1 + 8 < cLine
        omega
      · simp only [psV, List.size_toArray, List.length_map]; exact e4
      · have hj' : (more.map fun k => ((Value.ref k.2, Value.bool true) : Value × Value))[j]? = some (k, v) := hj
        rw [List.getElem?_map] at hj'
        obtain ⟨m, hm, e⟩ := Option.map_eq_some_iff.mp hj'
        cases e
        obtain ⟨T, hT, hpT⟩ := hpair j m hm
        have eT : (Ts[j]?).getD 0 = T := by rw [hT]; rfl
        show (Ts.map Value.ref).toArray[j]? = some (.ref ((Ts[j]?).getD 0)) ∧ PairAt s.heap ((Ts[j]?).getD 0) (.ref m.2) (.bool true)
        rw [eT]
        exact ⟨by simp [hT], .inl hpT⟩
      · rw [xsN_length, lV, ← lT, e4]
      · have hr' : (more.map fun k => ((Value.ref k.2, Value.bool true) : Value × Value))[i]? = some (key, v) := hr
        rw [List.getElem?_map] at hr'
        obtain ⟨m, hm, e⟩ := Option.map_eq_some_iff.mp hr'
        cases e
        exact ⟨m.1, m.2, by unfold xsN; rw [List.getElem?_map, hm]; rfl, rfl⟩
      · obtain ⟨m, hm, rfl⟩ := List.mem_map.mp hx
        obtain ⟨i, hi, e⟩ := List.getElem_of_mem hm
        have hd : (ks.map nk)[i]? = some (some m.1) := by rw [e1, List.getElem?_map, List.getElem?_eq_getElem hi, e]; rfl
        rw [List.getElem?_map] at hd
        obtain ⟨d, hd1, hd2⟩ := Option.map_eq_some_iff.mp hd
        obtain ⟨v, hv, rv⟩ := e3.get hd1
        rw [List.getElem?_map, List.getElem?_eq_getElem hi, e] at hv
        cases hv
        exact nestedKind_stays.stays (fun b o vs n hb _ => hk b o (Nat.ne_of_lt (Heap.lt_size hb)) (by simp) hb) ⟨rep_nested I d rv (show RelV (.ref m.2) (.ref m.2) from rfl) hd2, e2 m hm⟩
      · rw [lV]; exact Nat.le_trans hl big_le
      · have hm2 : h'.DictOfH (nestedKind X.prog X.w) s.heap.objs.size (xsN (kaPuts [] more)) := by
          rw [← stored_all]; exact hm'
        have R0 : KsR [] ([] : KA) := ⟨rfl, List.nodup_nil, fun _ h => nomatch h⟩
        have hp0 : H s.heap.objs.size = none := I.hok.fresh (Nat.le_refl _)
        obtain ⟨R1, P1⟩ := ksPuts_ok (ks := ks) (ds := []) R0 (show Reps X.K H o [] ([].map _) from rfl) e1 e2 e3
        have hsm : (s.heap.objs.size == sysModules) = false := beq_eq_false_iff_ne.mpr (Nat.ne_of_gt I.big)
        have hln : (kaPuts [] more).length ≤ sizeLine := by
          have := kaPuts_length more []
          rw [← e4, lT] at this
          simp at this
          exact Nat.le_trans this (Nat.le_trans hl big_le)
        obtain ⟨ob', k'⟩ := dict_setN (ds := ksPuts [] ks) hm2 hsm hln R1.1
        refine ⟨.ref s.heap.objs.size, upd H s.heap.objs.size (SetN s.heap.objs.size (kaPuts [] more)), I.laid (t' := tk) (fun b u hb => hk b u (by simp) hb) (Nat.le_refl _) k'.newN, rfl, ?_⟩
        exact ok_alloc h2 so hp0 ⟨_, _, rfl, upd_same, R1, (Le.alloc hp0).rep.reps P1⟩
  | _ => exact False.elim h
/-! ### list(d) -/
def ksLst (n : Nat) (st : Store) : Option Cell → R D
  | some (.kset ds) => .ok (.lst ds) st
  | _ => .stuck
def biListK : D → M D
  | .ref n => fun st => ksLst n st st[n]?
  | _ => M.stuck
theorem ents_keys {kas : KA} {es : Array DictEntry} {acc : Array Value} (he : es.toList = kas.map entN) (hs : acc.size = es.size) (hk : ∀ (j : Nat) (v : Value), acc[j]? = some v → ∃ en : DictEntry, es[j]? = some en ∧ v = en.key) : acc.toList = (kas.map (·.2)).map Value.ref := by
  have l1 : es.size = kas.length := by rw [← Array.length_toList, he, List.length_map]
  apply List.ext_getElem?
  intro j
  rw [List.getElem?_map, List.getElem?_map]
  cases hj : acc.toList[j]? with
  | none =>
    have h1 := List.getElem?_eq_none_iff.mp hj
    rw [Array.length_toList] at h1
    rw [List.getElem?_eq_none (by omega)]
    rfl
  | some v =>
    obtain ⟨en, hen, rfl⟩ := hk j v (by rw [← Array.getElem?_toList]; exact hj)
    rw [← Array.getElem?_toList, he, List.getElem?_map] at hen
    obtain ⟨k, hk', rfl⟩ := Option.map_eq_some_iff.mp hen
    rw [hk']
    rfl
theorem cd_listK (hc : X.calm = true) : CallD X E (.type "list") (on1 biListK) := cd_on1 fun pins s σ H v us Q d o st I r r1 so h => by
  cases d with
  | ref n =>
    have h' : wpR (ksLst n st st[n]?) (VOk X.K H o Q) (XOk X.K E H o) := h
    cases q : st[n]? with
    | none => rw [q] at h'; exact False.elim h'
    | some c =>
      rw [q] at h'
      cases c with
      | kset ds =>
        obtain ⟨a, kas, e1, e2, e3, e4⟩ := so.cell n _ q
        obtain ⟨b, rfl, hb⟩ := r1
        have e : a = b := by
          rw [e1] at hb
          rcases hb with hb | hb <;> cases hb
          rfl
        subst e
        obtain ⟨u, rfl, rx⟩ := r.one
        cases rx
        obtain ⟨⟨ob, z, hs, ho, hx, es, ep, hdt, he⟩, _⟩ := I.hok a _ e2
        have l1 : es.size = kas.length := by rw [← Array.length_toList, he, List.length_map]
        refine PySem.W.kdl_call (kdl_raw hs hx hdt) (I.ok.hd hc) ho (by omega) fun g tk acc c kp e it => ?_
        have ea := ents_keys he it.1 it.2
        have rv : Vals ((kas.map (·.2)).map V.ref) acc.toList := by rw [ea]; exact vals_refs _
        have hz : ((kas.map (·.2)).map V.ref).length ≤ sizeLine := by simpa using z
        have hp0 : H s.heap.objs.size = none := I.hok.fresh (Nat.le_refl _)
        refine ⟨.ref s.heap.objs.size, _, I.laid (t' := tk) (o := .lst ((kas.map (·.2)).map V.ref)) kp (Nat.le_refl _) ⟨hz, acc.toList, c, rv, by rw [Array.toArray_toList]; exact e⟩, rfl, ?_⟩
        refine ok_newLst h' so ?_ hp0
        rw [List.map_map]
        exact e4
      | _ => exact False.elim h'
  | _ => exact False.elim h
end
/-! ### for k in d -/
section
variable {K : Frag} {H : Hp} {o : Lo} {st : Store}
theorem StOk.freeW {n : Nat} {a : Addr} {u : HO} (s : StOk K H o st) (hl : o.l[n]? = some (some a)) : StOk K (upd H a u) { o with l := o.l.set n none } (st.set n .dead) ∧ Le H o (upd H a u) { o with l := o.l.set n none } ∧ Lo.av { o with l := o.l.set n none } a := by
  have hm : some a ∈ o.l := List.mem_of_getElem? hl
  have hn0 : n < o.l.length := (List.getElem?_eq_some_iff.mp hl).1
  obtain ⟨s1, av⟩ := s.free hl
  have le : Le H o (upd H a u) { o with l := o.l.set n none } := (Le.write hm).trans Le.free
  refine ⟨⟨s1.len, s1.nd, fun b hb => ?_, fun m c e => ?_, fun q hq => (s.tb q hq).mono fun b w e v => ⟨by rw [upd_ne (fun q => v.1 (by rw [q]; exact hm))]; exact e, (KpA.free (H := H) b w e v).2⟩⟩, le, av⟩
  · obtain ⟨⟨w, e⟩, nm⟩ := s1.zt b hb
    exact ⟨⟨w, by rw [upd_ne (fun q => av.2 (by rw [← q]; exact hb))]; exact e⟩, nm⟩
  · by_cases hn : n = m
    · subst hn
      rw [List.getElem?_set_self (by rw [← s.len]; exact hn0)] at e
      cases e
      exact List.getElem?_set_self hn0
    · rw [List.getElem?_set_ne hn] at e
      show CellOk _ _ _ ((o.l.set n none)[m]?) c
      rw [List.getElem?_set_ne hn]
      exact (s.cell m c e).mono le.rep fun b w e1 e2 => by rw [upd_ne (fun q => hn (by subst q; exact s.nd n m _ hl e1))]; exact e2
end
def Itks (d : Addr) (o : Obj) (kas : KA) : It :=
  ⟨fun i H => H d = some (KsO d o kas) ∧ i < kas.length, fun i H x H' => H' = H ∧ ∃ k, kas[i]? = some k ∧ x = .ref k.2, fun i H => H d = some (KsO d o kas) ∧ kas.length ≤ i⟩
theorem turn_ks {P : Program} {w : World} {K : Frag} {tg : Expr} {d : Addr} {o : Obj} {es : Array DictEntry} {ep : Nat} {kas : KA} (it : Addr) (hod : o.data = .dict es ep) (he : es.toList = kas.map entN) :
    Turn P w K tg (Itks d o kas) [it] it (fun i h => h.IsKeyIter it d i kas.length ep) where
  mem := by simp
  obj := fun i h st b hb => by
    have e : b = it := by simpa using hb
    subst e; obtain ⟨oi, e, c, dd⟩ := st
    exact ⟨oi, e, fun v z => by rw [dd] at z; cases z⟩
  keep := fun i h h' st k => st.at fun oi e => k it (by simp) oi e
  item := by
    intro X hP hw hK hc i pins s σ H E I hf st hg; subst hP hw hK
    obtain ⟨hd, hi⟩ := hg
    obtain ⟨f0, f1, f2, f3, f4, f5⟩ := hf it (by simp)
    obtain ⟨⟨_, hs, hgd, hx, _⟩, _⟩ := I.hok d _ hd
    have hsz : es.size = kas.length := by rw [← Array.length_toList, he, List.length_map]
    have hen : es[i]? = some (entN kas[i]) := by rw [← Array.getElem?_toList, he, List.getElem?_map, List.getElem?_eq_getElem hi]; rfl
    refine next_key_item st hgd hod hsz hen fun h' st' sb => ?_
    have I1 : Inv X pins σ H { s with heap := h' } := I.turned (t' := s.toks) (fun b ob hb e => (sb.2 b hb).trans e) f0 f1 f3 f4 f5
    obtain ⟨oi, e, c, dd⟩ := id st'
    exact ⟨.ref kas[i].2, rfl, go_of (s := { s with heap := h' }) e c dd (by decide) ⟨.ref kas[i].2, H, I1, rfl, ⟨rfl, kas[i], List.getElem?_eq_getElem hi, rfl⟩, st', fun b hb => (hf b hb).1⟩⟩
  done := by
    intro X hP hw hK hc i pins s σ H E I hf st hg; subst hP hw hK
    obtain ⟨hd, hi⟩ := hg
    obtain ⟨f0, f1, f2, f3, f4, f5⟩ := hf it (by simp)
    obtain ⟨⟨_, hs, hgd, hx, _⟩, _⟩ := I.hok d _ hd
    have hsz : es.size = kas.length := by rw [← Array.length_toList, he, List.length_map]
    exact next_key_end (I.ok.hd hc) st hgd hod hsz hi fun h' eb => ⟨rfl, I.turned (t' := s.toks) (fun b ob hb e => eb b ob hb e) f0 f1 f3 f4 f5⟩
  self := fun A i s Q E st h => wpAny_pyIter_keyiter st h
def iKsT (td : TE) : TI := fun σ H R => td σ H fun x H1 => ∃ d, x = .ref d ∧ ((∃ kas, H1 d = some (SetN d kas) ∧ ∀ o, R (Itks d o kas) (upd H1 d (KsO d o kas))) ∨ (H1 d = some (.dK []) ∧ ∀ o, R (Itks d o []) (upd H1 d (KsO d o []))))
theorem pi_ks {X : Cx} {tg e : Expr} {td : TE} (he : PE X e td) : PI X tg e (iKsT td) := by
  refine ⟨fun pins s σ H R I h => ?_⟩
  refine thn (he.run pins s σ H _ I h) fun u s1 ⟨x, H1, I1, rx, d, ex, q⟩ => ?_
  subst ex
  cases rx
  have go : ∀ (kas : KA) (o : Obj), KsAt s1.heap d o kas → Mut (H1 d) → R (Itks d o kas) (upd H1 d (KsO d o kas)) → wpAny (model X.prog X.w) X.A (pyIter (.ref d)) (PIE X pins σ tg R) X.xe s1 := fun kas o k hm hR => by
    have I2 : Inv X pins σ (upd H1 d (KsO d o kas)) s1 := I1.write (e := d) (t' := s1.toks) hm (.inl rfl) (fun b u _ hu => hu) ⟨_, k.2.2.1⟩ k.new
    obtain ⟨_, hs, hgd, hx, es, ep, hdt, hee⟩ := k
    refine iter_keys hs hgd hx hdt (pi_one (tk := s1.toks) I2 _ (turn_ks _ hdt hee) ⟨_, Heap.get?_push_size _ rfl, rfl, ?_⟩ hR)
    rw [show es.size = kas.length by rw [← Array.length_toList, hee, List.length_map]]
    rfl
  rcases q with ⟨kas, hd, q⟩ | ⟨hd, q⟩
  · obtain ⟨⟨o, k⟩, _⟩ := I1.hok d _ hd
    exact go kas o k (by rw [hd]; trivial) (q o)
  · obtain ⟨_, hsm, vs, kv, ob, es, ep, ho, hx, hdt, _, hee, _⟩ := I1.hok d _ hd
    cases kv
    have he' : es.toList = [] := by cases hq : es.toList with
      | nil => rfl
      | cons _ _ => rw [hq] at hee; cases hee
    exact go [] ob ⟨Nat.zero_le _, hsm, ho, hx, es, ep, hdt, by simpa using he'⟩ (by rw [hd]; trivial) (q ob)
def ksOpenC (n : Nat) (st : Store) : Option Cell → R (List D)
  | some (.kset ds) => .ok ds (st.set n .dead)
  | some (.dic [] []) => .ok [] (st.set n .dead)
  | _ => .stuck
def ksOpen : D → M (List D)
  | .ref n => fun st => ksOpenC n st st[n]?
  | _ => M.stuck
@[simp] def iKs (f : Den) : DenI := fun ρ => f ρ >>= ksOpen
section
variable {E : XK} {H : Hp} {o : Lo} {st : Store} {X : Cx}
theorem walks_ks {K : Frag} {a : Addr} {ob : Obj} {kas : KA} {ds : List D} (hH : H a = some (KsO a ob kas)) (av : o.av a) (hk : Reps K H o ds (kas.map fun k => V.ref k.2)) : Walks K H o (Itks a ob kas) ds := fun H1 o1 st1 l s1 => by
  obtain ⟨h1, _⟩ := l.kp a _ hH av
  have r1 := l.rep.reps hk
  have hl : kas.length = ds.length := by have := hk.length; simpa using this
  refine ⟨⟨h1, Nat.le_of_eq hl⟩, fun i d hd => ?_⟩
  have hi : i < kas.length := by rw [hl]; exact (List.getElem?_eq_some_iff.mp hd).1
  refine ⟨⟨h1, hi⟩, fun x H2 y => ?_⟩
  obtain ⟨rfl, k, hk1, rfl⟩ := y
  obtain ⟨v, hv, rv⟩ := r1.get hd
  rw [List.getElem?_map, hk1] at hv
  cases hv
  exact ⟨.inl rfl, rv⟩
theorem di_ks {tg e : Expr} {f : Den} (h : PD X E e f) : PDI X E tg e (iKs f) := PI.imp (pi_ks h) fun σ H R h => by
  obtain ⟨o, ρ, st, he, hs, h⟩ := h
  refine ⟨o, ρ, st, he, hs, ?_⟩
  refine (wpR.bind.mp h).mono (fun d st1 h1 v H1 o1 l s1 r => ?_) fun _ _ x => x
  cases d with
  | ref n =>
    obtain ⟨b, rfl, hb⟩ := r
    have h' : wpR (ksOpenC n st1 st1[n]?) (IOk X.K H o R) (XOk X.K E H o) := h1
    refine ⟨b, rfl, ?_⟩
    cases q : st1[n]? with
    | none => rw [q] at h'; exact False.elim h'
    | some c =>
      rw [q] at h'
      cases c with
      | kset ds =>
        obtain ⟨a, kas, e1, e2, e3, e4⟩ := s1.cell n _ q
        have e : a = b := by
          rw [e1] at hb
          rcases hb with hb | hb <;> cases hb
          rfl
        subst e
        refine .inl ⟨kas, e2, fun ob => ?_⟩
        obtain ⟨s2, le, av⟩ := StOk.freeW (u := KsO a ob kas) s1 e1
        exact (show IOk X.K H o R ds (st1.set n .dead) from h') _ _ _ (l.trans le) s2 (walks_ks upd_same av (le.rep.reps e4))
      | dic ks ds =>
        cases ks with
        | cons _ _ => cases ds <;> exact False.elim h'
        | nil =>
          cases ds with
          | cons _ _ => exact False.elim h'
          | nil =>
            obtain ⟨a, kvs, e1, e2, e3, e4⟩ := s1.cell n _ q
            have e : a = b := by
              rw [e1] at hb
              rcases hb with hb | hb <;> cases hb
              rfl
            subst e
            have ekv : kvs = [] := List.map_eq_nil_iff.mp e3
            subst ekv
            refine .inr ⟨e2, fun ob => ?_⟩
            obtain ⟨s2, le, av⟩ := StOk.freeW (u := KsO a ob []) s1 e1
            exact (show IOk X.K H o R [] (st1.set n .dead) from h') _ _ _ (l.trans le) s2 (walks_ks upd_same av rfl)
      | _ => exact False.elim h'
  | _ => exact False.elim h1
end
@[simp] abbrev iZip (fs : DenL) : DenI := fun ρ => fs ρ >>= zipL
@[simp] abbrev iEnum (fs : DenL) : DenI := fun ρ => fs ρ >>= enumL
/-! ### range(i, j, -1) -/
def rangeDown (i j : Int) : List D := (List.range (i - j).toNat).map fun (k : Nat) => D.int (i + (k : Int) * (-1))
def rng3 : List D → M (List D)
  | [.int i, .int j, .int c] => bif decide (c = -1 ∧ -(2 ^ 62) ≤ i ∧ i < 2 ^ 62 ∧ -(2 ^ 62) ≤ j ∧ j < 2 ^ 62) then pure (rangeDown i j) else M.stuck
  | _ => M.stuck
@[simp] abbrev iRange3 (fs : DenL) : DenI := fun ρ => fs ρ >>= rng3
section
variable {E : XK} {X : Cx}
theorem walks_down {K : Frag} {H : Hp} {o : Lo} {lo : Int} {n : Nat} : Walks K H o (Itc lo (-1) n) ((List.range n).map fun (k : Nat) => D.int (lo + (k : Int) * (-1))) := fun H1 o1 st1 l s1 => by
  refine ⟨by show n ≤ _; simp, fun i d hd => ?_⟩
  rw [List.getElem?_map] at hd
  obtain ⟨k, hk, rfl⟩ := Option.map_eq_some_iff.mp hd
  obtain ⟨hi, e⟩ := List.getElem?_eq_some_iff.mp hk
  simp at hi e
  subst e
  refine ⟨hi, fun x H2 y => ?_⟩
  obtain ⟨rfl, rfl⟩ := y
  exact ⟨.inl rfl, rfl⟩
theorem di_range3 {tg a b c : Expr} {fs : DenL} {p pos : Pos} (hg : Gl X "range") (hm : X.mg "range" = none) (ha : PL X E [a, b, c] fs) (hs : starEach [a, b, c] X.env = (false, eval a X.env) :: starEach [b, c] X.env) (hs2 : (backTo pos (starEach [b, c] X.env)).any (·.1) = false) :
    PDI X E tg (.Call (.Name "range" p) [a, b, c] [] pos) (iRange3 fs) :=
  PI.imp (pi_range3 hg hm ha hs hs2) fun σ H R h => by
    obtain ⟨o, ρ, st, he, hs, h⟩ := h
    refine ⟨o, ρ, st, he, hs, ?_⟩
    refine (wpR.bind.mp h).mono (fun ds st1 h1 vs H1 o1 l s1 r => ?_) fun _ _ x => x
    match ds, r, h1 with
    | [], _, h1 => exact False.elim h1
    | [d], _, h1 => cases d <;> exact False.elim h1
    | [d, e], _, h1 => cases d <;> cases e <;> exact False.elim h1
    | d :: e :: f :: _ :: _, _, h1 => cases d <;> cases e <;> cases f <;> exact False.elim h1
    | [d, e, f], r, h1 =>
      obtain ⟨v, vs1, rfl, rv, r2⟩ := r
      obtain ⟨w, u, rfl, rw', ru⟩ := r2.two_of
      cases d with
      | int i =>
        cases e with
        | int j =>
          cases f with
          | int c =>
            have h2 : wpR ((bif decide (c = -1 ∧ -(2 ^ 62) ≤ i ∧ i < 2 ^ 62 ∧ -(2 ^ 62) ≤ j ∧ j < 2 ^ 62) then (pure (rangeDown i j) : M (List D)) else M.stuck) st1) (IOk X.K H o R) (XOk X.K E H o) := h1
            cases q : decide (c = -1 ∧ -(2 ^ 62) ≤ i ∧ i < 2 ^ 62 ∧ -(2 ^ 62) ≤ j ∧ j < 2 ^ 62) with
            | false => rw [q] at h2; exact False.elim h2
            | true =>
              rw [q] at h2
              obtain ⟨rfl, a1, a2, a3, a4⟩ := of_decide_eq_true q
              cases (show v = .int i from rv)
              cases (show w = .int j from rw')
              cases (show u = .int (-1) from ru)
              exact ⟨i, j, -1, (i - j).toNat, rfl, RgC.neg a1 a2 a3 a4, (show IOk X.K H o R (rangeDown i j) st1 from h2) _ H1 o1 l s1 walks_down⟩
          | _ => exact False.elim h1
        | _ => cases f <;> exact False.elim h1
      | _ => cases e <;> cases f <;> exact False.elim h1
end
/-! ### list * int, a list of one's own -/
def mulOwn : D → D → M D
  | .lst xs, .int k => guardM (decide (-(2 ^ 63) ≤ k ∧ k < 2 ^ 63 ∧ xs.length * k.toNat ≤ big)) (M.alloc (.lst (List.replicate k.toNat xs).flatten))
  | _, _ => M.stuck
theorem od_mulOwn {X : Cx} {E : XK} : OpD X E (binaryOp .Mult) mulOwn := by
  intro pins s σ H x y v u Q I rx ry h
  obtain ⟨dx, dy, o, st, r1, r2, so, h⟩ := h
  cases dx with
  | lst ds =>
    cases dy with
    | int k =>
      obtain ⟨hc, h⟩ := guardM_wp h
      obtain ⟨h1, h2, h3⟩ := of_decide_eq_true hc
      obtain ⟨a, xs, rfl, k1, k2, q1⟩ := r1
      exact op_rep pins s σ H _ y v u Q I rx ry ⟨a, _, xs, rfl, r2, k1, h1, h2, by rw [q1.length]; exact Nat.le_trans h3 big_le, fun p hp => ok_alloc h so hp (cell_lst so hp (q1.rep _))⟩
    | _ => exact False.elim h
  | _ => cases dy <;> exact False.elim h
end MP

namespace MP
open PySem L2
open PySem.Spec PyProof.Rows
/-! ## list(x) as a list of one's own -/
def biListO : D → M D
  | .tup ds => M.alloc (.lst ds)
  | .lst ds => M.alloc (.lst ds)
  | .ref n => lstOf (.ref n) >>= fun ds => M.alloc (.lst ds)
  | _ => M.stuck
section
variable {X : Cx} {E : XK}
theorem cd_listO : CallD X E (.type "list") (on1 biListO) := cd_on1 fun pins s σ H v us Q d o st I r r1 so h => by
  cases d <;> first | exact False.elim h | skip
  · obtain ⟨a, ys, rfl, k1, q1⟩ := r1
    exact call_list_of pins s σ H _ us Q I r ⟨a, ys, rfl, .inr (tup_sq k1), fun l hl => ok_alloc h so hl (cell_lst so hl q1)⟩
  · obtain ⟨a, ys, rfl, k1, _, q1⟩ := r1
    exact call_list_of pins s σ H _ us Q I r ⟨a, ys, rfl, .inl (SqL.of k1), fun l hl => ok_alloc h so hl (cell_lst so hl q1)⟩
  · obtain ⟨ds, a, ys, rfl, k1, q1, h⟩ := lstOf_wp r1 so (wpR.bind.mp h)
    exact call_list_of pins s σ H _ us Q I r ⟨a, ys, rfl, .inl (SqL.of k1), fun l hl => ok_alloc h so hl (cell_lst so hl q1)⟩
end
/-! ## a if c else b as a test -/
def tIfT (t ta tb : TT) : TT := fun σ H Q => t σ H fun c H1 => if c = true then ta σ H1 Q else tb σ H1 Q
theorem pt_ifT {X : Cx} {c a b : Expr} {t ta tb : TT} {pos : Pos} (hc : PT X c t) (ha : PT X a ta) (hb : PT X b tb) : PT X (.IfExp c a b pos) (tIfT t ta tb) := by
  refine ⟨fun pins s σ H Q I h => ?_⟩
  refine isTrue_IfExp (thn (hc.run pins s σ H _ I h) fun d s1 ⟨H1, I1, q1⟩ => ?_)
  cases d with
  | true => exact ha.run pins s1 σ H1 Q I1 q1
  | false => exact hb.run pins s1 σ H1 Q I1 q1
@[simp] def dBIf (c f g : DenB) : DenB := fun ρ => c ρ >>= fun b => cond b (f ρ) (g ρ)
theorem pb_if {X : Cx} {E : XK} {c a b : Expr} {pos : Pos} {fc f g : DenB} (hc : PB X E c fc) (ha : PB X E a f) (hb : PB X E b g) : PB X E (.IfExp c a b pos) (dBIf fc f g) := PT.imp (pt_ifT hc ha hb) fun σ H Q h => by
  obtain ⟨o, ρ, st, he, hs, h1⟩ := tTT_bind (g := fun c ρ => cond c (f ρ) (g ρ)) h
  refine ⟨o, ρ, st, he, hs, h1.mono (fun c st1 q H1 o1 l s1 => ?_) fun _ _ x => x⟩
  have q' := q H1 o1 l s1
  cases c with
  | true => exact iteT q'
  | false => exact iteF q'
@[simp] theorem listO_t {xs : List D} : biListO (.tup xs) = M.alloc (.lst xs) := rfl
@[simp] theorem listO_l {xs : List D} : biListO (.lst xs) = M.alloc (.lst xs) := rfl
end MP

namespace MP
open PySem L2
open PySem.Spec PyProof.Rows
/-! ## sorted(texts) -/
theorem lt_as : ∀ a b : List Nat, ltCps a b = true → ltCps b a = false
  | [], [], h => by simp [ltCps] at h
  | [], _ :: _, _ => rfl
  | _ :: _, [], h => by simp [ltCps] at h
  | x :: a, y :: b, h => by
    have ih := lt_as a b
    simp only [ltCps, Bool.or_eq_true, decide_eq_true_eq, Bool.and_eq_true, beq_iff_eq] at h
    simp only [ltCps, Bool.or_eq_false_iff, decide_eq_false_iff_not, Bool.and_eq_false_iff]
    rcases h with h | ⟨h, k⟩
    · exact ⟨by omega, .inl (by simp; omega)⟩
    · exact ⟨by omega, .inr (ih k)⟩
theorem le_anti : ∀ a b : List Nat, ltCps a b = false → ltCps b a = false → a = b
  | [], [], _, _ => rfl
  | [], _ :: _, h, _ => by simp [ltCps] at h
  | _ :: _, [], _, h => by simp [ltCps] at h
  | x :: a, y :: b, h, k => by
    have ih := le_anti a b
    simp only [ltCps, Bool.or_eq_false_iff, decide_eq_false_iff_not, Bool.and_eq_false_iff] at h k
    have e : x = y := by omega
    subst e
    have h2 : ltCps a b = false := by
      rcases h.2 with q | q
      · simp at q
      · exact q
    have k2 : ltCps b a = false := by
      rcases k.2 with q | q
      · simp at q
      · exact q
    rw [ih h2 k2]
theorem le_tr : ∀ a b c : List Nat, ltCps b a = false → ltCps c b = false → ltCps c a = false
  | [], _, c, _, _ => by cases c <;> rfl
  | _ :: _, [], _, h, _ => by simp [ltCps] at h
  | _ :: _, _ :: _, [], _, h => by simp [ltCps] at h
  | x :: a, y :: b, z :: c, h, k => by
    have ih := le_tr a b c
    simp only [ltCps, Bool.or_eq_false_iff, decide_eq_false_iff_not, Bool.and_eq_false_iff] at h k ⊢
    refine ⟨by omega, ?_⟩
    by_cases e : z = x
    · have e1 : z = y := by omega
      have e2 : y = x := by omega
      subst e1 e2
      refine .inr (ih ?_ ?_)
      · rcases h.2 with q | q
        · simp at q
        · exact q
      · rcases k.2 with q | q
        · simp at q
        · exact q
    · exact .inl (by simpa using e)
def leS (a b : Str) : Bool := !ltCps b.cps.toList a.cps.toList
theorem leS_f {a b : Str} : leS a b = true ↔ ltCps b.cps.toList a.cps.toList = false := by unfold leS; simp
theorem leS_tr (a b c : Str) (h : leS a b = true) (k : leS b c = true) : leS a c = true := leS_f.mpr (le_tr _ _ _ (leS_f.mp h) (leS_f.mp k))
theorem leS_total (a b : Str) : (leS a b || leS b a) = true := by
  unfold leS
  cases h : ltCps b.cps.toList a.cps.toList with
  | false => rfl
  | true => rw [lt_as _ _ h]; rfl
theorem leS_anti {a b : Str} (h : leS a b = true) (k : leS b a = true) : a = b := by
  have e := le_anti _ _ (leS_f.mp k) (leS_f.mp h)
  obtain ⟨a⟩ := a
  obtain ⟨b⟩ := b
  have : a = b := Array.toList_inj.mp e
  rw [this]
theorem rising_pw : ∀ (l : List Str) (p : Str), risingS p l = true → (p :: l).Pairwise (fun a b => leS a b = true)
  | [], p, _ => by simp
  | x :: r, p, h => by
    have h' : (!ltCps x.cps.toList p.cps.toList && risingS x r) = true := h
    rw [Bool.and_eq_true] at h'
    have ih := rising_pw r x h'.2
    have hp : leS p x = true := h'.1
    refine List.pairwise_cons.mpr ⟨fun y hy => ?_, ih⟩
    rcases List.mem_cons.mp hy with rfl | hy
    · exact hp
    · exact leS_tr _ _ _ hp (List.rel_of_pairwise_cons ih hy)
theorem sorted_pw : ∀ (l : List Str), sortedS l = true → l.Pairwise (fun a b => leS a b = true)
  | [], _ => by simp
  | x :: r, h => rising_pw r x h
def sortSt (xs : List Str) : List Str := xs.mergeSort leS
theorem sortSt_perm (xs : List Str) : (sortSt xs).Perm xs := List.mergeSort_perm _ _
theorem sortSt_pw (xs : List Str) : (sortSt xs).Pairwise (fun a b => leS a b = true) := List.pairwise_mergeSort leS_tr leS_total xs
theorem sortSt_eq {xs ys : List Str} (p : ys.Perm xs) (h : sortedS ys = true) : ys = sortSt xs :=
  List.Perm.eq_of_pairwise (le := fun a b => leS a b = true) (fun a b _ _ h k => leS_anti h k) (sorted_pw ys h) (sortSt_pw xs) (p.trans (sortSt_perm xs).symm)
theorem strsD_map : ∀ ss : List Str, strsD (ss.map D.str) = some ss
  | [] => rfl
  | s :: ss => by
    show (strsD (ss.map D.str)).map (s :: ·) = _
    rw [strsD_map ss]; rfl
def biSortS : D → M D
  | .lst ds => match strsD ds with
    | some ss => guardM (decide (ss.length ≤ big)) (pure (.lst ((sortSt ss).map D.str)))
    | none => M.stuck
  | _ => M.stuck
@[simp] theorem sortS_l {ss : List Str} : biSortS (.lst (ss.map D.str)) = guardM (decide (ss.length ≤ big)) (pure (.lst ((sortSt ss).map D.str))) := by
  unfold biSortS
  simp only [strsD_map]
section
variable {K : Frag} {E : XK} {H : Hp} {o : Lo} {st : Store} {X : Cx}
theorem reps_strs : ∀ {ss : List Str} {vs : List V}, Reps K H o (ss.map D.str) vs → vs = ss.map V.str
  | [], vs, h => by cases (show vs = [] from h); rfl
  | s :: ss, vs, h => by
    obtain ⟨v, vs', rfl, h1, h2⟩ := h
    have e : v = .str s := h1
    rw [e, reps_strs h2]; rfl
theorem reps_ofStrs : ∀ (ss : List Str), Reps K H o (ss.map D.str) (ss.map V.str)
  | [] => rfl
  | s :: ss => ⟨_, _, rfl, rfl, reps_ofStrs ss⟩
def rSortedA (K : Frag) : List V → Hp → VK → Prop := fun vs H Q => ∃ (a : Addr) (xs : List Str), vs = [V.ref a] ∧ SqL K H a (xs.map V.str) ∧ xs.length ≤ big ∧
  ∀ (ys : List Str) (p : Addr), ys.Perm xs → sortedS ys = true → H p = none → Q (.ref p) (upd H p (.lst (ys.map V.str)))
theorem cr_sortedA : CallR X (.builtin "sorted") (rSortedA X.K) := by
  intro pins s σ H vs us Q I r h
  obtain ⟨a, xs, rfl, hs, hb, q⟩ := h
  obtain ⟨its, rv, hl, hz⟩ := I.list hs
  rw [Vals.ref1 r]
  have hlen0 := rv.length
  rw [List.length_map] at hlen0
  refine PyProof.Rows.sorted_strsAny hl.isList rv.strs (by rw [← hlen0]; exact Nat.le_trans hb big_le) fun out ys h1 h2 h3 => ?_
  obtain ⟨ep, he'⟩ := PyProof.Rows.sortedAll_at s.heap its out
  have hlen : (ys.map V.str).length ≤ sizeLine := by rw [List.length_map, h2.length_eq]; exact Nat.le_trans hb big_le
  exact ⟨.ref _, upd H (s.heap.objs.size + 1) (.lst (ys.map V.str)), I.laid (t' := s.toks) (fun _ _ => PyProof.Rows.sortedAll_old) (Nat.le_succ _) ⟨hlen, out.toList, ep, vals_of_strs h1, he'⟩, rfl, q ys _ h2 h3 (I.hok.fresh (Nat.le_succ _))⟩
theorem cd_sortS : CallD X E (.builtin "sorted") (on1 biSortS) := cd_on1 fun pins s σ H v us Q d o st I r r1 so h => by
  cases d with
  | lst ds =>
    cases e : strsD ds with
    | none =>
      have h' : wpR ((match strsD ds with | some ss => guardM (decide (ss.length ≤ big)) (pure (.lst ((sortSt ss).map D.str))) | none => M.stuck : M D) st) (VOk X.K H o Q) (XOk X.K E H o) := h
      rw [e] at h'
      exact False.elim h'
    | some ss =>
      have es := strsD_eq e
      subst es
      rw [sortS_l] at h
      obtain ⟨hc, h⟩ := guardM_wp h
      obtain ⟨a, xs, rfl, k, av, r2⟩ := r1
      rw [reps_strs r2] at k
      exact cr_sortedA pins s σ H _ us Q I r ⟨a, ss, rfl, SqL.of k, of_decide_eq_true hc, fun ys p hp hs hn => by
        rw [sortSt_eq hp hs]
        exact ok_newLst h so (reps_ofStrs _) hn⟩
  | _ => exact False.elim h
end

/-! ## the texts that are the keys of a dict of one's own: [str(t) for t in d] -/
def keyStrs : List Key → Option (List Str)
  | [] => some []
  | .inr s :: ks => (keyStrs ks).map (s :: ·)
  | .inl _ :: _ => none
theorem keyStrs_eq : ∀ {ks : List Key} {ss : List Str}, keyStrs ks = some ss → ks = ss.map Sum.inr
  | [], ss, h => by cases (show some [] = some ss from h); rfl
  | .inr s :: ks, ss, h => by
    obtain ⟨r, e, rfl⟩ := Option.map_eq_some_iff.mp (show (keyStrs ks).map (s :: ·) = some ss from h)
    rw [keyStrs_eq e]; rfl
  | .inl _ :: _, _, h => by cases h
theorem keyStrs_map : ∀ ss : List Str, keyStrs (ss.map Sum.inr) = some ss
  | [] => rfl
  | s :: ss => by
    show (keyStrs (ss.map Sum.inr)).map (s :: ·) = _
    rw [keyStrs_map ss]; rfl
def skOf (st : Store) : Option Cell → R D
  | some (.dic ks ds) => match keyStrs ks with
    | some ss => bif decide (ss.length ≤ big) then .ok (.lst (ss.map D.str)) st else .stuck
    | none => .stuck
  | _ => .stuck
def skM : Option (Option D) → M D
  | some (some (.ref n)) => fun st => skOf st st[n]?
  | _ => M.stuck
def dSK (i : Nat) : Den := fun ρ => skM ρ[i]?
section
variable {K : Frag} {E : XK} {H : Hp} {o : Lo} {st : Store} {X : Cx}
/-- .. by values -/
def tSK (i : Nat) : TE := fun σ H Q => ∃ (a : Addr) (kvs : List (Key × V)) (ss : List Str), σ[i]? = some (some (.ref a)) ∧ H a = some (.dK kvs) ∧ kvs.map (·.1) = ss.map Sum.inr ∧ ss.length ≤ big ∧ ∀ p, H p = none → Q (.ref p) (upd H p (.lst (ss.map V.str)))
def tStrAt (j : Nat) : TE := fun σ H Q => ∃ s, σ[j]? = some (some (.str s)) ∧ Q (.str s) H
theorem pe_strAt {X : Cx} {j : Nat} {x : Str} {p q pos : Pos} (hN : X.N[j]? = some x) (hv : Vis X.env.scope x) (hd : (x == ("__debug__" : Str)) = false) (hcd : (x == ("__classdict__" : Str)) = false) (hg : Gl X "str") (hm : X.mg "str" = none) (hb : bootBuiltins "str" = some (.type "str")) :
    PE X (.Call (.Name "str" p) [.Name x q] [] pos) (tStrAt j) := by
  refine PE.imp (pe_callTy SkE.call_str_str hg hm hb (pa_cons (pe_var hN hv hd hcd) pa_nil)) fun σ H Q h => ?_
  obtain ⟨s, e, h⟩ := h
  exact ⟨.str s, e, s, rfl, h⟩
theorem tSK_lock {i j : Nat} {vs : List Nat} {σ : L2.St} {H : Hp} {Q : VK} (hj : j ∈ vs) (hjl : j < σ.length) (h : tSK i σ H Q) :
    tLockE (tLc (iKeys (tVar i)) (gName j) (fun σ H Q => Q true H) (tStrAt j) vs) σ H Q := by
  obtain ⟨a, kvs, ss, e1, e2, e3, e4, q⟩ := h
  refine ⟨a, .dK kvs, e2, trivial, fun od => ?_⟩
  generalize hH1 : upd H a (.frz od (.dK kvs)) = H1
  have ha1 : H1 a = some (.frz od (.dK kvs)) := by rw [← hH1]; exact upd_same
  have hlen : kvs.length = ss.length := by have := congrArg List.length e3; simpa using this
  refine ⟨.ref a, e1, a, od, rfl, .inl ⟨kvs, ha1, fun D hD => ?_⟩⟩
  have hne : a ≠ D := fun e => by rw [e, hD] at ha1; cases ha1
  refine ⟨fun i m Hi => m = kvs.length - i ∧ i ≤ kvs.length ∧ Hi = upd H1 D (.lst ((ss.take i).map V.str)), ⟨_, rfl, Nat.zero_le _, by simp⟩, ?_⟩
  rintro k m Hi ⟨rfl, hk, rfl⟩
  have hai : (upd H1 D (.lst ((ss.take k).map V.str))) a = some (.frz od (.dK kvs)) := by rw [upd_ne hne]; exact ha1
  by_cases hlt : k < kvs.length
  · refine .inr ⟨⟨hai, hlt⟩, fun H' => H' = upd H1 D (.lst ((ss.take (k + 1)).map V.str)), fun H' e => ⟨_, by omega, rfl, hlt, e⟩, fun x H' y => ?_⟩
    obtain ⟨rfl, kk, vv, ekv, rfl⟩ := y
    have hks : k < ss.length := by omega
    have ek : kk = .inr ss[k] := by
      have : (kvs.map (·.1))[k]? = some kk := by rw [List.getElem?_map, ekv]; rfl
      rw [e3, List.getElem?_map, List.getElem?_eq_getElem hks] at this
      exact (Option.some.inj this).symm
    subst ek
    refine ⟨wipe_ext (by rw [List.length_set, wipe_length]) (fun n hn => by rw [List.getElem?_set_ne (fun e => hn (by rw [← e]; exact hj))]) |>.trans (wipe_wipe σ vs), ?_⟩
    refine iteT ⟨ss[k], List.getElem?_set_self (by rw [wipe_length]; exact hjl), (ss.take k).map V.str, upd_same, ?_, ?_⟩
    · rw [List.length_map, List.length_take]
      have := big_lt
      omega
    · rw [upd_upd]
      congr 2
      rw [List.take_add_one, List.getElem?_eq_getElem hks, List.map_append]
      rfl
  · have e : k = kvs.length := by omega
    subst e
    refine .inl ⟨⟨hai, Nat.le_refl _⟩, hai, ?_⟩
    have hDn : H D = none := by rw [← hH1, upd_ne (Ne.symm hne)] at hD; exact hD
    have e5 : upd (upd H1 D (.lst ((ss.take kvs.length).map V.str))) a (.dK kvs) = upd H D (.lst (ss.map V.str)) := by
      rw [hlen, List.take_length, ← hH1]
      funext b
      by_cases hb : b = a
      · subst hb; rw [upd_same, upd_ne hne, e2]
      · rw [upd_ne hb]
        by_cases hb2 : b = D
        · subst hb2; rw [upd_same, upd_same]
        · rw [upd_ne hb2, upd_ne hb2, upd_ne hb]
    rw [e5]
    exact q D hDn
theorem pd_strKeys {i j : Nat} {x y : Str} {p1 p2 p3 pos pos2 : Pos} {scope : Scope} {own : List (Str × Nat)} (hc : X.calm = true) (hN : X.N.Nodup) (hx : X.N[i]? = some x) (hv : Vis X.env.scope x) (hxd : (x == ("__debug__" : Str)) = false) (hxc : (x == ("__classdict__" : Str)) = false)
    (ok : BlkOk X.N X.env.scope scope own) (hj : j ∈ own.map (·.2))
    (hg : ∀ (s : Shared) (H : Hp) (C : Addr) (cl : List (Str × Addr)) (fp : List Addr), PG (X.blk s H scope (compEnvC scope cl C X.env) fp) (.Name y p1) (gName j))
    (he : ∀ (s : Shared) (H : Hp) (C : Addr) (cl : List (Str × Addr)) (fp : List Addr), PE (X.blk s H scope (compEnvC scope cl C X.env) fp) (.Call (.Name "str" p2) [.Name y p3] [] pos2) (tStrAt j)) {px : Pos} (hs : ∀ z, foldedSetIterable (.Name x px) X.env z = pure z) (hjN : j < X.N.length) :
    PD X E (.ListComp (.Call (.Name "str" p2) [.Name y p3] [] pos2) [⟨.Name y p1, .Name x px, [], 0⟩] scope pos) (dSK i) := by
  refine ⟨fun pins s σ H Q I h => ?_⟩
  refine (pe_lock (pe_lc hc hN (pi_keys (pe_var hx hv hxd hxc)) ok hg (fun s H C cl fp => pts_nil) he hs)).run pins s σ H Q I (tSK_lock hj ?_ ?_)
  · rw [I.len]; exact hjN
  obtain ⟨o, ρ, st, he, so, h⟩ := h
  have h' : wpR (skM ρ[i]? st) (VOk X.K H o Q) (XOk X.K E H o) := h
  cases e : ρ[i]? with
  | none => rw [e] at h'; exact False.elim h'
  | some od =>
    rw [e] at h'
    cases od with
    | none => exact False.elim h'
    | some d =>
      cases d with
      | ref n =>
        have h2 : wpR (skOf st st[n]?) (VOk X.K H o Q) (XOk X.K E H o) := h'
        cases e2 : st[n]? with
        | none => rw [e2] at h2; exact False.elim h2
        | some c =>
          rw [e2] at h2
          cases c with
          | dic ks ds =>
            have h3 : wpR ((match keyStrs ks with | some ss => bif decide (ss.length ≤ big) then R.ok (.lst (ss.map D.str)) st else .stuck | none => .stuck) : R D) (VOk X.K H o Q) (XOk X.K E H o) := h2
            cases e3 : keyStrs ks with
            | none => rw [e3] at h3; exact False.elim h3
            | some ss =>
              rw [e3] at h3
              have ck := so.cell n _ e2
              obtain ⟨a, kvs, k1, k2, k3, k4⟩ := ck
              obtain ⟨v, hv1, hv2⟩ := he.2 i _ e
              obtain ⟨b, rfl, hb⟩ := hv2
              have eb : b = a := by
                rw [k1] at hb
                rcases hb with hb | hb <;> cases hb
                rfl
              subst eb
              cases hl : decide (ss.length ≤ big) with
              | false =>
                have h4 : wpR ((bif decide (ss.length ≤ big) then R.ok (.lst (ss.map D.str)) st else .stuck) : R D) (VOk X.K H o Q) (XOk X.K E H o) := h3
                rw [hl] at h4
                exact False.elim h4
              | true =>
                have h4 : wpR ((bif decide (ss.length ≤ big) then R.ok (.lst (ss.map D.str)) st else .stuck) : R D) (VOk X.K H o Q) (XOk X.K E H o) := h3
                rw [hl] at h4
                exact ⟨b, kvs, ss, hv1, k2, by rw [k3]; exact keyStrs_eq e3, of_decide_eq_true hl, fun p hp => ok_newLst (show VOk X.K H o Q (.lst (ss.map D.str)) st from h4) so (reps_ofStrs _) hp⟩
          | _ => exact False.elim h2
      | _ => exact False.elim h'
end
end MP

/-! {k: v for .. in .. if ..}: a dict of one's own -/
namespace MP
open PySem L2
open PySem.Spec PyProof.Rows
def keyB {α : Type} (d : D) (f : Key → M α) : M α := match keyD d with
  | some k => f k
  | none => M.stuck
@[simp] theorem keyB_s {α : Type} {s : Str} {f : Key → M α} : keyB (.str s) f = f (.inr s) := rfl
theorem keyB_wp {α : Type} {d : D} {f : Key → M α} {st : Store} {Q : α → Store → Prop} {Z : Exn → Store → Prop} (h : wpR (keyB d f st) Q Z) : ∃ k, keyD d = some k ∧ wpR (f k st) Q Z := by
  unfold keyB at h
  cases e : keyD d with
  | none => rw [e] at h; exact False.elim h
  | some k => rw [e] at h; exact ⟨k, rfl, h⟩
def dcL (t : Tg) (c : DenB) (fk fv : Den) (ρ0 : Env) : List D → List Key → List D → M (List Key × List D)
  | [], ks, vs => pure (ks, vs)
  | d :: ds, ks, vs => optB (t.bind d ρ0) fun ρ1 => noX (c ρ1) >>= fun b => cond b (noX (fk ρ1) >>= fun x => noX (fv ρ1) >>= fun y => keyB x fun k => dcL t c fk fv ρ0 ds (dputK ks k) (dputV ks vs k y)) (dcL t c fk fv ρ0 ds ks vs)
def dicA (p : List Key × List D) : M D := M.alloc (.dic p.1 p.2)
@[simp] def dDcOwn (it : DenI) (vs : List Nat) (t : Tg) (c : DenB) (fk fv : Den) : Den := fun ρ => it ρ >>= fun ds => guardL (decide (ds.length ≤ big)) (dcL t c fk fv (wipeE ρ vs) ds [] [] >>= dicA)
section
variable {K : Frag} {E : XK} {H : Hp} {o : Lo} {st : Store} {X : Cx}
theorem tD_dc {it : DenI} {vs : List Nat} {t : Tg} {c : DenB} {fk fv : Den} {σ : L2.St} {Q : VK} (hsub : ∀ i ∈ t.slots, i ∈ vs) (h : tD K E (dDcOwn it vs t c fk fv) σ H Q) :
    tDc (tI K E it) (t.g K) (tT K EX0 c) (tD K EX0 fk) (tD K EX0 fv) vs σ H Q := by
  obtain ⟨o, ρ, st, he, hs, h⟩ := h
  refine ⟨o, ρ, st, he, hs, ?_⟩
  refine (wpR.bind.mp h).mono (fun ds st1 h1 J H1 o1 l1 s1 w Dd hD => ?_) fun _ _ x => x
  obtain ⟨hlen, h1⟩ := guardL_wp h1
  have hlen := of_decide_eq_true hlen
  have h1 := wpR.bind.mp h1
  refine ⟨fun i m Hi => m = ds.length - i ∧ i ≤ ds.length ∧ ∃ oi sti accd kvs, Lc H1 o1 Hi oi ∧ oi.z = Dd :: o1.z ∧ LeW K (upd H1 Dd (.dK [])) (o1.hold Dd) Hi oi ∧ StOk K Hi oi sti ∧ Hi Dd = some (.dK kvs) ∧ some Dd ∉ oi.l ∧ (kvs.map (·.1)).Nodup ∧ Reps K Hi oi accd (kvs.map (·.2)) ∧ kvs.length ≤ i ∧
      wpR (dcL t c fk fv (wipeE ρ vs) (ds.drop i) (kvs.map (·.1)) accd sti) (fun p st' => wpR (dicA p st') (VOk K H o Q) (XOk K E H o)) (XOk K E H o),
    ⟨_, rfl, Nat.zero_le _, o1.hold Dd, st1, [], [], Lc.hold hD, rfl, LeW.refl, s1.hold hD, upd_same, (s1.avOf hD).1, List.nodup_nil, rfl, Nat.le_refl _, h1⟩, ?_⟩
  rintro i m Hi ⟨rfl, hi, oi, sti, accd, kvs, lc, ez, lr, si, eD, nD, nd, ra, la, hw⟩
  have lr0 : LeW K H1 o1 Hi oi := (LeW.hold hD).trans lr
  obtain ⟨w1, w2⟩ := w Hi oi sti lr0 si
  by_cases hlt : i < ds.length
  · rw [List.drop_eq_getElem_cons hlt] at hw
    obtain ⟨go, yl⟩ := w2 i _ (List.getElem?_eq_getElem hlt)
    refine .inr ⟨go, fun H2 => ∃ m', m' < ds.length - i ∧ (m' = ds.length - (i + 1) ∧ i + 1 ≤ ds.length ∧ ∃ oi sti accd kvs, Lc H1 o1 H2 oi ∧ oi.z = Dd :: o1.z ∧ LeW K (upd H1 Dd (.dK [])) (o1.hold Dd) H2 oi ∧ StOk K H2 oi sti ∧ H2 Dd = some (.dK kvs) ∧ some Dd ∉ oi.l ∧ (kvs.map (·.1)).Nodup ∧ Reps K H2 oi accd (kvs.map (·.2)) ∧ kvs.length ≤ i + 1 ∧
      wpR (dcL t c fk fv (wipeE ρ vs) (ds.drop (i + 1)) (kvs.map (·.1)) accd sti) (fun p st' => wpR (dicA p st') (VOk K H o Q) (XOk K E H o)) (XOk K E H o)), fun _ x => x, fun x H2 y => ?_⟩
    obtain ⟨gr, rx⟩ := yl x H2 y
    have l2 : Le Hi oi H2 oi := Gr.le gr
    have s2 := Gr.stOk gr si
    have hw' : wpR (optB (t.bind ds[i] (wipeE ρ vs)) (fun ρ1 => noX (c ρ1) >>= fun b => cond b (noX (fk ρ1) >>= fun x => noX (fv ρ1) >>= fun y => keyB x fun k => dcL t c fk fv (wipeE ρ vs) (ds.drop (i + 1)) (dputK (kvs.map (·.1)) k) (dputV (kvs.map (·.1)) accd k y)) (dcL t c fk fv (wipeE ρ vs) (ds.drop (i + 1)) (kvs.map (·.1)) accd)) sti) (fun p st' => wpR (dicA p st') (VOk K H o Q) (XOk K E H o)) (XOk K E H o) := hw
    cases hb : t.bind ds[i] (wipeE ρ vs) with
    | none => rw [hb] at hw'; exact False.elim hw'
    | some ρ1 =>
      rw [hb] at hw'
      have env0 : EnvOk K H2 oi (wipeE ρ vs) (wipe σ vs) := ((he.mono (l1.rep.trans lr0.rep)).mono l2.rep).wipe vs
      refine t.ok rx hb env0 fun σ2 he2 kp => ?_
      refine ⟨(wipe_ext (kp.1.trans rfl) fun j hj => kp.2 j fun q => hj (hsub j q)).trans (wipe_wipe σ vs), ?_⟩
      have hw2 : wpR ((noX (c ρ1) >>= fun b => cond b (noX (fk ρ1) >>= fun x => noX (fv ρ1) >>= fun y => keyB x fun k => dcL t c fk fv (wipeE ρ vs) (ds.drop (i + 1)) (dputK (kvs.map (·.1)) k) (dputV (kvs.map (·.1)) accd k y)) (dcL t c fk fv (wipeE ρ vs) (ds.drop (i + 1)) (kvs.map (·.1)) accd)) sti) (fun p st' => wpR (dicA p st') (VOk K H o Q) (XOk K E H o)) (XOk K E H o) := hw'
      refine ⟨oi, ρ1, sti, he2, s2, ?_⟩
      refine wpR.mono (noX_wp (wpR.bind.mp hw2)) (fun b st3 h3 H3 o3 l3 s3 => ?_) fun _ _ x => x
      have lc3 : Lc H1 o1 H3 o3 := (lc.trans l2.toLc).trans l3.toLc
      have lr3 : LeW K Hi oi H3 o3 := l2.w.trans l3.w
      have ez3 : o3.z = Dd :: o1.z := l3.z.trans ez
      obtain ⟨eD2, nD2⟩ := l2.keep Dd _ eD nD
      obtain ⟨eD3, nD3⟩ := l3.keep Dd _ eD2 nD2
      cases b with
      | false =>
        exact iteF ⟨_, by omega, rfl, by omega, o3, st3, accd, kvs, lc3, ez3, lr.trans lr3, s3, eD3, nD3, nd, lr3.rep.reps ra, Nat.le_succ_of_le la, h3⟩
      | true =>
        refine iteT ⟨o3, ρ1, st3, he2.mono l3.rep, s3, ?_⟩
        have h3' : wpR ((noX (fk ρ1) >>= fun x => noX (fv ρ1) >>= fun y => keyB x fun k => dcL t c fk fv (wipeE ρ vs) (ds.drop (i + 1)) (dputK (kvs.map (·.1)) k) (dputV (kvs.map (·.1)) accd k y)) st3) (fun p st' => wpR (dicA p st') (VOk K H o Q) (XOk K E H o)) (XOk K E H o) := h3
        refine wpR.mono (noX_wp (wpR.bind.mp h3')) (fun x4 st4 h4 v4 H4 o4 l4 s4 r4 => ?_) fun _ _ x => x
        obtain ⟨eD4, nD4⟩ := l4.keep Dd _ eD3 nD3
        have ez4 : o4.z = Dd :: o1.z := l4.z.trans ez3
        refine ⟨o4, ρ1, st4, (he2.mono l3.rep).mono l4.rep, s4, ?_⟩
        refine wpR.mono (noX_wp (wpR.bind.mp h4)) (fun y5 st5 h5 v5 H5 o5 l5 s5 r5 => ?_) fun _ _ x => x
        obtain ⟨eD5, nD5⟩ := l5.keep Dd _ eD4 nD4
        have ez5 : o5.z = Dd :: o1.z := l5.z.trans ez4
        have hin : Dd ∈ o5.z := by rw [ez5]; exact List.mem_cons_self
        obtain ⟨k, ek, h6⟩ := keyB_wp h5
        have lr5 : LeR K Hi oi H5 o5 := (lr3.rep.trans l4.rep).trans l5.rep
        obtain ⟨p1, p2⟩ := dput_rep (k := k) nd (lr5.reps ra) r5
        refine ⟨kvs, k, keyD_rep ek (l5.rep _ _ r4), eD5, by have := big_lt; omega, _, by omega, rfl, by omega, o5, st5, dputV (kvs.map (·.1)) accd k y5, putK kvs k v5, ((lc3.trans l4.toLc).trans l5.toLc).rewriteNew hD, ez5, ((((lr.trans lr3).trans l4.w)).trans l5.w).trans (LeW.rewrite hin), s5.rewrite hin, upd_same, nD5,
          by rw [p1]; exact (dputK_nodup nd).1, (LeR.rewrite hin).reps p2, by have := length_putK kvs k v5; omega, ?_⟩
        rw [p1]
        exact h6
  · have e : i = ds.length := by omega
    subst e
    rw [List.drop_length] at hw
    refine .inl ⟨w1, ?_⟩
    have hw' : wpR (M.alloc (.dic (kvs.map (·.1)) accd) sti) (VOk K H o Q) (XOk K E H o) := hw
    have nz : Dd ∉ o1.z := (s1.avOf hD).2
    obtain ⟨s3, r3⟩ := si.hole (p := Dd) (z := o1.z) ez nz
    have le3 : Le H1 o1 (fun a => if a = Dd then none else Hi a) { oi with z := o1.z } := ⟨⟨fun a u e n nt => by
      obtain ⟨g1, g2⟩ := lc.keep a u e n
      exact ⟨by show (if a = Dd then none else Hi a) = _; rw [if_neg (ne_of_none e hD)]; exact g1, g2⟩, lc.loc, lc.x⟩, rfl⟩
    have eH : Hi = upd (fun a => if a = Dd then none else Hi a) Dd (.dK kvs) := by
      funext a
      by_cases ha : a = Dd
      · subst ha; rw [upd_same, eD]
      · rw [upd_ne ha, if_neg ha]
    rw [eH]
    have hn : (fun a => if a = Dd then none else Hi a) Dd = none := if_pos rfl
    exact ok_alloc (wpR.mono hw' (fun _ _ x => x.mono (l1.trans le3)) fun _ _ x => x.mono (l1.trans le3)) s3 hn ⟨Dd, kvs, rfl, upd_same, rfl, (Le.alloc hn).rep.reps (r3.reps ra)⟩
theorem pd_dc {kx vx tg iter : Expr} {ifs : List Expr} {scope : Scope} {own : List (Str × Nat)} {pos : Pos} {it : DenI} {t : Tg} {c : DenB} {fk fv : Den} (hc : X.calm = true) (hN : X.N.Nodup) (hi : PDI X E tg iter it) (ok : BlkOk X.N X.env.scope scope own)
    (hg : ∀ (s : Shared) (H : Hp) (C : Addr) (cl : List (Str × Addr)) (fp : List Addr), PG (X.blk s H scope (compEnvC scope cl C X.env) fp) tg (t.g X.K))
    (ht : ∀ (s : Shared) (H : Hp) (C : Addr) (cl : List (Str × Addr)) (fp : List Addr), PTs (X.blk s H scope (compEnvC scope cl C X.env) fp) ifs (tT X.K EX0 c))
    (hk : ∀ (s : Shared) (H : Hp) (C : Addr) (cl : List (Str × Addr)) (fp : List Addr), PE (X.blk s H scope (compEnvC scope cl C X.env) fp) kx (tD X.K EX0 fk))
    (he : ∀ (s : Shared) (H : Hp) (C : Addr) (cl : List (Str × Addr)) (fp : List Addr), PE (X.blk s H scope (compEnvC scope cl C X.env) fp) vx (tD X.K EX0 fv)) (hs : ∀ x, foldedSetIterable iter X.env x = pure x) (hsub : ∀ i ∈ t.slots, i ∈ own.map (·.2)) :
    PD X E (.DictComp kx vx [⟨tg, iter, ifs, 0⟩] scope pos) (dDcOwn it (own.map (·.2)) t c fk fv) := PE.imp (pe_dc hc hN hi ok hg ht hk he hs) fun _ _ _ h => tD_dc hsub h
end
end MP
/-! [.. for ..]: a list of one's own -/
namespace MP
open PySem L2
open PySem.Spec PyProof.Rows
def lstA (ys : List D) : M D := M.alloc (.lst ys)
@[simp] def dLcOwn (it : DenI) (vs : List Nat) (t : Tg) (c : DenB) (f : Den) : Den := fun ρ => it ρ >>= fun ds => guardL (decide (ds.length ≤ big)) (lcL t c f (wipeE ρ vs) ds >>= lstA)
section
variable {K : Frag} {E : XK} {H : Hp} {o : Lo} {st : Store} {X : Cx}
theorem tD_lcO {it : DenI} {vs : List Nat} {t : Tg} {c : DenB} {f : Den} {σ : L2.St} {Q : VK} (hsub : ∀ i ∈ t.slots, i ∈ vs) (h : tD K E (dLcOwn it vs t c f) σ H Q) :
    tLc (tI K E it) (t.g K) (tT K EX0 c) (tD K EX0 f) vs σ H Q := by
  obtain ⟨o, ρ, st, he, hs, h⟩ := h
  refine ⟨o, ρ, st, he, hs, ?_⟩
  refine (wpR.bind.mp h).mono (fun ds st1 h1 J H1 o1 l1 s1 w Dd hD => ?_) fun _ _ x => x
  obtain ⟨hlen, h1⟩ := guardL_wp h1
  have hlen := of_decide_eq_true hlen
  have h1 := wpR.bind.mp h1
  refine ⟨fun i m Hi => m = ds.length - i ∧ i ≤ ds.length ∧ ∃ oi sti accd acc, Lc H1 o1 Hi oi ∧ oi.z = Dd :: o1.z ∧ LeW K (upd H1 Dd (.lst [])) (o1.hold Dd) Hi oi ∧ StOk K Hi oi sti ∧ Hi Dd = some (.lst acc) ∧ some Dd ∉ oi.l ∧ Reps K Hi oi accd acc ∧ accd.length ≤ i ∧
      wpR (lcL t c f (wipeE ρ vs) (ds.drop i) sti) (fun ys st' => wpR (lstA (accd ++ ys) st') (VOk K H o Q) (XOk K E H o)) (XOk K E H o),
    ⟨_, rfl, Nat.zero_le _, o1.hold Dd, st1, [], [], Lc.hold hD, rfl, LeW.refl, s1.hold hD, upd_same, (s1.avOf hD).1, rfl, Nat.le_refl _, h1⟩, ?_⟩
  rintro i m Hi ⟨rfl, hi, oi, sti, accd, acc, lc, ez, lr, si, eD, nD, ra, la, hw⟩
  have lr0 : LeW K H1 o1 Hi oi := (LeW.hold hD).trans lr
  obtain ⟨w1, w2⟩ := w Hi oi sti lr0 si
  by_cases hlt : i < ds.length
  · rw [List.drop_eq_getElem_cons hlt] at hw
    obtain ⟨go, yl⟩ := w2 i _ (List.getElem?_eq_getElem hlt)
    refine .inr ⟨go, fun H2 => ∃ m', m' < ds.length - i ∧ (m' = ds.length - (i + 1) ∧ i + 1 ≤ ds.length ∧ ∃ oi sti accd acc, Lc H1 o1 H2 oi ∧ oi.z = Dd :: o1.z ∧ LeW K (upd H1 Dd (.lst [])) (o1.hold Dd) H2 oi ∧ StOk K H2 oi sti ∧ H2 Dd = some (.lst acc) ∧ some Dd ∉ oi.l ∧ Reps K H2 oi accd acc ∧ accd.length ≤ i + 1 ∧
      wpR (lcL t c f (wipeE ρ vs) (ds.drop (i + 1)) sti) (fun ys st' => wpR (lstA (accd ++ ys) st') (VOk K H o Q) (XOk K E H o)) (XOk K E H o)), fun _ x => x, fun x H2 y => ?_⟩
    obtain ⟨gr, rx⟩ := yl x H2 y
    have l2 : Le Hi oi H2 oi := Gr.le gr
    have s2 := Gr.stOk gr si
    have hw' : wpR (optB (t.bind ds[i] (wipeE ρ vs)) (fun ρ1 => noX (c ρ1) >>= fun b => cond b (noX (f ρ1) >>= fun y => lcL t c f (wipeE ρ vs) (ds.drop (i + 1)) >>= fun ys => pure (y :: ys)) (lcL t c f (wipeE ρ vs) (ds.drop (i + 1)))) sti) (fun ys st' => wpR (lstA (accd ++ ys) st') (VOk K H o Q) (XOk K E H o)) (XOk K E H o) := hw
    cases hb : t.bind ds[i] (wipeE ρ vs) with
    | none => rw [hb] at hw'; exact False.elim hw'
    | some ρ1 =>
      rw [hb] at hw'
      have env0 : EnvOk K H2 oi (wipeE ρ vs) (wipe σ vs) := ((he.mono (l1.rep.trans lr0.rep)).mono l2.rep).wipe vs
      refine t.ok rx hb env0 fun σ2 he2 kp => ?_
      refine ⟨(wipe_ext (kp.1.trans rfl) fun j hj => kp.2 j fun q => hj (hsub j q)).trans (wipe_wipe σ vs), ?_⟩
      have hw2 : wpR ((noX (c ρ1) >>= fun b => cond b (noX (f ρ1) >>= fun y => lcL t c f (wipeE ρ vs) (ds.drop (i + 1)) >>= fun ys => pure (y :: ys)) (lcL t c f (wipeE ρ vs) (ds.drop (i + 1)))) sti) (fun ys st' => wpR (lstA (accd ++ ys) st') (VOk K H o Q) (XOk K E H o)) (XOk K E H o) := hw'
      refine ⟨oi, ρ1, sti, he2, s2, ?_⟩
      refine wpR.mono (noX_wp (wpR.bind.mp hw2)) (fun b st3 h3 H3 o3 l3 s3 => ?_) fun _ _ x => x
      have lc3 : Lc H1 o1 H3 o3 := (lc.trans l2.toLc).trans l3.toLc
      have lr3 : LeW K Hi oi H3 o3 := l2.w.trans l3.w
      have ez3 : o3.z = Dd :: o1.z := l3.z.trans ez
      obtain ⟨eD2, nD2⟩ := l2.keep Dd _ eD nD
      obtain ⟨eD3, nD3⟩ := l3.keep Dd _ eD2 nD2
      cases b with
      | false =>
        exact iteF ⟨_, by omega, rfl, by omega, o3, st3, accd, acc, lc3, ez3, lr.trans lr3, s3, eD3, nD3, lr3.rep.reps ra, Nat.le_succ_of_le la, h3⟩
      | true =>
        refine iteT ⟨o3, ρ1, st3, he2.mono l3.rep, s3, ?_⟩
        have h3' : wpR ((noX (f ρ1) >>= fun y => lcL t c f (wipeE ρ vs) (ds.drop (i + 1)) >>= fun ys => pure (y :: ys)) st3) (fun ys st' => wpR (lstA (accd ++ ys) st') (VOk K H o Q) (XOk K E H o)) (XOk K E H o) := h3
        refine wpR.mono (noX_wp (wpR.bind.mp h3')) (fun y' st4 h4 v4 H4 o4 l4 s4 r4 => ?_) fun _ _ x => x
        obtain ⟨eD4, nD4⟩ := l4.keep Dd _ eD3 nD3
        have ez4 : o4.z = Dd :: o1.z := l4.z.trans ez3
        have hin : Dd ∈ o4.z := by rw [ez4]; exact List.mem_cons_self
        have al : acc.length = accd.length := ra.length
        refine ⟨acc, eD4, by have := big_lt; omega, _, by omega, rfl, by omega, o4, st4, accd ++ [y'], acc ++ [v4], (lc3.trans l4.toLc).rewriteNew hD, ez4, (((lr.trans lr3).trans l4.w)).trans (LeW.rewrite hin), s4.rewrite hin, upd_same, nD4,
          (LeR.rewrite hin).reps ((l4.rep.reps (lr3.rep.reps ra)).append (Reps.one r4)), by simp; omega, ?_⟩
        refine (wpR.bind.mp h4).mono (fun ys st5 h5 => ?_) fun _ _ x => x
        have h5' : wpR (lstA (accd ++ y' :: ys) st5) (VOk K H o Q) (XOk K E H o) := h5
        rw [List.append_assoc]
        exact h5'
  · have e : i = ds.length := by omega
    subst e
    rw [List.drop_length] at hw
    refine .inl ⟨w1, ?_⟩
    have hw0 : wpR (lstA (accd ++ []) sti) (VOk K H o Q) (XOk K E H o) := hw
    rw [List.append_nil] at hw0
    have hw' : wpR (M.alloc (.lst accd) sti) (VOk K H o Q) (XOk K E H o) := hw0
    have nz : Dd ∉ o1.z := (s1.avOf hD).2
    obtain ⟨s3, r3⟩ := si.hole (p := Dd) (z := o1.z) ez nz
    have le3 : Le H1 o1 (fun a => if a = Dd then none else Hi a) { oi with z := o1.z } := ⟨⟨fun a u e n nt => by
      obtain ⟨g1, g2⟩ := lc.keep a u e n
      exact ⟨by show (if a = Dd then none else Hi a) = _; rw [if_neg (ne_of_none e hD)]; exact g1, g2⟩, lc.loc, lc.x⟩, rfl⟩
    have eH : Hi = upd (fun a => if a = Dd then none else Hi a) Dd (.lst acc) := by
      funext a
      by_cases ha : a = Dd
      · subst ha; rw [upd_same, eD]
      · rw [upd_ne ha, if_neg ha]
    rw [eH]
    have hn : (fun a => if a = Dd then none else Hi a) Dd = none := if_pos rfl
    exact ok_alloc (wpR.mono hw' (fun _ _ x => x.mono (l1.trans le3)) fun _ _ x => x.mono (l1.trans le3)) s3 hn ⟨Dd, acc, rfl, upd_same, (Le.alloc hn).rep.reps (r3.reps ra)⟩
theorem dp_setLcO {i : Nat} {y : Str} {py : Pos} {elt tg iter : Expr} {ifs : List Expr} {scope : Scope} {own : List (Str × Nat)} {pos spos : Pos} {it : DenI} {t : Tg} {c : DenB} {f : Den} (hc : X.calm = true) (hN : X.N.Nodup) (hy : X.N[i]? = some y) (hyl : X.env.scope.names.lookup y = some .local)
    (hsw : swapsWith (.ListComp elt [⟨tg, iter, ifs, 0⟩] scope pos) (some (.Name y py)) spos.line X.env = pure true) (hi : PDI X E tg iter it) (ok : BlkOk X.N X.env.scope scope own)
    (hg : ∀ (s : Shared) (H : Hp) (C : Addr) (cl : List (Str × Addr)) (fp : List Addr), PG (X.blk s H scope (compEnvC scope cl C X.env) fp) tg (t.g X.K))
    (ht : ∀ (s : Shared) (H : Hp) (C : Addr) (cl : List (Str × Addr)) (fp : List Addr), PTs (X.blk s H scope (compEnvC scope cl C X.env) fp) ifs (tT X.K EX0 c))
    (he : ∀ (s : Shared) (H : Hp) (C : Addr) (cl : List (Str × Addr)) (fp : List Addr), PE (X.blk s H scope (compEnvC scope cl C X.env) fp) elt (tD X.K EX0 f)) (hs : ∀ x, foldedSetIterable iter X.env x = pure x) (hsub : ∀ i ∈ t.slots, i ∈ own.map (·.2)) :
    PDS X E (.Assign [.Name y py] (.ListComp elt [⟨tg, iter, ifs, 0⟩] scope pos) spos) (dAsg (dLcOwn it (own.map (·.2)) t c f) (gSet i)) := PS.imp (ps_setLc hc hN hy hyl hsw hi ok hg ht he hs) fun D σ H h => by
  have h1 : tD X.K E (dLcOwn it (own.map (·.2)) t c f) σ H fun v H1 => D.nx (σ.set i (some v)) H1 := by
    obtain ⟨o, ρ, st, he, hs, h⟩ := h
    refine ⟨o, ρ, st, he, hs, ?_⟩
    exact (wpR.bind.mp h).mono (fun d st1 h1 v H1 o1 l s1 r => (show EOk X.K H o D.nx (ρ.set i (some d)) st1 from h1) _ H1 o1 l s1 ((he.mono l.rep).set i r)) fun _ _ x => x
  exact tD_lcO hsub h1
end
end MP
/-! f'..' -/
namespace MP
open PySem L2
open PySem.Spec PyProof.Rows
def fmtM : D → M D
  | .str y => guardM (decide (y.length ≤ big)) (pure (.str y))
  | .int i => guardM (decide (i.natAbs.log2 < 1920)) (pure (.str (toString i)))
  | _ => M.stuck
@[simp] theorem fmtM_s {y : Str} : fmtM (.str y) = guardM (decide (y.length ≤ big)) (pure (.str y)) := rfl
@[simp] def dFmt (f : Den) : Den := fun ρ => f ρ >>= fmtM
def strM {α : Type} (d : D) (f : Str → M α) : M α := match d with
  | .str y => f y
  | _ => M.stuck
@[simp] theorem strM_s {α : Type} {y : Str} {f : Str → M α} : strM (.str y) f = f y := rfl
@[simp] def denJs : List Den → Str → Env → M D
  | [], acc, _ => pure (.str acc)
  | f :: fs, acc, ρ => f ρ >>= fun d => strM d fun y => guardM (decide ((acc ++ y).length ≤ big)) (denJs fs (acc ++ y) ρ)
@[simp] def dFs (fs : List Den) : Den := fun ρ => denJs fs Str.empty ρ
section
variable {K : Frag} {E : XK} {H : Hp} {o : Lo} {st : Store} {X : Cx}
theorem pd_fmt {e : Expr} {f : Den} {pos : Pos} (h : PD X E e f) : PD X E (.FormattedValue e (-1) none pos) (dFmt f) := PE.imp (pe_fmt h) fun σ H Q h => by
  obtain ⟨o, ρ, st, he, hs, h⟩ := h
  refine ⟨o, ρ, st, he, hs, ?_⟩
  refine (wpR.bind.mp h).mono (fun d st1 h1 v H1 o1 l s1 r => ?_) fun _ _ x => x
  cases d with
  | str y =>
    obtain ⟨hz, h1⟩ := guardM_wp (show wpR (guardM (decide (y.length ≤ big)) (pure (.str y)) st1) (VOk X.K H o Q) (XOk X.K E H o) from h1)
    exact .inl ⟨y, r, Nat.le_trans (of_decide_eq_true hz) big_le, (show VOk X.K H o Q (.str y) st1 from h1) _ H1 o1 l s1 rfl⟩
  | int i =>
    obtain ⟨hz, h1⟩ := guardM_wp (show wpR (guardM (decide (i.natAbs.log2 < 1920)) (pure (.str (toString i))) st1) (VOk X.K H o Q) (XOk X.K E H o) from h1)
    exact .inr ⟨i, r, of_decide_eq_true hz, (show VOk X.K H o Q (.str (toString i)) st1 from h1) _ H1 o1 l s1 rfl⟩
  | _ => exact False.elim h1
theorem tJs_of : ∀ (fs : List Den) {acc : Str} {σ : L2.St} {H : Hp} {o : Lo} {st : Store} {ρ : Env} {Q : VK}, EnvOk K H o ρ σ → StOk K H o st → wpR (denJs fs acc ρ st) (VOk K H o Q) (XOk K E H o) → tJs (fs.map (tD K E)) acc σ H fun out H1 => Q (.str out) H1
  | [], acc, σ, H, o, st, ρ, Q, he, hs, h => (show VOk K H o Q (.str acc) st from h) _ H o (Le.refl _ _) hs rfl
  | f :: fs, acc, σ, H, o, st, ρ, Q, he, hs, h => by
    refine ⟨o, ρ, st, he, hs, ?_⟩
    refine (wpR.bind.mp (show wpR ((f ρ >>= fun d => strM d fun y => guardM (decide ((acc ++ y).length ≤ big)) (denJs fs (acc ++ y) ρ)) st) (VOk K H o Q) (XOk K E H o) from h)).mono (fun d st1 h1 v H1 o1 l s1 r => ?_) fun _ _ x => x
    cases d with
    | str y =>
      obtain ⟨hz, h1⟩ := guardM_wp (show wpR (guardM (decide ((acc ++ y).length ≤ big)) (denJs fs (acc ++ y) ρ) st1) (VOk K H o Q) (XOk K E H o) from h1)
      exact ⟨y, r, Nat.le_trans (of_decide_eq_true hz) big_le, tJs_of fs (he.mono l.rep) s1 (wpR.mono h1 (fun _ _ x => x.mono l) fun _ _ x => x.mono l)⟩
    | _ => exact False.elim h1
abbrev PDJ (X : Cx) (E : XK) (es : List Expr) (fs : List Den) : Prop := PJ X es (fs.map (tD X.K E))
theorem pj_nilD : PDJ X E [] [] := PJ.nil
theorem pj_consD {e : Expr} {es : List Expr} {f : Den} {fs : List Den} (h : PD X E e f) (r : PDJ X E es fs) : PDJ X E (e :: es) (f :: fs) := PJ.cons h r
theorem pd_fs {v1 v2 : Expr} {rest : List Expr} {fs : List Den} {pos : Pos} (h : PDJ X E (v1 :: v2 :: rest) fs) : PD X E (.JoinedStr (v1 :: v2 :: rest) pos) (dFs fs) := PE.imp (pe_joined h) fun σ H Q h => by
  obtain ⟨o, ρ, st, he, hs, h⟩ := h
  exact tJs_of fs he hs h
end
end MP

namespace MP
open PySem L2
open PySem.Spec PyProof.Rows
/-! ## a range of three numbers that is used up at once -/
def rgItems (i c : Int) (n : Nat) : List D := (List.range n).map fun (k : Nat) => D.int (i + (k : Int) * c)
def rgMany (i j c : Int) : Nat := if i < j then ((j - i - 1) / c + 1).toNat else 0
def rgFits (i j c : Int) : Bool := decide (0 < c ∧ c < 2305843009213693952 ∧ -(2 ^ 62) ≤ i ∧ i < 2 ^ 62 ∧ -(2 ^ 62) ≤ j ∧ j < 2 ^ 62 ∧ rgMany i j c ≤ big)
theorem rgMany_size {i j c : Int} (h : 0 < c) : Builtin.Range.rangeSize i j c = (rgMany i j c : Nat) := by
  unfold Builtin.Range.rangeSize rgMany
  rw [if_pos h]
  by_cases hij : i < j
  · rw [if_pos hij, if_pos hij]
    have : 0 ≤ (j - i - 1) / c := Int.ediv_nonneg (by omega) (by omega)
    omega
  · rw [if_neg hij, if_neg hij]; rfl
theorem rgFits_small {i j c : Int} (h : rgFits i j c = true) : Builtin.Range.small i j c = true := by
  obtain ⟨h0, h1, h2, h3, h4, h5, h6⟩ := of_decide_eq_true h
  have h7 : rgMany i j c ≤ 16000000 := h6
  unfold Builtin.Range.small Builtin.Range.rangeFitsLong
  rw [rgMany_size h0]
  simp only [Bool.and_eq_true, Bool.or_eq_true, decide_eq_true_eq, beq_iff_eq, gt_iff_lt, h0, if_true]
  omega
theorem rg_lg {n : Nat} (h : n < 2305843009213693952) : n.log2 < 61 := by
  by_cases h0 : n = 0
  · subst h0; decide
  · exact (Nat.log2_lt h0).mpr h
def tupRg : List D → M D
  | [.int i, .int j, .int c] => guardM (rgFits i j c) (pure (.tup (rgItems i c (rgMany i j c))))
  | _ => M.stuck
def lstRg : List D → M D
  | [.int i, .int j, .int c] => guardM (rgFits i j c) (pure (.lst (rgItems i c (rgMany i j c))))
  | _ => M.stuck
@[simp] theorem tupRg_i {i j c : Int} : tupRg [.int i, .int j, .int c] = guardM (rgFits i j c) (pure (.tup (rgItems i c (rgMany i j c)))) := rfl
@[simp] theorem lstRg_i {i j c : Int} : lstRg [.int i, .int j, .int c] = guardM (rgFits i j c) (pure (.lst (rgItems i c (rgMany i j c)))) := rfl
def rgVs (i c : Int) (n : Nat) : List V := (List.range n).map fun (k : Nat) => V.int (i + (k : Int) * c)
theorem rgVs_len {i c : Int} {n : Nat} : (rgVs i c n).length = n := by unfold rgVs; rw [List.length_map, List.length_range]
theorem rgVs_of {i c : Int} {n : Nat} {acc : Array Value} (h : ItemsOf (fun k v => ∃ t, v = .int (i + k * c) t) acc n) : Vals (rgVs i c n) acc.toList := by
  have e : acc.toList.length = n := by rw [Array.length_toList]; exact h.1
  subst e
  exact vals_of_get acc.toList _ fun j u hj => (h.2 j u (by rw [← hj, Array.getElem?_toList]))
theorem rg_reps {K : Frag} {H : Hp} {o : Lo} {i c : Int} {n : Nat} : Reps K H o (rgItems i c n) (rgVs i c n) := by
  unfold rgItems rgVs
  generalize List.range n = l
  induction l with
  | nil => rfl
  | cons k l ih => exact ⟨_, _, rfl, rfl, ih⟩
section
variable {X : Cx} {E : XK} {a b c : Expr} {ta : TA} {p p2 pos pos2 : Pos} {fs : DenL}
theorem range3_run (hg : Gl X "range") (hm : X.mg "range" = none) (ha : PA X [a, b, c] ta) (hs : starEach [a, b, c] X.env = (false, eval a X.env) :: starEach [b, c] X.env) (hpl : (backTo pos (starEach [b, c] X.env)).any (·.1) = false)
    {pins : List (Addr × Obj)} {s : Shared} {σ : L2.St} {H : Hp} {Q : Int → Int → Int → Hp → Prop} (I : L2.Inv X pins σ H s) (h : ta σ H fun vs H1 => ∃ i j k : Int, vs = [.int i, .int j, .int k] ∧ k ≠ 0 ∧ k.natAbs < 2305843009213693952 ∧ Q i j k H1) :
    wpAny (model X.prog X.w) X.A (eval (.Call (.Name "range" p) [a, b, c] [] pos) X.env) (fun x s1 => ∃ r i j k t u v H1, x = .ref r ∧ IsRange s1.heap r i j k t u v ∧ L2.Inv X pins σ H1 s1 ∧ Q i j k H1) X.xe s := by
  refine Call_ (ld_blt I hg hm boot_range (PyProof.Rows.callWith_type1 (thn (ha.run pos pins s σ H _ I h) fun us s1 ⟨vs, H1, I1, r1, q1⟩ => ?_) hs hpl))
  obtain ⟨i, j, k, rfl, c0, c1, q⟩ := q1
  cases r1 with
  | cons ra rr => cases rr with
    | cons rb rr => cases rr with
      | cons rc rr =>
        cases rr
        obtain ⟨t, rfl⟩ := ra; obtain ⟨t1, rfl⟩ := rb; obtain ⟨t2, rfl⟩ := rc
        refine call_range_3 c0 ?_ (.inl (PyProof.noPylong_of_log2 (Nat.lt_trans (rg_lg c1) (by decide : 61 < 9000))))
        have I2 : L2.Inv X pins σ H1 { s1 with heap := s1.heap.push { cls := .type "range", data := .fields #[.int i t, .int j t1, .int k t2] } } := I1.kept (t' := s1.toks) fun b o e => Heap.get?_push_of_some _ e
        exact ⟨_, i, j, k, t, t1, t2, H1, rfl, IsRange.new .., I2, q⟩
theorem rg_take {op : D → M D} {mk : List D → M D} (hmk : ∀ i j k, mk [.int i, .int j, .int k] = guardM (rgFits i j k) (op (.tup (rgItems i k (rgMany i j k))))) (hno : ∀ ds, (∀ i j k, ds ≠ [.int i, .int j, .int k]) → mk ds = M.stuck)
    {σ : L2.St} {H : Hp} {Q : VK} (h : tD X.K E (fun ρ => fs ρ >>= mk) σ H Q) : tL X.K E fs σ H fun vs H1 => ∃ i j k : Int, vs = [.int i, .int j, .int k] ∧ k ≠ 0 ∧ k.natAbs < 2305843009213693952 ∧ (rgFits i j k = true ∧ ∃ o st, StOk X.K H1 o st ∧ wpR (op (.tup (rgItems i k (rgMany i j k))) st) (VOk X.K H1 o Q) (XOk X.K E H1 o)) := by
  obtain ⟨o, ρ, st, he, hs, h⟩ := tD_lst h
  refine ⟨o, ρ, st, he, hs, h.mono (fun ds st1 h1 vs H1 o1 l s1 r => ?_) fun _ _ x => x⟩
  obtain ⟨ds', o2, st2, r2, so2, h2⟩ := h1 vs H1 o1 l s1 r
  by_cases hd : ∃ i j k, ds' = [D.int i, .int j, .int k]
  · obtain ⟨i, j, k, rfl⟩ := hd
    rw [hmk] at h2
    obtain ⟨hf, h3⟩ := guardM_wp h2
    obtain ⟨v, w, rfl, rv, r3⟩ := r2
    obtain ⟨v2, v3, rfl, rv2, rv3⟩ := r3.two_of
    cases (show v = .int i from rv)
    cases (show v2 = .int j from rv2)
    cases (show v3 = .int k from rv3)
    obtain ⟨g0, g1, _⟩ := of_decide_eq_true hf
    exact ⟨i, j, k, rfl, by omega, by omega, hf, o2, st2, so2, h3⟩
  · rw [hno ds' fun i j k e => hd ⟨i, j, k, e⟩] at h2
    exact False.elim h2
theorem tupRg_no {ds : List D} (h : ∀ i j k, ds ≠ [.int i, .int j, .int k]) : tupRg ds = M.stuck := by
  unfold tupRg; split
  · exact absurd rfl (h _ _ _)
  · rfl
theorem lstRg_no {ds : List D} (h : ∀ i j k, ds ≠ [.int i, .int j, .int k]) : lstRg ds = M.stuck := by
  unfold lstRg; split
  · exact absurd rfl (h _ _ _)
  · rfl
theorem pd_tupRg (hg0 : Gl X "tuple") (hm0 : X.mg "tuple" = none) (hg : Gl X "range") (hm : X.mg "range" = none) (hc : X.calm = true) (ha : PL X E [a, b, c] fs) (hs : starEach [a, b, c] X.env = (false, eval a X.env) :: starEach [b, c] X.env) (hpl : (backTo pos2 (starEach [b, c] X.env)).any (·.1) = false)
    (na : starEach [.Call (.Name "range" p2) [a, b, c] [] pos2] X.env = (false, eval (.Call (.Name "range" p2) [a, b, c] [] pos2) X.env) :: starEach [] X.env) :
    PD X E (.Call (.Name "tuple" p) [.Call (.Name "range" p2) [a, b, c] [] pos2] [] pos) (dCall tupRg fs) := by
  refine ⟨fun pins s σ H Q I h => ?_⟩
  have h0 := rg_take (op := pure) (mk := tupRg) (fun _ _ _ => rfl) (fun _ => tupRg_no) h
  refine Call_ (ld_blt I hg0 hm0 boot_tuple (PyProof.Rows.callWith_type1 (args_cons (thn (range3_run hg hm ha hs hpl I h0) fun x s1 hx => args_nil ?_) na) na))
  obtain ⟨r, i, j, k, t, u, v, H1, rfl, hr, I1, hf, o, st, so, q⟩ := hx
  have hf' := of_decide_eq_true hf
  refine call_tuple_range (I1.ok.hd hc) hr (rgFits_small hf) (rgMany_size hf'.1) (Nat.le_trans hf'.2.2.2.2.2.2 (by decide)) fun h2 tk acc hk hi => ?_
  have I2 : L2.Inv X pins σ H1 { s1 with heap := h2, toks := tk } := I1.kept hk
  have hz : (rgVs i k (rgMany i j k)).length ≤ sizeLine := by rw [rgVs_len]; exact Nat.le_trans hf'.2.2.2.2.2.2 big_le
  refine ⟨.ref h2.objs.size, upd H1 h2.objs.size (.tup (rgVs i k (rgMany i j k))), I2.laid (t' := tk) (fun c o e => Heap.get?_push_of_some _ e) (Nat.le_refl _) (show ObjOk X.prog X.w _ _ _ (.tup (rgVs i k (rgMany i j k))) from ⟨hz, acc.toList, rgVs_of hi, ?_⟩), rfl, ok_newTup q so rg_reps (I2.hok.fresh (Nat.le_refl _))⟩
  rw [Array.toArray_toList]
  exact IsTup.new _ _
theorem pd_lstRg (hg0 : Gl X "list") (hm0 : X.mg "list" = none) (hg : Gl X "range") (hm : X.mg "range" = none) (hc : X.calm = true) (ha : PL X E [a, b, c] fs) (hs : starEach [a, b, c] X.env = (false, eval a X.env) :: starEach [b, c] X.env) (hpl : (backTo pos2 (starEach [b, c] X.env)).any (·.1) = false)
    (na : starEach [.Call (.Name "range" p2) [a, b, c] [] pos2] X.env = (false, eval (.Call (.Name "range" p2) [a, b, c] [] pos2) X.env) :: starEach [] X.env) :
    PD X E (.Call (.Name "list" p) [.Call (.Name "range" p2) [a, b, c] [] pos2] [] pos) (dCall lstRg fs) := by
  refine ⟨fun pins s σ H Q I h => ?_⟩
  have h0 := rg_take (op := fun d => match d with | .tup ds => pure (.lst ds) | _ => M.stuck) (mk := lstRg) (fun _ _ _ => rfl) (fun _ => lstRg_no) h
  refine Call_ (ld_blt I hg0 hm0 boot_list (PyProof.Rows.callWith_type1 (args_cons (thn (range3_run hg hm ha hs hpl I h0) fun x s1 hx => args_nil ?_) na) na))
  obtain ⟨r, i, j, k, t, u, v, H1, rfl, hr, I1, hf, o, st, so, q⟩ := hx
  have hf' := of_decide_eq_true hf
  refine call_list_range (I1.ok.hd hc) hr (rgFits_small hf) (rgMany_size hf'.1) (Nat.le_trans hf'.2.2.2.2.2.2 (by decide)) fun h2 tk acc c2 hk eq hi => ?_
  have hz : (rgVs i k (rgMany i j k)).length ≤ sizeLine := by rw [rgVs_len]; exact Nat.le_trans hf'.2.2.2.2.2.2 big_le
  refine ⟨.ref s1.heap.objs.size, upd H1 s1.heap.objs.size (.lst (rgVs i k (rgMany i j k))), I1.laid hk (Nat.le_refl _) (show ObjOk X.prog X.w _ _ _ (.lst (rgVs i k (rgMany i j k))) from ⟨hz, acc.toList, c2, rgVs_of hi, ?_⟩), rfl, ok_newLst q so rg_reps (I1.hok.fresh (Nat.le_refl _))⟩
  rw [Array.toArray_toList]
  exact eq
end
/-! ## t[::-1] -/
def revT : D → M D
  | .tup ds => pure (.tup ds.reverse)
  | _ => M.stuck
@[simp] theorem revT_t {ds : List D} : revT (.tup ds) = pure (.tup ds.reverse) := rfl
section
variable {prog : Program} {w : World} {A : Around} {E : Value → Shared → Prop} {s : Shared}
theorem back_places (n : Nat) : Builtin.Slice.slicePlaces ((n : Int) - 1) (-1) (-1) = n := by
  unfold Builtin.Slice.slicePlaces
  have e : -(-1 : Int) = 1 := rfl
  rw [if_neg (by decide), e, Int.ediv_one]
  split <;> omega
theorem back_pick (xs : Array Value) : ((List.range xs.size).filterMap fun (k : Nat) => xs[((xs.size : Int) - 1 + (k : Int) * (-1)).toNat]?) = xs.toList.reverse := by
  have e : ((List.range xs.size).filterMap fun (k : Nat) => xs[((xs.size : Int) - 1 + (k : Int) * (-1)).toNat]?) = ((List.range xs.size).map fun k => xs.size - 1 - k).filterMap (xs[·]?) := by
    rw [List.filterMap_map]
    have g : ∀ l : List Nat, (∀ k ∈ l, k < xs.size) → l.filterMap (fun (k : Nat) => xs[((xs.size : Int) - 1 + (k : Int) * (-1)).toNat]?) = l.filterMap ((xs[·]?) ∘ fun k => xs.size - 1 - k) := fun l => by
      induction l with
      | nil => intro _; rfl
      | cons k l ih =>
        intro hl
        have hk := hl k List.mem_cons_self
        have e1 : ((xs.size : Int) - 1 + (k : Int) * (-1)).toNat = xs.size - 1 - k := by omega
        rw [List.filterMap_cons, List.filterMap_cons, ih fun y hy => hl y (List.mem_cons_of_mem _ hy), e1]
        rfl
    exact g _ fun k hk => List.mem_range.mp hk
  rw [e, PySem.W.krv_range, List.filterMap_reverse, PySem.W.krv_all]
theorem back_applied {sl : Addr} {tk : Tok} {n : Nat} {Q : Int × Int × Nat → Shared → Prop} (hs : s.heap.IsSliceOf sl .none .none (.int (-1) tk)) (h : Q ((n : Int) - 1, -1, n) s) :
    wpAny (model prog w) A (Builtin.Slice.sliceApplied (.ref sl) (pure (n : Int))) Q E s := by
  obtain ⟨os, hos, _, hd⟩ := hs
  unfold Builtin.Slice.sliceApplied Builtin.Slice.sliceFields
  refine wpAny_bind (wpAny_bind (wpAny_field hos hd (x := .none) rfl (wpAny_bind (wpAny_field hos hd (x := .none) rfl (wpAny_bind (wpAny_field hos hd (x := .int (-1) tk) rfl (wpAny_pure ?_)))))))
  refine wpAny_bind (HT.slicePart_ (.int (-1) tk) ?_)
  show wpAny _ _ (if ((-1 : Int) == 0) = true then _ else _) _ _ s
  rw [if_neg (by decide)]
  refine wpAny_bind (slicePart_none (wpAny_bind (slicePart_none (wpAny_bind (wpAny_pure ?_)))))
  show wpAny _ _ (pure ((n : Int) - 1, (-1 : Int), Builtin.Slice.slicePlaces ((n : Int) - 1) (-1) (-1))) _ _ s
  rw [back_places]
  exact wpAny_pure h
theorem back_item {t sl : Addr} {tk : Tok} {items : Array Value} {Q : Value → Shared → Prop} (ht : IsTup s.heap t items) (hs : s.heap.IsSliceOf sl .none .none (.int (-1) tk)) (hz : items.size ≤ sizeLine)
    (h : Q (.ref s.heap.objs.size) { s with heap := s.heap.push { cls := .type "tuple", data := .seq items.toList.reverse.toArray } }) : wpAny (model prog w) A (getItem (.ref t) (.ref sl)) Q E s := by
  have hT : s.TypeIs (.ref sl) "slice" := let ⟨os, hos, hc, _⟩ := hs; ⟨os, hos, hc⟩
  have ok : sizeOk (.seq items.toList.reverse.toArray) := by
    show items.toList.reverse.toArray.size ≤ sizeLine
    rw [List.size_toArray, List.length_reverse, Array.length_toList]; exact hz
  unfold getItem
  try with_reducible refine wpAny_holding ?_
  first | refine wpAny_bind (wpAny_pure ?_) | skip
  refine wpAny_bind (wpAny_sequenceKey ht.typeIs (by decide) (wpAny_bind (wpAny_callSpecial?_slot (name := Str.ofString "__getitem__") ht.typeIs PyProof.Rows.slot_tuple_getitem (wpAny_call_entry PyProof.Rows.slot_tuple_getitem ht.typeIs entry_tuple_getitem ?_ (args_tuple_getitem _ _)))))
  show wpAny _ _ (Builtin.Tuple.tupleItemsOf (.ref t) >>= _) _ _ s
  refine wpAny_bind (tupleItemsOf_ ht (wpAny_bind (wpAny_typeOf hT ?_)))
  rw [if_pos (by decide)]
  refine wpAny_bind (back_applied hs ?_)
  have hno : ¬ (((items.size : Int) - 1 == 0 && (-1 : Int) == 1 && items.size == items.size) = true) := by simp
  show wpAny _ _ (if ((items.size : Int) - 1 == 0 && (-1 : Int) == 1 && items.size == items.size) = true then _ else _) _ _ s
  rw [if_neg hno, back_pick]
  first
    | exact wpAny_bind (m := Builtin.Tuple.tupleExact _) (wpAny_newObj_type (wpAny_pure ⟨_, rfl, wpAny_pure h⟩) ok)
    | exact wpAny_bind (wpAny_bind (m := Builtin.Tuple.tupleExact _) (wpAny_newObj_type (wpAny_pure ⟨_, rfl, wpAny_pure h⟩) ok))
end
theorem Reps.rev {K : Frag} {H : Hp} {o : Lo} : ∀ {ds : List D} {vs : List V}, Reps K H o ds vs → Reps K H o ds.reverse vs.reverse
  | [], vs, h => by cases (show vs = [] from h); rfl
  | d :: ds, _, h => by
    obtain ⟨v, vs, rfl, h1, h2⟩ := h
    rw [List.reverse_cons, List.reverse_cons]
    exact (Reps.rev h2).append ⟨v, [], rfl, h1, rfl⟩
theorem pd_revT {X : Cx} {E : XK} {e : Expr} {f : Den} {k : Nat} {p1 p2 p3 pos : Pos} (he : PD X E e f) : PD X E (.Subscript e (.Slice none none (some (.UnaryOp .USub (.Constant (.int 1) k p1) p2)) p3) pos) (d1 revT f) := by
  refine ⟨fun pins s σ H Q I h => ?_⟩
  refine Subscript_ (thn (he.run pins s σ H _ I (tD_one h)) fun v s1 ⟨x, H1, I1, r1, q1⟩ => ?_)
  obtain ⟨d, o, st, rd, so, h1⟩ := q1
  cases d with
  | tup ds =>
    have rd0 := rd
    obtain ⟨a, xs, rfl, kk, q⟩ := rd
    cases r1
    have hst : PO X (some (.UnaryOp .USub (.Constant (.int 1) k p1) p2)) (tPart (tUn (rU fun i => .int (-i)) (tC (.int 1)))) := po_some (pe_un un_neg pe_int)
    refine wpAny_Slice (thn (po_none.run pins s1 σ H1 (fun o H2 => o = none ∧ H2 = H1) I1 ⟨rfl, rfl⟩) fun vl s2 ⟨l, H2, I2, pl, el, e2⟩ => thn (po_none.run pins s2 σ H2 (fun o H3 => o = none ∧ H3 = H2) I2 ⟨rfl, rfl⟩) fun vu s3 ⟨u, H3, I3, pu, eu, e3⟩ => ?_)
    subst el e2 eu e3
    refine thn (hst.run pins s3 σ H3 (fun o H4 => o = some (-1) ∧ H4 = H3) I3 ⟨1, rfl, -1, rfl, rfl, rfl⟩) fun vs s4 ⟨o4, H4, I4, ps, eo, e4⟩ => ?_
    subst eo e4
    cases pl; cases pu; cases ps with
    | int _ tk =>
    have I5 : L2.Inv X pins σ H4 { s4 with heap := s4.heap.push { cls := .type "slice", data := .fields #[Value.none, .none, .int (-1) tk] } } := I4.kept (t' := s4.toks) fun b ob q => Heap.get?_push_of_some _ q
    obtain ⟨its, r, ht, hz⟩ := I5.tuple (tup_sq kk)
    have hlen := r.length
    show wpAny (model X.prog X.w) X.A (subscriptTail e (.Slice none none (some (.UnaryOp .USub (.Constant (.int 1) k p1) p2)) p3) (.ref a) (.ref s4.heap.objs.size)) (EP X pins σ Q) X.xe { s4 with heap := s4.heap.push { cls := .type "slice", data := .fields #[Value.none, .none, .int (-1) tk] } }
    refine tail_any (ops := [.ref a, .ref s4.heap.objs.size]) ht.typeIs PyProof.Rows.slot_tuple_getitem.lookup (back_item ht (Heap.IsSliceOf.new _ _ _ _) (by rw [List.size_toArray]; omega) ?_) (by with_unfolding_all rfl)
    exact ⟨.ref _, _, I5.laid (t' := s4.toks) (o := .tup xs.reverse) (fun b ob q => Heap.get?_push_of_some _ q) (Nat.le_refl _) ⟨by rw [List.length_reverse]; exact hz, _, r.reverse, IsTup.new _ _⟩, rfl, ok_newTup h1 so q.rev (I5.hok.fresh (Nat.le_refl _))⟩
  | _ => exact False.elim h1
end MP

namespace MP
open PySem L2
open PySem.Spec PyProof.Rows
/-! ## sorted(set(xs)) of a list of numbers -/
abbrev setO (w : World) : Obj := { cls := .type "set", dict := none, data := .set #[] 0 (.fresh 0 0 (!w.params.followText "set-order")) }
section
variable {P : Program} {w : World} {A : Around} {E : Value → Shared → Prop} {s : Shared}
set_option maxHeartbeats 3200000 in
theorem set_ints {l : Addr} {items : Array Value} {ns : List Int} {Q : Value → Shared → Prop} (hh : A.handled = none) (hl : s.heap.IsList l items) (hit : IntsAre items.toList ns) (hb : ns.length + 1 < scanBound)
    (h : ∀ (g : Heap) (tk c : Nat), SetR w g s.heap.objs.size (fun j => decide (j ∈ ns)) c → c ≤ ns.length → (∀ b o, s.heap.get? b = some o → g.get? b = some o) → Q (.ref s.heap.objs.size) { s with heap := g, toks := tk }) :
    wpAny (model P w) A (call (.type "set") [.ref l]) Q E s := by
  have hz : items.size = ns.length := by have q := IntsAre.length hit; rw [Array.length_toList] at q; exact q
  obtain ⟨c, tl, hmro⟩ := F.called_set.mro
  have f1 := F.called_set.made
  have f2 := F.called_set.sub
  have f3 := F.called_set.notType
  have f4 := F.called_set.canCreate
  have f5 := F.typeCall_set_1 (.ref l)
  refine wpAny_call (codeAny_of_tree ?_)
  show wpAny _ _ (callAny (.type "set") _) _ _ _
  refine wpAny_pure ⟨Code.quiet_builtin _ (by decide +kernel), codeAny_builtin F.entry_type_call ?_⟩
  rw [Around.under_plain (weight_type_call_type "set" [.ref l] []) rfl]
  repeat (any_goals (first | assumption | wp_step))
  refine codeAny_mono (code_set_led1 (.ref l) (E := E) (Q₁ := fun obj s₁ => obj = .ref s.heap.objs.size ∧ s₁ = { s with heap := s.heap.push (setO w) }) ⟨rfl, rfl⟩) fun r s₁ hr => ?_
  match r, hr with
  | .error e, hr => exact hr
  | .ok .next, hr => exact hr.elim
  | .ok .brk, hr => exact hr.elim
  | .ok .cont, hr => exact hr.elim
  | .ok (.ret obj), hr =>
    obtain ⟨rfl, rfl⟩ := hr
    have gS : (s.heap.push (setO w)).get? s.heap.objs.size = some (setO w) := Heap.get?_push_size _ rfl
    have gT : Shared.TypeIs { s with heap := s.heap.push (setO w) } (.ref s.heap.objs.size) "set" := ⟨_, gS, rfl⟩
    have f6 := F.called_set.init.lookup
    have f7 := F.called_set.init.bind (.ref s.heap.objs.size)
    repeat (any_goals (first | assumption | wp_step))
    refine codeAny_mono (codeAny_call_builtin (R := wants (fun r s₂ => r = .none ∧ ∃ g tk c, s₂ = { s with heap := g, toks := tk } ∧ SetR w g s.heap.objs.size (fun j => decide (j ∈ ns)) c ∧ c ≤ ns.length ∧ (∀ b o, s.heap.get? b = some o → g.get? b = some o)) E) F.called_set.init.plain F.entry_set_init (check_set_init_1 gT ?_)) fun r₂ s₂ hr₂ => ?_
    · obtain ⟨⟨ocls, odict, odata, oslots⟩, hol, hcl, nl, hdl⟩ := hl
      simp only at hcl hdl
      subst hcl hdl
      have hpush : (s.heap.push (setO w)).get? l = some _ := Heap.get?_push_of_some _ hol
      have f8 := F.sub_list_set
      have f9 := F.sub_list_frozenset
      have f10 : (Value.type "list" == Value.type "dict") = false := by decide
      have hl1 : (s.heap.push (setO w)).IsList l items := ⟨_, hpush, rfl, nl, rfl⟩
      unfold Builtin.«set.__init__» noKeywords Builtin.Frozenset.updateFrom
      generalize hPI : pyIter = PI
      wp_walk
      subst hPI
      refine wpAny_pyIter_list hl1 (wpAny_bind (wpAny_runValue ?_))
      have l0 : l < s.heap.objs.size := Heap.lt_size hol
      have zz : (s.heap.push (setO w)).objs.size = s.heap.objs.size + 1 := Heap.size_push ..
      have l1 : l ≠ (s.heap.push (setO w)).objs.size := by rw [zz]; exact Nat.ne_of_lt (Nat.lt_succ_of_lt l0)
      have fs : s.heap.objs.size ∉ [(s.heap.push (setO w)).objs.size, l] := by
        rw [zz]
        simp only [List.mem_cons, List.not_mem_nil, or_false, not_or]
        exact ⟨Nat.ne_of_lt (Nat.lt_succ_self _), Nat.ne_of_gt l0⟩
      have vals : ∀ (i : Nat) (v : Value), items[i]? = some v → ∃ k t, ns[i]? = some k ∧ v = .int k t := fun i v hv => by
        have hi : i < ns.length := by rw [← hz]; exact (Array.getElem?_eq_some_iff.mp hv).1
        obtain ⟨t, e⟩ := PyProof.Rows.IntsAre.int_at hit i v (by rw [Array.getElem?_toList]; exact hv)
        exact ⟨ns[i], t, List.getElem?_eq_getElem hi, by rw [e, List.getD_eq_getElem?_getD, List.getElem?_eq_getElem hi]; rfl⟩
      refine set_update_ints ((Walks.list (A := A.in1.in1.in1) (by simp [hh]) _ l l1 items).toS) s.heap.objs.size fs ns hz hb vals (items.size - 0) 0 _ (by omega) (Nat.zero_le _) ⟨⟨_, Heap.get?_push_size _ rfl, rfl, rfl⟩, (hl1.push _)⟩ ⟨0, Nat.le_refl 0, setR_new_at (Heap.get?_push_of_some _ gS)⟩ fun s3 c3 hm hc3 hS3 => ?_
      obtain ⟨g3, g2, d3, tk3, os3⟩ := s3
      cases (show g2 = s.gens from hm.gens)
      cases (show d3 = s.drawn from hm.drawn)
      cases (show os3 = s.os from hm.os)
      show wpAny _ _ _ _ _ _
      refine wpAny_pure ?_
      show wpAny _ _ (ret Value.none) _ _ _
      refine wpAny_pure ⟨rfl, g3, tk3, c3, rfl, hS3, by rw [← hz]; exact hc3, fun b o e => ?_⟩
      have b0 : b < s.heap.objs.size := Heap.lt_size e
      refine hm.heap b o ?_ (Heap.get?_push_of_some _ (Heap.get?_push_of_some _ e))
      rw [zz]
      simp only [List.mem_cons, List.not_mem_nil, or_false, not_or]
      exact ⟨Nat.ne_of_lt b0, Nat.ne_of_lt (Nat.lt_succ_of_lt b0)⟩
    · match r₂, hr₂ with
      | .error e, hr₂ => exact hr₂
      | .ok .next, hr₂ => exact hr₂.elim
      | .ok .brk, hr₂ => exact hr₂.elim
      | .ok .cont, hr₂ => exact hr₂.elim
      | .ok (.ret r), hr₂ =>
        obtain ⟨rfl, g, tk, c, rfl, k1, k2, k3⟩ := hr₂
        repeat (any_goals (first | assumption | wp_step))
        exact h _ _ _ k1 k2 k3
end
end MP

namespace MP
open PySem L2
open PySem.Spec PyProof.Rows
/-- the numbers of a list, each once, rising -/
def insU (x : Int) : List Int → List Int
  | [] => [x]
  | y :: r => if x < y then x :: y :: r else if x = y then y :: r else y :: insU x r
def sortU (ns : List Int) : List Int := ns.foldr insU []
theorem insU_mem {x k : Int} : ∀ {l : List Int}, k ∈ insU x l ↔ k = x ∨ k ∈ l
  | [] => by simp [insU]
  | y :: r => by
    unfold insU
    split
    · simp
    · split
      · rename_i e; subst e; simp
      · rw [List.mem_cons, insU_mem (l := r), List.mem_cons]
        constructor
        · rintro (h | h | h) <;> simp [h]
        · rintro (h | h | h) <;> simp [h]
theorem insU_pw {x : Int} : ∀ {l : List Int}, l.Pairwise (· < ·) → (insU x l).Pairwise (· < ·)
  | [], _ => by simp [insU]
  | y :: r, h => by
    obtain ⟨h1, h2⟩ := List.pairwise_cons.mp h
    unfold insU
    split
    · rename_i q
      refine List.pairwise_cons.mpr ⟨fun z hz => ?_, h⟩
      rcases List.mem_cons.mp hz with rfl | hz
      · exact q
      · exact Int.lt_trans q (h1 z hz)
    · split
      · exact h
      · refine List.pairwise_cons.mpr ⟨fun z hz => ?_, insU_pw h2⟩
        rcases insU_mem.mp hz with rfl | hz
        · omega
        · exact h1 z hz
theorem sortU_mem {k : Int} : ∀ {l : List Int}, k ∈ sortU l ↔ k ∈ l
  | [] => by simp [sortU]
  | x :: r => by
    show k ∈ insU x (sortU r) ↔ _
    rw [insU_mem, sortU_mem (l := r), List.mem_cons]
theorem sortU_pw : ∀ {l : List Int}, (sortU l).Pairwise (· < ·)
  | [] => by simp [sortU]
  | x :: r => insU_pw (sortU_pw (l := r))
theorem sortU_len : ∀ {l : List Int}, (sortU l).length ≤ l.length
  | [] => by simp [sortU]
  | x :: r => by
    have h : ∀ {m : List Int}, (insU x m).length ≤ m.length + 1 := fun {m} => by
      induction m with
      | nil => simp [insU]
      | cons y s ih =>
        unfold insU
        by_cases h1 : x < y
        · rw [if_pos h1]; exact Nat.le_refl _
        · rw [if_neg h1]
          by_cases h2 : x = y
          · rw [if_pos h2]; exact Nat.le_succ _
          · rw [if_neg h2]; exact Nat.succ_le_succ ih
    have := sortU_len (l := r)
    have := h (m := sortU r)
    show (insU x (sortU r)).length ≤ r.length + 1
    omega
theorem rise_eq : ∀ {a b : List Int}, a.Pairwise (· < ·) → b.Pairwise (· < ·) → (∀ k, k ∈ a ↔ k ∈ b) → a = b
  | [], [], _, _, _ => rfl
  | [], y :: b, _, _, h => absurd ((h y).mpr List.mem_cons_self) (by simp)
  | x :: a, [], _, _, h => absurd ((h x).mp List.mem_cons_self) (by simp)
  | x :: a, y :: b, ha, hb, h => by
    obtain ⟨a1, a2⟩ := List.pairwise_cons.mp ha
    obtain ⟨b1, b2⟩ := List.pairwise_cons.mp hb
    have e : x = y := by
      rcases List.mem_cons.mp ((h x).mp List.mem_cons_self) with q | q
      · exact q
      · rcases List.mem_cons.mp ((h y).mpr List.mem_cons_self) with p | p
        · exact p.symm
        · have := a1 y p; have := b1 x q; omega
    subst e
    congr 1
    refine rise_eq a2 b2 fun k => ⟨fun hk => ?_, fun hk => ?_⟩
    · rcases List.mem_cons.mp ((h k).mp (List.mem_cons_of_mem _ hk)) with q | q
      · have := a1 k hk; omega
      · exact q
    · rcases List.mem_cons.mp ((h k).mpr (List.mem_cons_of_mem _ hk)) with q | q
      · have := b1 k hk; omega
      · exact q
def intsOfD : List D → Option (List Int)
  | [] => some []
  | .int i :: r => (intsOfD r).map (i :: ·)
  | _ :: _ => none
theorem intsOfD_map : ∀ ns : List Int, intsOfD (ns.map D.int) = some ns
  | [] => rfl
  | n :: r => by show (intsOfD (r.map D.int)).map (n :: ·) = _; rw [intsOfD_map r]; rfl
theorem intsOfD_eq : ∀ {ds : List D} {ns : List Int}, intsOfD ds = some ns → ds = ns.map D.int
  | [], ns, h => by cases (show some [] = some ns from h); rfl
  | .int i :: r, ns, h => by
    obtain ⟨m, e, rfl⟩ := Option.map_eq_some_iff.mp (show (intsOfD r).map (i :: ·) = some ns from h)
    rw [List.map_cons, ← intsOfD_eq e]
  | .non :: _, _, h => by cases h
  | .bl _ :: _, _, h => by cases h
  | .str _ :: _, _, h => by cases h
  | .tup _ :: _, _, h => by cases h
  | .lst _ :: _, _, h => by cases h
  | .dic _ _ :: _, _, h => by cases h
  | .scr _ :: _, _, h => by cases h
  | .ref _ :: _, _, h => by cases h
  | .kset _ :: _, _, h => by cases h
  | .cls _ :: _, _, h => by cases h
  | .exv :: _, _, h => by cases h
  | .tupn _ :: _, _, h => by cases h
  | .thk _ _ :: _, _, h => by cases h
  | .lam _ _ :: _, _, h => by cases h
theorem ints_reps {K : Frag} {H : Hp} {o : Lo} : ∀ {ns : List Int} {xs : List V}, Reps K H o (ns.map D.int) xs → xs = ns.map V.int
  | [], _, h => h
  | n :: ns, _, h => by
    obtain ⟨v, vs, rfl, h1, h2⟩ := h
    rw [show v = V.int n from h1, ints_reps h2]; rfl
theorem reps_ints {K : Frag} {H : Hp} {o : Lo} : ∀ {ns : List Int}, Reps K H o (ns.map D.int) (ns.map V.int)
  | [] => rfl
  | n :: ns => ⟨_, _, rfl, rfl, reps_ints⟩
def sortSet : D → M D
  | .lst ds => match intsOfD ds with
    | some ns => guardM (decide (ns.length < 60)) (pure (.lst ((sortU ns).map D.int)))
    | none => M.stuck
  | _ => M.stuck
theorem sortSet_i {ns : List Int} (h : ns.length < 60) : sortSet (.lst (ns.map D.int)) = pure (.lst ((sortU ns).map D.int)) := by
  show (match intsOfD (ns.map D.int) with | some ns => guardM (decide (ns.length < 60)) (pure (.lst ((sortU ns).map D.int))) | none => M.stuck) = _
  rw [intsOfD_map]
  show guardM (decide (ns.length < 60)) _ = _
  rw [decide_eq_true h]; rfl
def rSetI (K : Frag) (w : World) : List V → Hp → VK → Prop := fun xs H Q => ∃ (a : Addr) (ns : List Int), xs = [.ref a] ∧ SqL K H a (ns.map V.int) ∧ ns.length < 60 ∧ ∀ p c, H p = none → c ≤ ns.length → Q (.ref p) (upd H p (SetO w p (fun j => decide (j ∈ ns)) c))
section
variable {X : Cx} {E : XK}
theorem cr_setI (hc : X.calm = true) : CallR X (.type "set") (rSetI X.K X.w) := by
  intro pins s σ H xs us Q I r h
  obtain ⟨a, ns, rfl, hs, hl, q⟩ := h
  rw [Vals.ref1 r]
  obtain ⟨its, rv, pl, hz⟩ := I.list hs
  refine set_ints (I.ok.hd hc) pl.isList (by simpa using intsAre_of rv) (by unfold scanBound; omega) fun g tk c R hcn k => ?_
  exact ⟨.ref s.heap.objs.size, _, I.laid (t' := tk) k (Nat.le_refl _) (setO_new R), rfl, q _ c (I.hok.fresh (Nat.le_refl _)) hcn⟩
theorem pd_sortSet {e : Expr} {f : Den} {p p2 pos pos2 : Pos} (hg : Gl X "sorted") (hm : X.mg "sorted" = none) (hg2 : Gl X "set") (hm2 : X.mg "set" = none) (hc : X.calm = true) (he : PD X E e f)
    (na : starEach [e] X.env = (false, eval e X.env) :: starEach [] X.env) (na2 : starEach [.Call (.Name "set" p2) [e] [] pos2] X.env = (false, eval (.Call (.Name "set" p2) [e] [] pos2) X.env) :: starEach [] X.env) :
    PD X E (.Call (.Name "sorted" p) [.Call (.Name "set" p2) [e] [] pos2] [] pos) (d1 sortSet f) := by
  refine PE.imp (pe_callB (cr_sortedSet hc) hg hm (by decide +kernel) (pa_cons (pe_callTy (cr_setI hc) hg2 hm2 (by decide +kernel) (pa_cons he pa_nil na) (by decide) (by decide) na rfl) pa_nil na2) (by decide) (by decide) na2 rfl) fun σ H Q h => ?_
  obtain ⟨o, ρ, st, hev, so, h⟩ := tD_one h
  refine ⟨o, ρ, st, hev, so, h.mono (fun d st1 h1 v H1 o1 l s1 r => ?_) fun _ _ x => x⟩
  obtain ⟨d2, o2, st2, r2, so2, h2⟩ := h1 v H1 o1 l s1 r
  cases d2 with
  | lst ds =>
    obtain ⟨a, xs, rfl, k1, av, q1⟩ := r2
    have h3 : wpR ((match intsOfD ds with | some ns => guardM (decide (ns.length < 60)) (pure (.lst ((sortU ns).map D.int))) | none => M.stuck) st2) (VOk X.K H1 o2 Q) (XOk X.K E H1 o2) := h2
    cases q : intsOfD ds with
    | none => rw [q] at h3; exact False.elim h3
    | some ns =>
      rw [q] at h3
      obtain ⟨hl, h4⟩ := guardM_wp h3
      have hl := of_decide_eq_true hl
      rw [intsOfD_eq q] at q1
      cases ints_reps q1
      refine ⟨a, ns, rfl, SqL.of k1, hl, fun p c hp hcn => ⟨p, _, c, rfl, upd_same, by omega, fun ms p3 pw hmem hlen hp3 => ?_⟩⟩
      have e1 : ms = sortU ns := rise_eq pw sortU_pw fun k => by rw [hmem k, sortU_mem, decide_eq_true_eq]
      subst e1
      have l2 : Le H1 o2 (upd H1 p (SetO X.w p (fun j => decide (j ∈ ns)) c)) o2 := Le.new hp
      have h5 : VOk X.K H1 o2 Q (.lst ((sortU ns).map D.int)) st2 := h4
      exact ok_newLst (h5.mono l2) (so2.new hp) reps_ints hp3
  | _ => exact False.elim h2
end
end MP

namespace MP
open PySem L2
open PySem.Spec PyProof.Rows
/-! ## instances -/
def insC (x : Option Cell) : Option (Str × List Str × List D) := match x with
  | some (.ins c fs ds) => some (c, fs, ds)
  | _ => none
def insAt (st : Store) : D → Option (Str × List Str × List D)
  | .ref n => insC st[n]?
  | _ => none
theorem insC_some {x : Option Cell} {c : Str} {fs : List Str} {ds : List D} (h : insC x = some (c, fs, ds)) : x = some (.ins c fs ds) := by
  unfold insC at h
  split at h
  · cases h; rfl
  · cases h
/-- what a class of the text is known by -/
structure ClsF (K : Frag) (c : Str) : Prop where
  cl : Cls K (He.ga K c)
  sf : PySem.W.selfFirst K (He.ga K c) = true
  ns : PySem.W.noSeq K (He.ga K c) = true
  ha : PySem.W.findIn K (.ref (He.ga K c)) "__class__" = some (some (.builtin "object.__class__"))
  hn : PySem.W.specialIn K (.builtin "object.__class__") "__get__" = some (some (.builtin "getset_descriptor.__get__"))
  htk : PySem.W.takesIn K (.builtin "object.__class__") = some true
  hm : PySem.W.mroIn K (He.ga K c) (.type "object") = some true
  me : PySem.W.kitOne K (.ref (He.ga K c)) (.ref (He.ga K c)) = some true
  no : ∀ t ∈ (["NoneType", "bool", "int", "str", "tuple", "list", "dict"] : List String), PySem.W.kitOne K (.type t) (.ref (He.ga K c)) = some false
abbrev NoA (K : Frag) (c f : Str) : Prop := NoAttr K (He.ga K c) f
/-- a method by its meaning -/
structure CalM (P : Program) (w : World) (K : Frag) (mg : Str → Option Value) (base : Heap) (k : Nat) (c m : Str) (np : Nat) (p : List D → M D) : Prop where
  ex : ∃ f, FnR P w K mg base (L2.CX P w) k f (spD K np p) ∧ Meth K (He.ga K c) m f ∧ PySem.W.fnIn K f = true
theorem CalM.mono {P : Program} {w : World} {K : Frag} {mg : Str → Option Value} {base : Heap} {j k : Nat} {c m : Str} {np : Nat} {p : List D → M D} (h : CalM P w K mg base j c m np p) (q : j ≤ k) : CalM P w K mg base k c m np p :=
  let ⟨f, F, r⟩ := h.ex; ⟨f, F.mono q, r⟩
section
variable {K : Frag} {E : XK} {H H' : Hp} {o o' : Lo} {st : Store} {X : Cx} {k : Nat}
theorem ins_of {d : D} {v : V} {c : Str} {fs : List Str} {ds : List D} (r : Rep K H o d v) (s : StOk K H o st) (e : insAt st d = some (c, fs, ds)) :
    ∃ n a dx vs, d = .ref n ∧ v = .ref a ∧ st[n]? = some (.ins c fs ds) ∧ o.l[n]? = some (some a) ∧ H a = some (.ins (He.ga K c) dx vs) ∧ vs.map (·.1) = fs ∧ Reps K H o ds (vs.map (·.2)) := by
  cases d with
  | ref n =>
    have e' := insC_some (show insC st[n]? = _ from e)
    obtain ⟨a, dx, vs, e1, e2, e3, e4⟩ := s.cell n _ e'
    obtain ⟨b, rfl, h⟩ := r
    have : b = a := by
      rw [e1] at h
      rcases h with h | h <;> cases h
      rfl
    subst this
    exact ⟨n, b, dx, vs, rfl, rfl, e', e1, e2, e3, e4⟩
  | _ => cases e
theorem lookup_reps {f : Str} {y : D} : ∀ {fs : List Str} {ds : List D} {vs : List (Str × V)}, vs.map (·.1) = fs → Reps K H o ds (vs.map (·.2)) → (fs.zip ds).lookup f = some y → ∃ u, vs.lookup f = some u ∧ Rep K H o y u
  | fs, ds, [], h, r, e => by
    cases h
    simp at e
  | fs, ds, (g, u) :: vs, h, r, e => by
    cases h
    cases ds with
    | nil => simp at e
    | cons d ds =>
      obtain ⟨u', vs', e1, r1, r2⟩ := r
      simp only [List.map_cons, List.cons.injEq] at e1
      obtain ⟨rfl, rfl⟩ := e1
      simp only [List.map_cons, List.zip_cons_cons, List.lookup_cons] at e ⊢
      cases q : f == g with
      | true => rw [q] at e; cases e; exact ⟨u, rfl, r1⟩
      | false => rw [q] at e; exact lookup_reps rfl r2 e
/-! ### x.f -/
def fldOf (c f : Str) (d : D) : M D := fun st => match insAt st d with
  | some (c', fs, ds) => if c' = c then (match (fs.zip ds).lookup f with
    | some y => .ok y st
    | none => .stuck) else .stuck
  | none => .stuck
theorem fld_wp {c f : Str} {d : D} {Q : D → Store → Prop} {Z : Exn → Store → Prop} (h : wpR (fldOf c f d st) Q Z) : ∃ fs ds y, insAt st d = some (c, fs, ds) ∧ (fs.zip ds).lookup f = some y ∧ Q y st := by
  unfold fldOf at h
  cases q : insAt st d with
  | none => rw [q] at h; exact False.elim h
  | some z =>
    obtain ⟨c', fs, ds⟩ := z
    rw [q] at h
    simp only at h
    by_cases hc : c' = c
    · subst hc
      rw [if_pos rfl] at h
      cases q2 : (fs.zip ds).lookup f with
      | none => rw [q2] at h; exact False.elim h
      | some y => rw [q2] at h; exact ⟨fs, ds, y, rfl, q2, h⟩
    · rw [if_neg hc] at h; exact False.elim h
@[simp] def dFld (c f : Str) (fx : Den) : Den := fun ρ => fx ρ >>= fldOf c f
theorem pd_fld {c f : Str} {e : Expr} {fx : Den} {pos : Pos} (C : ClsF X.K c) (n : NoA X.K c f) (he : PD X E e fx) (hb : attributeBase e f X.env (eval e X.env) = eval e X.env) : PD X E (.Attribute e f pos) (dFld c f fx) := PE.imp (pe_fld he hb) fun σ H Q h => by
  obtain ⟨o, ρ, st, he, hs, h⟩ := h
  refine ⟨o, ρ, st, he, hs, (wpR.bind.mp h).mono (fun d st1 h1 v H1 o1 l s1 r => ?_) fun _ _ x => x⟩
  obtain ⟨fs, ds, y, e1, e2, h2⟩ := fld_wp h1
  obtain ⟨m, a, dx, vs, rfl, rfl, _, _, e3, e4, e5⟩ := ins_of r s1 e1
  obtain ⟨u, e6, r6⟩ := lookup_reps e4 e5 e2
  exact ⟨a, _, dx, vs, u, rfl, e3, C.cl, n, e6, h2 u H1 o1 l s1 r6⟩
/-! ### x.f = e -/
def putD (f : Str) (y : D) : List Str → List D → List D
  | g :: fs, d :: ds => if g = f then y :: ds else d :: putD f y fs ds
  | _, _ => [y]
def putN (f : Str) : List Str → List Str
  | [] => [f]
  | g :: r => if g = f then g :: r else g :: putN f r
theorem put_reps {f : Str} {y : D} {v : V} (rv : Rep K H o y v) : ∀ {vs : List (Str × V)} {ds : List D}, Reps K H o ds (vs.map (·.2)) → (putF f v vs).map (·.1) = putN f (vs.map (·.1)) ∧ Reps K H o (putD f y (vs.map (·.1)) ds) ((putF f v vs).map (·.2))
  | [], ds, r => by
    cases ds with
    | nil => exact ⟨rfl, v, [], rfl, rv, rfl⟩
    | cons d ds => obtain ⟨_, _, e, _⟩ := r; cases e
  | (g, u) :: vs, ds, r => by
    cases ds with
    | nil => cases (show _ = [] from r)
    | cons d ds =>
      obtain ⟨u', vs', e1, r1, r2⟩ := r
      simp only [List.map_cons, List.cons.injEq] at e1
      obtain ⟨rfl, rfl⟩ := e1
      unfold putF
      simp only [List.map_cons, putN, putD]
      by_cases h : g = f
      · rw [if_pos h, if_pos h, if_pos h]
        exact ⟨rfl, v, _, rfl, rv, r2⟩
      · rw [if_neg h, if_neg h, if_neg h]
        obtain ⟨k1, k2⟩ := put_reps rv r2
        exact ⟨by rw [List.map_cons, k1], u, _, rfl, r1, k2⟩
def setF (c f : Str) (x y : D) : M Unit := fun st => match x, insAt st x with
  | .ref n, some (c', fs, ds) => if c' = c ∧ fs.length < 900 then .ok () (st.set n (.ins c (putN f fs) (putD f y fs ds))) else .stuck
  | _, _ => .stuck
theorem setF_wp {c f : Str} {x y : D} {Q : Unit → Store → Prop} {Z : Exn → Store → Prop} (h : wpR (setF c f x y st) Q Z) : ∃ n fs ds, x = .ref n ∧ insAt st x = some (c, fs, ds) ∧ fs.length < 900 ∧ Q () (st.set n (.ins c (putN f fs) (putD f y fs ds))) := by
  unfold setF at h
  cases x with
  | ref n =>
    cases q : insAt st (.ref n) with
    | none => rw [q] at h; exact False.elim h
    | some z =>
      obtain ⟨c', fs, ds⟩ := z
      rw [q] at h
      simp only at h
      by_cases hc : c' = c ∧ fs.length < 900
      · rw [if_pos hc] at h
        obtain ⟨rfl, hl⟩ := hc
        exact ⟨n, fs, ds, rfl, rfl, hl, h⟩
      · rw [if_neg hc] at h; exact False.elim h
  | _ => exact False.elim h
def dSetF (c f : Str) (fo fv : Den) : DenS := fun ρ => fv ρ >>= fun y => fo ρ >>= fun x => setF c f x y >>= fun _ => pure (.nx ρ)
theorem dp_fld {c f : Str} {eo ev : Expr} {fo fv : Den} {pos' pos : Pos} (C : ClsF X.K c) (n : NoA X.K c f) (ho : PD X E eo fo) (hv : PD X E ev fv) (hs : swapsWith ev (some (.Attribute eo f pos')) pos.line X.env = pure false) :
    PDS X E (.Assign [.Attribute eo f pos'] ev pos) (dSetF c f fo fv) := PS.imp (ps_fld ho hv hs) fun D σ H h => by
  obtain ⟨o, ρ, st, he, so, h⟩ := h
  refine ⟨o, ρ, st, he, so, (wpR.bind.mp h).mono (fun y st1 h1 v H1 o1 l1 s1 r1 => ?_) fun _ _ z => z⟩
  refine ⟨o1, ρ, st1, he.mono l1.rep, s1, (wpR.bind.mp h1).mono (fun x st2 h2 u H2 o2 l2 s2 r2 => ?_) fun _ _ z => z.mono l1⟩
  obtain ⟨m, fs, ds, rfl, e1, hl, h3⟩ := setF_wp (wpR.bind.mp h2)
  obtain ⟨m', a, dx, vs, em, rfl, e0, e2, e3, e4, e5⟩ := ins_of r2 s2 e1
  cases em
  have hm : some a ∈ o2.l := List.mem_of_getElem? e2
  have ll := l1.trans l2
  have rv := Rep.mono l2 _ _ r1
  obtain ⟨p1, p2⟩ := put_reps (f := f) rv e5
  have hlen : vs.length < 1000 := by
    have : (vs.map (·.1)).length = fs.length := by rw [e4]
    rw [List.length_map] at this
    omega
  refine ⟨a, _, dx, vs, rfl, e3, C.cl, n, hlen, ?_⟩
  subst e4
  have lw : Le H2 o2 (upd H2 a (.ins (He.ga X.K c) dx (putF f v vs))) o2 := Le.write hm
  have sw := s2.write (n := m) (a := a) (u := .ins (He.ga X.K c) dx (putF f v vs)) (c := .ins c (putN f (vs.map (·.1))) (putD f y (vs.map (·.1)) ds)) e2 ⟨a, dx, _, rfl, upd_same, p1, lw.rep.reps p2⟩
  exact (show EOk X.K H o D.nx ρ _ from h3) σ _ _ (ll.trans lw) sw ((he.mono ll.rep).mono lw.rep)
end
end MP

namespace MP
open PySem L2
open PySem.Spec PyProof.Rows
section
variable {K : Frag} {E : XK} {H H' : Hp} {o o' : Lo} {st : Store} {X : Cx} {k j : Nat}
/-- by any list of values -/
theorem spD_of {np : Nat} {p : List D → M D} {ds : List D} {vs : List V} {Q : VK} (hl : ds.length = np) (s : StOk K H o st) (r : Reps K H o ds vs) (h : wpR (p ds st) (VOk K H o Q) (XOk K E H o)) : spD K np p vs H Q E :=
  ⟨o, ds, st, r, hl, s, h⟩
/-! ### C(..) -/
def nonM (r : D) : D → M D
  | .non => pure r
  | _ => M.stuck
def mkO (c : Str) (p : List D → M D) (ds : List D) : M D := M.alloc (.ins c [] []) >>= fun r => p (r :: ds) >>= nonM r
/-- a class by its meaning when it's called -/
structure MkC (P : Program) (w : World) (K : Frag) (mg : Str → Option Value) (base : Heap) (k : Nat) (c : Str) (np : Nat) (p : List D → M D) : Prop where
  ex : ∃ f, FnR P w K mg base (L2.CX P w) k f (spD K np p) ∧ Mk K (He.ga K c) f
  mg : mg c = some (.ref (He.ga K c))
theorem MkC.mono {P : Program} {w : World} {K : Frag} {mg : Str → Option Value} {base : Heap} {j k : Nat} {c : Str} {np : Nat} {p : List D → M D} (h : MkC P w K mg base j c np p) (q : j ≤ k) : MkC P w K mg base k c np p :=
  let ⟨⟨f, F, r⟩, m⟩ := h; ⟨⟨f, F.mono q, r⟩, m⟩
theorem mk_new {c : Str} {np : Nat} {p : List D → M D} {ds : List D} {vs : List V} {Q : VK} (hl : ds.length + 1 = np) (s : StOk K H o st) (r : Reps K H o ds vs) (h : wpR (mkO c p ds st) (VOk K H o Q) (XOk K E H o)) :
    ∀ x dx, H x = none → H dx = none → dx ≠ x → spD K np p (V.ref x :: vs) (upd (upd H dx (.own x)) x (.ins (He.ga K c) dx [])) (fun v H2 => v = .non ∧ Q (.ref x) H2) E := by
  intro x dx hx hdx hne
  have hx' : (upd H dx (.own x)) x = none := by rw [upd_ne (Ne.symm hne)]; exact hx
  have s1 := s.new (u := .own x) hdx
  have l1 : Le H o (upd H dx (.own x)) o := Le.new hdx
  have l2 : Le (upd H dx (.own x)) o (upd (upd H dx (.own x)) x (.ins (He.ga K c) dx [])) (o.push x) := Le.alloc hx'
  have s2 : StOk K (upd (upd H dx (.own x)) x (.ins (He.ga K c) dx [])) (o.push x) (st ++ [.ins c [] []]) := s1.alloc hx' ⟨x, dx, [], rfl, upd_same, rfl, rfl⟩
  have ll := l1.trans l2
  have h1 := wpR.bind.mp (show wpR ((M.alloc (.ins c [] []) >>= fun r => p (r :: ds) >>= nonM r) st) _ _ from h)
  have h2 : wpR ((p (.ref st.length :: ds) >>= nonM (.ref st.length)) (st ++ [.ins c [] []])) (VOk K H o Q) (XOk K E H o) := h1
  have r0 : Rep K (upd (upd H dx (.own x)) x (.ins (He.ga K c) dx [])) (o.push x) (.ref st.length) (.ref x) := Rep.alloc s1
  refine spD_of (ds := .ref st.length :: ds) (by simpa using hl) s2 ⟨.ref x, vs, rfl, r0, ll.rep.reps r⟩ ?_
  refine (wpR.bind.mp h2).mono (fun d st3 h3 v H3 o3 l3 s3 r3 => ?_) fun _ _ z => z.mono ll
  cases d with
  | non => exact ⟨r3, (show VOk K H o Q (.ref st.length) st3 from h3) _ H3 o3 (ll.trans l3) s3 (Rep.mono l3 _ _ r0)⟩
  | _ => exact False.elim h3
theorem tD_make {c : Str} {np : Nat} {p : List D → M D} {fs : DenL} {σ : L2.St} {Q : VK} (h : tD K E (dCall (arity np fun ds => mkO c p ds) fs) σ H Q) : StX.tMakeR (He.ga K c) (spD K (np + 1) p) E (tL K E fs) σ H Q := by
  obtain ⟨o, ρ, st, he, hs, h⟩ := h
  refine ⟨o, ρ, st, he, hs, (wpR.bind.mp h).mono (fun ds st1 h1 vs H1 o1 l s1 r => ?_) fun _ _ x => x⟩
  have h2 : wpR ((bif ds.length == np then mkO c p ds else M.stuck) st1) (VOk K H o Q) (XOk K E H o) := h1
  cases q : ds.length == np with
  | false => rw [q] at h2; exact False.elim h2
  | true =>
    rw [q] at h2
    exact mk_new (by rw [eq_of_beq q]) s1 r (wpR.mono h2 (fun _ _ x => x.mono l) fun _ _ x => x.mono l)
theorem pd_make {c : Str} {np : Nat} {p : List D → M D} {e : Expr} {es : List Expr} {fs : DenL} {pn pos : Pos} (ck : Cok X E k) (F : MkC X.prog X.w X.K X.mg X.base j c (np + 1) p) (hj : j + 1 ≤ k) (hg : Gl X c) (ha : PL X E (e :: es) fs)
    (hdb : (c == ("__debug__" : Str)) = false) (he : starEach (e :: es) X.env = (false, eval e X.env) :: starEach es X.env) (hpl : (backTo pos (starEach es X.env)).any (·.1) = false) :
    PD X E (.Call (.Name c pn) (e :: es) [] pos) (dCall (arity np fun ds => mkO c p ds) fs) :=
  let ⟨f, G, M⟩ := F.ex
  PE.imp (StX.pe_makeR M G (ck.room.mono hj) hg F.mg ck.pass ha hdb he hpl) fun _ _ _ h => tD_make h
/-- cls(..), cls a name of the def -/
def clsM (c : Str) : D → M Unit
  | .cls c' => if c' = c then pure () else M.stuck
  | _ => M.stuck
def dMakeL (i : Nat) (c : Str) (np : Nat) (p : List D → M D) (fs : DenL) : Den := fun ρ => dVar i ρ >>= clsM c >>= fun _ => dCall (arity np fun ds => mkO c p ds) fs ρ
theorem pd_makeL {i : Nat} {x c : Str} {np : Nat} {p : List D → M D} {e : Expr} {es : List Expr} {fs : DenL} {pn pos : Pos} (ck : Cok X E k) (F : MkC X.prog X.w X.K X.mg X.base j c (np + 1) p) (hj : j + 1 ≤ k) (hN : X.N[i]? = some x) (hv : Vis X.env.scope x) (ha : PL X E (e :: es) fs)
    (hdb : (x == ("__debug__" : Str)) = false) (hcd : (x == ("__classdict__" : Str)) = false) (he : starEach (e :: es) X.env = (false, eval e X.env) :: starEach es X.env) (hpl : (backTo pos (starEach es X.env)).any (·.1) = false) :
    PD X E (.Call (.Name x pn) (e :: es) [] pos) (dMakeL i c np p fs) := by
  obtain ⟨f, G, Mm⟩ := F.ex
  refine ⟨fun pins s σ H Q I h => ?_⟩
  obtain ⟨o, ρ, st, he', hs, h⟩ := h
  have hv1 := (wpR.bind (m := dVar i ρ >>= clsM c) (f := fun _ => dCall (arity np fun ds => mkO c p ds) fs ρ)).mp h
  have hv2 := wpR.bind.mp hv1
  have e1 : ρ[i]? = some (some (.cls c)) ∧ tD X.K E (dCall (arity np fun ds => mkO c p ds) fs) σ H Q := by
    have hv3 : wpR ((match ρ[i]? with | some (some d) => (pure d : M D) | _ => M.stuck) st) _ _ := hv2
    cases q : ρ[i]? with
    | none => rw [q] at hv3; exact False.elim hv3
    | some z =>
      rw [q] at hv3
      cases z with
      | none => exact False.elim hv3
      | some d =>
        have hv4 : wpR (clsM c d st) _ _ := hv3
        cases d with
        | cls c' =>
          have hv5 : wpR ((if c' = c then (pure () : M Unit) else M.stuck) st) _ _ := hv4
          by_cases hc : c' = c
          · subst hc
            rw [if_pos rfl] at hv5
            exact ⟨rfl, o, ρ, st, he', hs, hv5⟩
          · rw [if_neg hc] at hv5; exact False.elim hv5
        | _ => exact False.elim hv4
  obtain ⟨e1, h2⟩ := e1
  obtain ⟨v, hσ, rv⟩ := he'.2 i _ e1
  cases (show v = .ref (He.ga X.K c) from rv)
  have h3 := tD_make h2
  refine wpAny_Call_Name_kw (thn ((pe_var (pos := pn) hN hv hdb hcd).run pins s σ H (fun v H1 => v = .ref (He.ga X.K c) ∧ H1 = H) I ⟨.ref (He.ga X.K c), hσ, rfl, rfl⟩) fun u s1 ⟨v, H1, I1, r1, q1⟩ => ?_)
  obtain ⟨rfl, rfl⟩ := q1
  cases r1
  refine PySem.W.callWith_K (h₀ := X.base) I.ok.mod.kin Mm.kp (thn (ha.run pos pins s1 σ _ _ I1 h3) fun us s2 ⟨vs, H2, I2, r, q⟩ => ⟨I2.kIn, ?_⟩) he hpl
  exact StX.run_makeR Mm G (ck.room.mono hj) ck.pass I2 r q
end
end MP

namespace MP
open PySem L2
open PySem.Spec PyProof.Rows
section
variable {K : Frag} {E : XK} {H H' : Hp} {o o' : Lo} {st : Store} {X : Cx} {k j : Nat}
/-- an instance of the class, without an attribute of the name -/
def insM (c m : Str) (d : D) : M Unit := fun st => match insAt st d with
  | some (c', fs, ds) => if c' = c ∧ (fs.contains m) = false then .ok () st else .stuck
  | none => .stuck
theorem insM_wp {c m : Str} {d : D} {Q : Unit → Store → Prop} {Z : Exn → Store → Prop} (h : wpR (insM c m d st) Q Z) : ∃ fs ds, insAt st d = some (c, fs, ds) ∧ fs.contains m = false ∧ Q () st := by
  unfold insM at h
  cases q : insAt st d with
  | none => rw [q] at h; exact False.elim h
  | some z =>
    obtain ⟨c', fs, ds⟩ := z
    rw [q] at h
    simp only at h
    by_cases hc : c' = c ∧ fs.contains m = false
    · rw [if_pos hc] at h
      obtain ⟨rfl, hl⟩ := hc
      exact ⟨fs, ds, rfl, hl, h⟩
    · rw [if_neg hc] at h; exact False.elim h
theorem lookup_no {m : Str} : ∀ {vs : List (Str × V)}, (vs.map (·.1)).contains m = false → vs.lookup m = none
  | [], _ => rfl
  | (g, u) :: vs, h => by
    simp only [List.map_cons, List.contains_cons, Bool.or_eq_false_iff] at h
    rw [List.lookup_cons, h.1]
    exact lookup_no h.2
/-! ### x.m(..) -/
def dMethC (c m : Str) (np : Nat) (p : List D → M D) (fo : Den) (fs : DenL) : Den := fun ρ => fo ρ >>= fun x => insM c m x >>= fun _ => fs ρ >>= fun ds => arity np p (x :: ds)
theorem tD_meth {c m : Str} {np : Nat} {p : List D → M D} {fo : Den} {fs : DenL} {σ : L2.St} {Q : VK} (h : tD K E (dMethC c m np p fo fs) σ H Q) : tMeth (He.ga K c) m (spD K np p) [] E (tD K E fo) (tL K E fs) σ H Q := by
  obtain ⟨o, ρ, st, he, so, h⟩ := h
  refine ⟨o, ρ, st, he, so, (wpR.bind.mp h).mono (fun x st1 h1 v H1 o1 l1 s1 r1 => ?_) fun _ _ z => z⟩
  obtain ⟨gs, ds, e1, hc, h2⟩ := insM_wp (wpR.bind.mp h1)
  obtain ⟨n, a, dx, vs, rfl, rfl, _, _, e3, e4, _⟩ := ins_of r1 s1 e1
  refine ⟨a, dx, vs, rfl, e3, lookup_no (by rw [e4]; exact hc), o1, ρ, st1, he.mono l1.rep, s1, ?_⟩
  refine (wpR.bind.mp h2).mono (fun ds2 st2 h3 ws H2 o2 l2 s2 r2 => ?_) fun _ _ z => z.mono l1
  have h4 : wpR ((bif (D.ref n :: ds2).length == np then p (.ref n :: ds2) else M.stuck) st2) (VOk K H o Q) (XOk K E H o) := h3
  cases q : (D.ref n :: ds2).length == np with
  | false => rw [q] at h4; exact False.elim h4
  | true =>
    rw [q] at h4
    show spD K np p (V.ref a :: (ws ++ [])) H2 Q E
    rw [List.append_nil]
    exact spD_of (eq_of_beq q) s2 ⟨.ref a, ws, rfl, Rep.mono l2 _ _ r1, r2⟩ (wpR.mono h4 (fun _ _ x => x.mono (l1.trans l2)) fun _ _ x => x.mono (l1.trans l2))
/-- the promise by values, of a def of the text -/
theorem run_R {pins : List (Addr × Obj)} {σ : L2.St} {s : Shared} {f : Addr} {sp : Sp} {Q : VK} {us : List Value} {vs : List V} (ck : Cok X E k) (F : FnR X.prog X.w X.K X.mg X.base (L2.CX X.prog X.w) j f sp) (hj : j ≤ k) (I : Inv X pins σ H s) (r : Vals vs us) (h : sp vs H Q E) :
    wpAny (model X.prog X.w) X.A (call (.ref f) us) (EP X pins σ Q) X.xe s := wpAny_call (run_fnR F (ck.room.mono hj) ck.pass I r h)
theorem pd_meth1 {c m : Str} {np : Nat} {p : List D → M D} {eo e : Expr} {es : List Expr} {fo : Den} {fs : DenL} {apos pos : Pos} {pl : Sem Bool} (ck : Cok X E k) (C : ClsF X.K c) (F : CalM X.prog X.w X.K X.mg X.base j c m np p) (hj : j ≤ k) (ho : PD X E eo fo) (ha : PL X E (e :: es) fs)
    (hst : starEach (e :: es) X.env = (false, eval e X.env) :: starEach es X.env) (hpl : (backTo pos (starEach es X.env)).any (·.1) = false)
    (ht : eval (.Call (.Attribute eo m apos) (e :: es) [] pos) X.env = (do
      let ov ← eval eo X.env
      standAt apos.atName
      let (f, first) ← holding [ov] (getMethod ov m pl)
      callWith pos f first (backTo pos (starEach (e :: es) X.env)) (backToKw pos (keywordEach [] X.env)))) :
    PD X E (.Call (.Attribute eo m apos) (e :: es) [] pos) (dMethC c m np p fo fs) := by
  obtain ⟨f, G, hm, hf⟩ := F.ex
  refine PE.imp (t := tMeth (He.ga X.K c) m (spD X.K np p) [] E (tD X.K E fo) (tL X.K E fs)) ⟨fun pins s σ H Q I h => ?_⟩ fun _ _ _ h => tD_meth h
  refine PySem.W.methodCall_KW (pl := pl) (thn (ho.run pins s σ H _ I h) fun u s1 ⟨x, H1, I1, rx, a, dx, fs, ex, ea, l, q⟩ => ?_) ht
  subst ex
  obtain rfl : u = Value.ref a := rx
  refine getmeth_ok I1 ea C.cl hm l ?_
  refine PySem.W.callWith_K (first := [.ref a]) (h₀ := X.base) I.ok.mod.kin hm.kp (thn (ha.run pos pins s1 σ H1 _ I1 q) fun us s2 ⟨vs, H2, I2, r, q2⟩ => ⟨I2.kIn, ?_⟩) hst hpl
  have q2 : spD X.K np p (V.ref a :: (vs ++ [])) H2 Q E := q2
  rw [List.append_nil] at q2
  exact run_R (us := .ref a :: us) (vs := .ref a :: vs) ck G hj I2 (.cons rfl r) q2
theorem pd_meth0 {c m : Str} {np : Nat} {p : List D → M D} {eo : Expr} {fo : Den} {apos pos : Pos} {pl : Sem Bool} (ck : Cok X E k) (C : ClsF X.K c) (F : CalM X.prog X.w X.K X.mg X.base j c m np p) (hj : j ≤ k) (ho : PD X E eo fo)
    (ht : eval (.Call (.Attribute eo m apos) [] [] pos) X.env = (do
      let ov ← eval eo X.env
      standAt apos.atName
      let (f, first) ← holding [ov] (getMethod ov m pl)
      callWith pos f first (backTo pos (starEach [] X.env)) (backToKw pos (keywordEach [] X.env)))) :
    PD X E (.Call (.Attribute eo m apos) [] [] pos) (dMethC c m np p fo dNil) := by
  obtain ⟨f, G, hm, hf⟩ := F.ex
  refine PE.imp (t := tMeth (He.ga X.K c) m (spD X.K np p) [] E (tD X.K E fo) (tL X.K E dNil)) ⟨fun pins s σ H Q I h => ?_⟩ fun _ _ _ h => tD_meth h
  refine PySem.W.methodCall_KW (pl := pl) (thn (ho.run pins s σ H _ I h) fun u s1 ⟨x, H1, I1, rx, a, dx, fs, ex, ea, l, q⟩ => ?_) ht
  subst ex
  obtain rfl : u = Value.ref a := rx
  refine getmeth_ok I1 ea C.cl hm l ?_
  refine PySem.W.callWith_K0 (first := [.ref a]) I1.kIn hm.kp ?_
  obtain ⟨o2, ρ, st, he, so, hq⟩ := q
  have q2 := hq [] H1 o2 (Le.refl _ _) so rfl
  have q2 : spD X.K np p (V.ref a :: ([] ++ [])) H1 Q E := q2
  exact run_R (us := [.ref a]) (vs := [.ref a]) ck G hj I1 (.cons rfl .nil) q2
/-! ### a property -/
structure CalP (P : Program) (w : World) (K : Frag) (mg : Str → Option Value) (base : Heap) (k : Nat) (c f : Str) (p : List D → M D) : Prop where
  ex : ∃ q g, FnR P w K mg base (L2.CX P w) k g (spD K 1 p) ∧ PropOf K (He.ga K c) f q g
theorem CalP.mono {P : Program} {w : World} {K : Frag} {mg : Str → Option Value} {base : Heap} {j k : Nat} {c m : Str} {p : List D → M D} (h : CalP P w K mg base j c m p) (q : j ≤ k) : CalP P w K mg base k c m p :=
  let ⟨a, f, F, r⟩ := h.ex; ⟨a, f, F.mono q, r⟩
def insC1 (c : Str) (d : D) : M Unit := fun st => match insAt st d with
  | some (c', _, _) => if c' = c then .ok () st else .stuck
  | none => .stuck
theorem insC1_wp {c : Str} {d : D} {Q : Unit → Store → Prop} {Z : Exn → Store → Prop} (h : wpR (insC1 c d st) Q Z) : ∃ fs ds, insAt st d = some (c, fs, ds) ∧ Q () st := by
  unfold insC1 at h
  cases q : insAt st d with
  | none => rw [q] at h; exact False.elim h
  | some z =>
    obtain ⟨c', fs, ds⟩ := z
    rw [q] at h
    simp only at h
    by_cases hc : c' = c
    · rw [if_pos hc] at h
      subst hc
      exact ⟨fs, ds, rfl, h⟩
    · rw [if_neg hc] at h; exact False.elim h
def dProp (c : Str) (p : List D → M D) (fo : Den) : Den := fun ρ => fo ρ >>= fun x => insC1 c x >>= fun _ => noX (p [x])
theorem pd_prop {c f : Str} {p : List D → M D} {e : Expr} {fo : Den} {pos : Pos} (ck : Cok X E k) (C : ClsF X.K c) (F : CalP X.prog X.w X.K X.mg X.base j c f p) (hj : j + 1 ≤ k) (ho : PD X E e fo) (hb : attributeBase e f X.env (eval e X.env) = eval e X.env) : PD X E (.Attribute e f pos) (dProp c p fo) := by
  obtain ⟨q, g, G, hp⟩ := F.ex
  refine PE.imp (t := tProp (He.ga X.K c) (spD X.K 1 p) [] EX0 (tD X.K E fo)) ⟨fun pins s σ H Q I h => ?_⟩ fun σ H Q h => ?_
  · refine attr_of hb (thn (ho.run pins s σ H _ I h) fun u s1 ⟨x, H1, I1, rx, a, dx, fs, ex, ea, qq⟩ => ?_)
    subst ex
    obtain rfl : u = Value.ref a := rx
    obtain ⟨mA, O, _, _, _, _⟩ := ins_get I1.hok ea
    obtain ⟨od, J, _⟩ := O.look
    obtain ⟨rest, hrec⟩ := hp.rec_
    have I2 := I1.tok (s1.toks + 1)
    have hc : (PySem.W.clsIn X.K (He.ga X.K c)).isSome = true := by
      obtain ⟨cd, hc, _⟩ := PySem.W.any_some C.cl.hd
      rw [hc]
      rfl
    refine PySem.W.get_bind I1.kIn J (PySem.W.plainGet_of (C.cl.get f)).1 (PySem.W.findObj_data hc hp.at_ hp.get hp.tak) (PySem.W.plainGet_of (C.cl.get f)).2 (wpAny_call (PySem.W.prop_get (s := { s1 with toks := s1.toks + 1 }) I1.kIn hrec ?_))
    refine codeAny_mono (G X.A.in1 X.stack { s1 with toks := s1.toks + 1 } H1 [.ref a] [.ref a] Q EX0 (ck.room.mono hj).in1 I2.env0.in1 (.cons rfl .nil) qq) fun r s' hq => ?_
    cases r with
    | error er =>
      obtain ⟨a, B, H', cls, d, _, _, _, _, _, _, _, hE⟩ := hq
      exact False.elim hE
    | ok fl =>
      cases fl with
      | ret u =>
        obtain ⟨v, H', I3, rv, q3⟩ := I2.after hq
        show wpAny _ _ (handedOut u) _ _ _
        rw [PySem.W.handedOut_of (handed_of rv)]
        exact wpAny_pure ⟨v, H', I3, rv, q3⟩
      | next => exact False.elim hq
      | brk => exact False.elim hq
      | cont => exact False.elim hq
  · obtain ⟨o, ρ, st, he, so, h⟩ := h
    refine ⟨o, ρ, st, he, so, (wpR.bind.mp h).mono (fun x st1 h1 v H1 o1 l1 s1 r1 => ?_) fun _ _ z => z⟩
    obtain ⟨gs, ds, e1, h2⟩ := insC1_wp (wpR.bind.mp h1)
    obtain ⟨n, a, dx, vs, rfl, rfl, _, _, e3, e4, _⟩ := ins_of r1 s1 e1
    exact ⟨a, dx, vs, rfl, e3, spD_of rfl s1 (Reps.one r1) ((noX_wp h2).mono (fun _ _ x => x.mono l1) fun _ _ x => x)⟩
/-! ### C.m(..), a classmethod -/
structure CalC (P : Program) (w : World) (K : Frag) (mg : Str → Option Value) (base : Heap) (k : Nat) (c m : Str) (np : Nat) (p : List D → M D) : Prop where
  ex : ∃ mc q g, FnR P w K mg base (L2.CX P w) k g (spD K np p) ∧ ClX.CRead K (He.ga K c) mc ∧ ClX.CMet K (He.ga K c) mc m q g
  mg : mg c = some (.ref (He.ga K c))
theorem CalC.mono {P : Program} {w : World} {K : Frag} {mg : Str → Option Value} {base : Heap} {j k : Nat} {c m : Str} {np : Nat} {p : List D → M D} (h : CalC P w K mg base j c m np p) (q : j ≤ k) : CalC P w K mg base k c m np p :=
  let ⟨⟨b, a, f, F, r⟩, mm⟩ := h; ⟨⟨b, a, f, F.mono q, r⟩, mm⟩
def dCMeth (c : Str) (np : Nat) (p : List D → M D) (fs : DenL) : Den := fun ρ => fs ρ >>= fun ds => arity np p (.cls c :: ds)
theorem pd_cmeth {c m : Str} {np : Nat} {p : List D → M D} {e : Expr} {es : List Expr} {fs : DenL} {p1 apos pos : Pos} {pl : Sem Bool} (ck : Cok X E k) (F : CalC X.prog X.w X.K X.mg X.base j c m np p) (hj : j ≤ k) (hg : Gl X c) (ha : PL X E (e :: es) fs) (hdb : (c == ("__debug__" : Str)) = false)
    (hst : starEach (e :: es) X.env = (false, eval e X.env) :: starEach es X.env) (hpl : (backTo pos (starEach es X.env)).any (·.1) = false)
    (ht : eval (.Call (.Attribute (.Name c p1) m apos) (e :: es) [] pos) X.env = (do
      let ov ← eval (.Name c p1) X.env
      standAt apos.atName
      let (f, first) ← holding [ov] (getMethod ov m pl)
      callWith pos f first (backTo pos (starEach (e :: es) X.env)) (backToKw pos (keywordEach [] X.env)))) :
    PD X E (.Call (.Attribute (.Name c p1) m apos) (e :: es) [] pos) (dCMeth c np p fs) := by
  obtain ⟨⟨mc, q, g, G, r, cm⟩, hm⟩ := F
  refine PE.imp (ClX.pe_cmeth (pl := pl) (pe_glob (v := .ref (He.ga X.K c)) hg hm rfl hdb) r cm G (ck.room.mono hj) ck.pass ha hst hpl ht) fun σ H Q h => ?_
  obtain ⟨o, ρ, st, he, so, h⟩ := h
  refine ⟨rfl, o, ρ, st, he, so, (wpR.bind.mp h).mono (fun ds st1 h1 vs H1 o1 l1 s1 r1 => ?_) fun _ _ z => z⟩
  have h4 : wpR ((bif (D.cls c :: ds).length == np then p (.cls c :: ds) else M.stuck) st1) (VOk X.K H o Q) (XOk X.K E H o) := h1
  cases q : (D.cls c :: ds).length == np with
  | false => rw [q] at h4; exact False.elim h4
  | true =>
    rw [q] at h4
    exact spD_of (eq_of_beq q) s1 ⟨.ref (He.ga X.K c), vs, rfl, rfl, r1⟩ (wpR.mono h4 (fun _ _ x => x.mono l1) fun _ _ x => x.mono l1)
end
end MP

namespace MP
open PySem L2
open PySem.Spec PyProof.Rows
/-! ## operators of one's own -/
abbrev Ms := List (Str × (List D → M D))
def msAt (ms : Ms) (st : Store) (x : D) : Option (Str × (List D → M D)) := (insAt st x).bind fun z => ms.find? fun q => q.1 == z.1
structure MsOk (P : Program) (w : World) (K : Frag) (mg : Str → Option Value) (base : Heap) (k : Nat) (m : Str) (np : Nat) (ms : Ms) : Prop where
  all : ∀ q ∈ ms, ClsF K q.1 ∧ CalM P w K mg base k q.1 m np q.2
theorem MsOk.nil {P : Program} {w : World} {K : Frag} {mg : Str → Option Value} {base : Heap} {k : Nat} {m : Str} {np : Nat} : MsOk P w K mg base k m np [] := ⟨fun _ h => nomatch h⟩
theorem MsOk.cons {P : Program} {w : World} {K : Frag} {mg : Str → Option Value} {base : Heap} {k : Nat} {m c : Str} {np : Nat} {p : List D → M D} {ms : Ms} (C : ClsF K c) (F : CalM P w K mg base k c m np p) (r : MsOk P w K mg base k m np ms) : MsOk P w K mg base k m np ((c, p) :: ms) :=
  ⟨fun q h => by
    rcases List.mem_cons.mp h with rfl | h
    · exact ⟨C, F⟩
    · exact r.all q h⟩
section
variable {K : Frag} {E : XK} {H H' : Hp} {o o' : Lo} {st : Store} {X : Cx} {k j : Nat} {ms : Ms} {m : Str} {np : Nat}
theorem ms_of {P : Program} {w : World} {mg : Str → Option Value} {base : Heap} {x : D} {v : V} {c : Str} {p : List D → M D} (r : Rep K H o x v) (s : StOk K H o st) (hm : MsOk P w K mg base k m np ms) (e : msAt ms st x = some (c, p)) :
    ∃ n a dx vs, x = .ref n ∧ v = .ref a ∧ H a = some (.ins (He.ga K c) dx vs) ∧ ClsF K c ∧ CalM P w K mg base k c m np p := by
  unfold msAt at e
  obtain ⟨⟨c', fs, ds⟩, e1, e2⟩ := Option.bind_eq_some_iff.mp e
  have h1 := List.find?_some e2
  have h2 := hm.all _ (List.mem_of_find?_eq_some e2)
  have hc : c = c' := eq_of_beq h1
  subst hc
  obtain ⟨n, a, dx, vs, rfl, rfl, _, _, e3, _, _⟩ := ins_of r s e1
  exact ⟨n, a, dx, vs, rfl, rfl, e3, h2.1, h2.2⟩
/-- what own methods answer: a plain value -/
def opO (ms : Ms) (q : D → D → M D) : D → D → M D := fun x y st => match msAt ms st x with
  | some (c, p) => (match insAt st y with
    | some (c', _, _) => if c' = c then p [x, y] st else .stuck
    | none => .stuck)
  | none => q x y st
theorem od_own {op : CmpOp} {q : D → D → M D} {x : Str} (hop : ∀ a b, compareOp op a b = richCompare op a b) (hn : (cmpInfo op).2.1 = x) (ck : Cok X E k) (hm : MsOk X.prog X.w X.K X.mg X.base j x 2 ms) (hj : j ≤ k) (hq : OpD X E (compareOp op) q) : OpD X E (compareOp op) (opO ms q) := by
  intro pins s σ H x y v u Q I rx ry h
  obtain ⟨dx, dy, o, st, r1, r2, so, hw⟩ := h
  unfold opO at hw
  cases e : msAt ms st dx with
  | none =>
    rw [e] at hw
    exact hq pins s σ H x y v u Q I rx ry ⟨dx, dy, o, st, r1, r2, so, hw⟩
  | some z =>
    obtain ⟨c, p⟩ := z
    rw [e] at hw
    simp only at hw
    cases e2 : insAt st dy with
    | none => rw [e2] at hw; exact False.elim hw
    | some z =>
      obtain ⟨c', fs, ds⟩ := z
      rw [e2] at hw
      simp only at hw
      by_cases hc : c' = c
      · rw [if_pos hc] at hw
        subst hc
        obtain ⟨n, a, dx', vs, rfl, rfl, ea, C, F⟩ := ms_of r1 so hm e
        obtain ⟨n2, b, dy', ws, rfl, rfl, _, _, eb, _, _⟩ := ins_of r2 so e2
        obtain ⟨f, G, hme, hf⟩ := F.ex
        obtain ⟨mA, O, _⟩ := ins_get I.hok ea
        obtain ⟨od, J, _⟩ := O.look
        obtain ⟨mB, O2, _⟩ := ins_get I.hok eb
        obtain ⟨od2, J2, _⟩ := O2.look
        obtain ⟨mm, hF⟩ := I.fr
        cases (show v = Value.ref a from rx)
        cases (show u = Value.ref b from ry)
        rw [hop]
        have hnf : PySem.W.notFirst X.K (He.ga X.K c') (.ref (He.ga X.K c')) = true := by
          unfold PySem.W.notFirst
          rw [beq_self_eq_true, Bool.true_or]
        refine PySem.W.cmp_K (op := op) (tb := .ref (He.ga X.K c')) ck.room.units0 hF I.ok.mod.kin J J2.type hnf (by rw [hn]; exact hme.at_) hme.fn ?_
        refine wpAny_mono (run_R (us := [.ref a, .ref b]) (vs := [.ref a, .ref b]) ck G hj I (.cons rfl (.cons rfl .nil)) (spD_of (ds := [.ref n, .ref n2]) rfl so ⟨_, _, rfl, r1, _, _, rfl, r2, rfl⟩ hw)) (fun w s' z => ?_) fun _ _ x => x
        obtain ⟨z', H', I', rz, qz⟩ := z
        exact SlX.cmpback rz ⟨z', H', I', rz, qz⟩
      · rw [if_neg hc] at hw; exact False.elim hw
/-- & and | of instances of one class -/
theorem od_ownB {op : Operator} {q : D → D → M D} {x : Str} (hn : PySem.dunder op.info.2 = x) (ck : Cok X E k) (hm : MsOk X.prog X.w X.K X.mg X.base j x 2 ms) (hj : j ≤ k) (hq : OpD X E (binaryOp op) q) : OpD X E (binaryOp op) (opO ms q) := by
  intro pins s σ H x y v u Q I rx ry h
  obtain ⟨dx, dy, o, st, r1, r2, so, hw⟩ := h
  unfold opO at hw
  cases e : msAt ms st dx with
  | none =>
    rw [e] at hw
    exact hq pins s σ H x y v u Q I rx ry ⟨dx, dy, o, st, r1, r2, so, hw⟩
  | some z =>
    obtain ⟨c, p⟩ := z
    rw [e] at hw
    simp only at hw
    cases e2 : insAt st dy with
    | none => rw [e2] at hw; exact False.elim hw
    | some z =>
      obtain ⟨c', fs, ds⟩ := z
      rw [e2] at hw
      simp only at hw
      by_cases hc : c' = c
      · rw [if_pos hc] at hw
        subst hc
        obtain ⟨n, a, dx', vs, rfl, rfl, ea, C, F⟩ := ms_of r1 so hm e
        obtain ⟨n2, b, dy', ws, rfl, rfl, _, _, eb, _, _⟩ := ins_of r2 so e2
        obtain ⟨f, G, hme, hf⟩ := F.ex
        obtain ⟨mA, O, _⟩ := ins_get I.hok ea
        obtain ⟨od, J, _⟩ := O.look
        obtain ⟨mB, O2, _⟩ := ins_get I.hok eb
        obtain ⟨od2, J2, _⟩ := O2.look
        obtain ⟨mm, hF⟩ := I.fr
        cases (show v = Value.ref a from rx)
        cases (show u = Value.ref b from ry)
        refine PySem.W.binop_K (op := op) hF I.ok.mod.kin J J2.type C.sf (by rw [hn]; exact hme.at_) hme.fn ?_
        refine wpAny_mono (run_R (us := [.ref a, .ref b]) (vs := [.ref a, .ref b]) ck G hj I (.cons rfl (.cons rfl .nil)) (spD_of (ds := [.ref n, .ref n2]) rfl so ⟨_, _, rfl, r1, _, _, rfl, r2, rfl⟩ hw)) (fun w s' z => ?_) fun _ _ x => x
        obtain ⟨z', H', I', rz, qz⟩ := z
        exact SlX.cmpback rz ⟨z', H', I', rz, qz⟩
      · rw [if_neg hc] at hw; exact False.elim hw
theorem od_none {f : Value → Value → Sem Value} : OpD X E f (fun _ _ => M.stuck) := by
  intro pins s σ H x y v u Q I rx ry h
  obtain ⟨_, _, _, _, _, _, _, hw⟩ := h
  exact False.elim hw
/-- ~x -/
def unO (ms : Ms) : D → M D := fun x st => match msAt ms st x with
  | some (_, p) => p [x] st
  | none => .stuck
theorem ud_inv (ck : Cok X E k) (hm : MsOk X.prog X.w X.K X.mg X.base j "__invert__" 1 ms) (hj : j ≤ k) : UnD X E (unaryOp .Invert) (unO ms) := by
  intro pins s σ H x v Q I rx h
  obtain ⟨dx, o, st, r1, so, hw⟩ := h
  unfold unO at hw
  cases e : msAt ms st dx with
  | none => rw [e] at hw; exact False.elim hw
  | some z =>
    obtain ⟨c, p⟩ := z
    rw [e] at hw
    obtain ⟨n, a, dx', vs, rfl, rfl, ea, C, F⟩ := ms_of r1 so hm e
    obtain ⟨f, G, hme, hf⟩ := F.ex
    obtain ⟨mA, O, _⟩ := ins_get I.hok ea
    obtain ⟨od, J, _⟩ := O.look
    obtain ⟨mm, hF⟩ := I.fr
    cases (show v = Value.ref a from rx)
    exact PySem.W.ksp_inv hF I.ok.mod.kin J hme.at_ hme.fn (run_R (us := [.ref a]) (vs := [.ref a]) ck G hj I (.cons rfl .nil) (spD_of rfl so (Reps.one r1) hw))
/-- str(x) -/
def strOnly (d : D) : M D := match d with
  | .str s => pure (.str s)
  | _ => M.stuck
def strO (ms : Ms) (q : List D → M D) : List D → M D := fun xs st => match xs with
  | [x] => (match msAt ms st x with
    | some (_, p) => (p [x] >>= strOnly) st
    | none => q [x] st)
  | _ => q xs st
theorem cd_strO {q : List D → M D} (ck : Cok X E k) (hm : MsOk X.prog X.w X.K X.mg X.base j "__str__" 1 ms) (hj : j + 2 ≤ k) (hq : CallD X E (.type "str") q) : CallD X E (.type "str") (strO ms q) := by
  intro pins s σ H xs us Q I rx h
  obtain ⟨ds, o, st, r1, so, hw⟩ := h
  match ds, r1, hw with
  | [], r1, hw => exact hq pins s σ H xs us Q I rx ⟨[], o, st, r1, so, hw⟩
  | a :: b :: r, r1, hw => exact hq pins s σ H xs us Q I rx ⟨a :: b :: r, o, st, r1, so, hw⟩
  | [x], r1, hw =>
    have hw' : wpR ((match msAt ms st x with | some (_, p) => (p [x] >>= strOnly) st | none => q [x] st)) (VOk X.K H o Q) (XOk X.K E H o) := hw
    cases e : msAt ms st x with
    | none => rw [e] at hw'; exact hq pins s σ H xs us Q I rx ⟨[x], o, st, r1, so, hw'⟩
    | some z =>
      obtain ⟨c, p⟩ := z
      rw [e] at hw'
      obtain ⟨v, rfl, rv⟩ := r1.one_of
      obtain ⟨n, a, dx', vs, rfl, rfl, ea, C, F⟩ := ms_of rv so hm e
      obtain ⟨f, G, hme, hf⟩ := F.ex
      obtain ⟨mA, O, _⟩ := ins_get I.hok ea
      obtain ⟨od, J, _⟩ := O.look
      obtain ⟨u, rfl, ru⟩ := rx.one
      cases (show u = Value.ref a from ru)
      have hr2 : Room j X.A.in1.in1 := (show Room (j + 1) X.A.in1 from (show Room (j + 2) X.A from ck.room.mono hj).in1).in1
      have hw2 : spD X.K 1 p [V.ref a] H (fun z H' => ∃ t, z = .str t ∧ Q z H') E := spD_of rfl so (Reps.one rv) ((wpR.bind.mp hw').mono (fun d st1 h1 v1 H1 o1 l1 s1 r1 => by
        cases d with
        | str t => exact ⟨t, r1, (show VOk X.K H o Q (.str t) st1 from h1) v1 H1 o1 l1 s1 r1⟩
        | _ => exact False.elim h1) fun _ _ x => x)
      refine PySem.W.kso_call (A := X.A) hr2.units0 I.kIn J hme.at_ hme.fn (wpAny_mono (wpAny_call (SlX.run_at (us := [.ref a]) (ws := [.ref a]) G hr2 I.env0.in1.in1 ck.pass I (.cons rfl .nil) hw2)) (fun w s' z => ?_) fun _ _ x => x)
      obtain ⟨z', H', I', rz, t, et, qz⟩ := z
      subst et
      obtain ⟨t', e'⟩ := (show ∃ t', w = Value.str t t' from rz)
      cases e'
      exact ⟨.str t, H', I', ⟨t', rfl⟩, qz⟩
end
end MP

namespace MP
open PySem L2
open PySem.Spec PyProof.Rows
/-! ## facts of classes behind the top -/
/-- a def at an address -/
structure DnA (K : Frag) (f : Addr) (x qual : Str) (params : Arguments) (body : List Stmt) (scope : Scope) (ps : List Str) : Prop where
  ex : ∃ fd, FunD K x qual params body scope [] [] f fd ∧ Binds K fd ps []
section
variable {P : Program} {w : World} {K : Frag} {mg : Str → Option Value} {base : Heap} {N ps : List Str} {x qual c m : Str} {params : Arguments} {body : List Stmt} {scope : Scope} {f : Addr} {k np : Nat} {p : List D → M D} {h : Heap}
theorem DnA.fnR {mm : DenS} (d : DnA K f x qual params body scope ps) (S : FnScope N ps scope) (hnp : ps.length = np)
    (h : ∀ (f : Addr) (cdv : Value) (A : Around) (outer : List PySem.Env) (s : Shared) (H : Hp) (E : XK), Cok (CF P w K mg base N qual scope f cdv A outer s H E) E k → PDSs (CF P w K mg base N qual scope f cdv A outer s H E) E body mm) :
    FnR P w K mg base (L2.CX P w) (k + 1) f (spD K np (runDef N.length mm)) := by
  obtain ⟨fd, F, b⟩ := d.ex
  refine ((fn_ok F S hnp (h f)).raw b .nil).imp fun vs H Q E hq => ?_
  rw [List.append_nil]
  exact hq
theorem dnA_of {fa : List He.Fa} {fn : List He.DefD} {ts : List He.Tab} {tt : List (Frag → Bool)} {da : List He5.DefA} {at_ : Frag → Addr} (s : SaysM fa fn ts tt da w K) (i : Nat) (hf : da[i]? = some ⟨at_, x, qual, params, body, scope, [], []⟩)
    (hb : ∀ (kV doc pm : Value) (an : Option Addr) (cdv ct : Value) (us : List Value), us.length = ps.length → bindArgs (PySem.W.fnOf x qual params body scope .none kV doc pm an cdv ct) ⟨us, []⟩ = pure (ps.zip us)) : DnA K (at_ K) x qual params body scope ps := by
  obtain ⟨fd, F⟩ := s.defA i hf
  exact ⟨fd, F, F.bindsN hb⟩
theorem clsF_of (h1 : (He.Fa.cls c).ok K = true) (h2 : clsB c K = true) : ClsF K c := by
  unfold clsB at h2
  simp only [Bool.and_eq_true, decide_eq_true_eq] at h2
  obtain ⟨a, b, d, e, f, g, i, j⟩ := h2
  exact ⟨He.cls_ok h1, a, b, d, e, f, g, i, fun t ht => of_decide_eq_true (List.all_eq_true.mp j t ht)⟩
theorem calM_of (h1 : (He.Fa.meth c m).ok K = true) (h2 : methB c m K = true) (F : FnR P w K mg base (L2.CX P w) k (He.ma K (He.ga K c) m) (spD K np p)) : CalM P w K mg base k c m np p := ⟨_, F, He.meth_ok h1, h2⟩
theorem mkC_of (X : K.In h) (G : h.Ns mainGlobals mg) (g : (He.Fa.glo c).ok K = true) (h1 : (He.Fa.mkr c).ok K = true) (F : FnR P w K mg base (L2.CX P w) k (He.ma K (He.ga K c) "__init__") (spD K np p)) : MkC P w K mg base k c np p := ⟨⟨_, F, He.mkr_ok h1⟩, He.glo_ok X G g⟩
theorem calP_of (h1 : propB c m K = true) (F : FnR P w K mg base (L2.CX P w) k (He5.wf K (He.ga K c) "property" m) (spD K 1 p)) : CalP P w K mg base k c m p := by
  unfold propB at h1
  simp only [Bool.and_eq_true, decide_eq_true_eq] at h1
  obtain ⟨a, b, d, e⟩ := h1
  refine ⟨_, _, F, a, b, d, ?_⟩
  unfold He5.wf
  split at e
  · rename_i f r q
    exact ⟨r, by rw [q]⟩
  · cases e
theorem calC_of (X : K.In h) (G : h.Ns mainGlobals mg) (g : (He.Fa.glo c).ok K = true) (h1 : cmetB c m K = true) (F : FnR P w K mg base (L2.CX P w) k (He5.wf K (He.ga K c) "classmethod" m) (spD K np p)) : CalC P w K mg base k c m np p := by
  unfold cmetB at h1
  simp only [Bool.and_eq_true, decide_eq_true_eq] at h1
  obtain ⟨a, b, d, e⟩ := h1
  exact ⟨⟨.type "type", _, _, F, ⟨d, e⟩, He5.cmet_of a b⟩, He.glo_ok X G g⟩
end
end MP

namespace MP
open PySem L2
open PySem.Spec PyProof.Rows
/-! ## operators of a class that is known -/
abbrev nonO : D → D → M D := fun _ _ => M.stuck
def opC (c : Str) (p : List D → M D) : D → D → M D := opO [(c, p)] nonO
def unC (c : Str) (p : List D → M D) : D → M D := unO [(c, p)]
def strC (c : Str) (p : List D → M D) : List D → M D := strO [(c, p)] fun _ => M.stuck
def m1C (c : Str) (p : List D → M D) (xs : List D) : M D := fun st => match xs with
  | [x] => (match msAt [(c, p)] st x with
    | some (_, p) => p [x] st
    | none => .stuck)
  | _ => .stuck
/-- a length -/
def lenOnly (d : D) : M D := match d with
  | .int i => bif decide (0 ≤ i ∧ i < 1000000) then pure (.int i) else M.stuck
  | _ => M.stuck
def lenC (c : Str) (p : List D → M D) : List D → M D := fun xs => m1C c p xs >>= lenOnly
def boolOnly (d : D) : M D := match d with
  | .bl b => pure (.bl b)
  | _ => M.stuck
def boolC (c : Str) (p : List D → M D) : List D → M D := fun xs => m1C c p xs >>= boolOnly
def dCallO (c : Str) (np : Nat) (p : List D → M D) (fo : Den) (fs : DenL) : Den := fun ρ => fo ρ >>= fun x => insC1 c x >>= fun _ => fs ρ >>= fun ds => insC1 c x >>= fun _ => arity np p (x :: ds)
section
variable {K : Frag} {E : XK} {H H' : Hp} {o o' : Lo} {st : Store} {X : Cx} {k j : Nat} {c m : Str} {np : Nat} {p : List D → M D}
theorem od_cmpC {op : CmpOp} {x : Str} (hop : ∀ a b, compareOp op a b = richCompare op a b) (hn : (cmpInfo op).2.1 = x) (ck : Cok X E k) (C : ClsF X.K c) (F : CalM X.prog X.w X.K X.mg X.base j c x 2 p) (hj : j ≤ k) : OpD X E (compareOp op) (opC c p) :=
  od_own hop hn ck (.cons C F .nil) hj od_none
theorem od_binC {op : Operator} {x : Str} (hn : PySem.dunder op.info.2 = x) (ck : Cok X E k) (C : ClsF X.K c) (F : CalM X.prog X.w X.K X.mg X.base j c x 2 p) (hj : j ≤ k) : OpD X E (binaryOp op) (opC c p) :=
  od_ownB hn ck (.cons C F .nil) hj od_none
theorem ud_invC (ck : Cok X E k) (C : ClsF X.K c) (F : CalM X.prog X.w X.K X.mg X.base j c "__invert__" 1 p) (hj : j ≤ k) : UnD X E (unaryOp .Invert) (unC c p) := ud_inv ck (.cons C F .nil) hj
theorem cd_none {f : Value} : CallD X E f (fun _ => M.stuck) := by
  intro pins s σ H xs us Q I r h
  obtain ⟨_, _, _, _, _, hw⟩ := h
  exact False.elim hw
theorem cd_strC (ck : Cok X E k) (C : ClsF X.K c) (F : CalM X.prog X.w X.K X.mg X.base j c "__str__" 1 p) (hj : j + 2 ≤ k) : CallD X E (.type "str") (strC c p) := cd_strO ck (.cons C F .nil) hj cd_none
theorem m1C_wp {xs : List D} {Q : D → Store → Prop} {Z : Exn → Store → Prop} (h : wpR (m1C c p xs st) Q Z) : ∃ x q, xs = [x] ∧ msAt [(c, p)] st x = some q ∧ wpR (q.2 [x] st) Q Z := by
  unfold m1C at h
  match xs, h with
  | [], h => exact False.elim h
  | _ :: _ :: _, h => exact False.elim h
  | [x], h =>
    have h' : wpR (match msAt [(c, p)] st x with | some (_, p) => p [x] st | none => .stuck) Q Z := h
    cases e : msAt [(c, p)] st x with
    | none => rw [e] at h'; exact False.elim h'
    | some q => rw [e] at h'; exact ⟨x, q, rfl, e, h'⟩
theorem cd_lenC (ck : Cok X E k) (C : ClsF X.K c) (F : CalM X.prog X.w X.K X.mg X.base j c "__len__" 1 p) (hj : j + 1 ≤ k) : CallD X E (.builtin "len") (lenC c p) := by
  intro pins s σ H xs us Q I rx h
  obtain ⟨ds, o, st, r1, so, hw⟩ := h
  obtain ⟨x, ⟨c', p'⟩, rfl, e, hw1⟩ := m1C_wp (wpR.bind.mp hw)
  obtain ⟨v, rfl, rv⟩ := r1.one_of
  obtain ⟨n, a, dx', vs, rfl, rfl, ea, C', F'⟩ := ms_of rv so (MsOk.cons C F .nil) e
  obtain ⟨f, G, hme, hf⟩ := F'.ex
  obtain ⟨mA, O, _⟩ := ins_get I.hok ea
  obtain ⟨od, J, _⟩ := O.look
  obtain ⟨mm, hF⟩ := I.fr
  obtain ⟨u, rfl, ru⟩ := rx.one
  cases (show u = Value.ref a from ru)
  have hr1 : Room j X.A.in1 := (show Room (j + 1) X.A from ck.room.mono hj).in1
  have hw2 : spD X.K 1 p' [V.ref a] H (fun z H' => ∃ i, z = .int i ∧ (0 ≤ i ∧ i < 1000000) ∧ Q z H') E := spD_of rfl so (Reps.one rv) (hw1.mono (fun d st1 h1 v1 H1 o1 l1 s1 r1 => by
    cases d with
    | int i =>
      have h2 : wpR ((bif decide (0 ≤ i ∧ i < 1000000) then (pure (.int i) : M D) else M.stuck) st1) (VOk X.K H o Q) (XOk X.K E H o) := h1
      cases q : decide (0 ≤ i ∧ i < 1000000) with
      | false => rw [q] at h2; exact False.elim h2
      | true =>
        rw [q] at h2
        exact ⟨i, r1, of_decide_eq_true q, (show VOk X.K H o Q (.int i) st1 from h2) v1 H1 o1 l1 s1 r1⟩
    | _ => exact False.elim h1) fun _ _ x => x)
  refine PySem.W.len_K hF I.ok.mod.kin J hme.at_ hme.fn (wpAny_mono (wpAny_call (SlX.run_at (us := [.ref a]) (ws := [.ref a]) G hr1 I.env0.in1 ck.pass I (.cons rfl .nil) hw2)) (fun w s' z => ?_) fun _ _ x => x)
  obtain ⟨z', H', I', rz, i, ei, hi, qz⟩ := z
  subst ei
  obtain ⟨t', e'⟩ := (show ∃ t', w = Value.int i t' from rz)
  cases e'
  exact ⟨⟨hi.1, by have := hi.2; omega⟩, .int i, H', I'.tok _, ⟨_, rfl⟩, qz⟩
/-- o(..) -/
theorem pd_callO {fo : Den} {fs : DenL} {fe e : Expr} {es : List Expr} {pos : Pos} (ck : Cok X E k) (C : ClsF X.K c) (F : CalM X.prog X.w X.K X.mg X.base j c "__call__" np p) (hj : j ≤ k) (hf : PD X E fe fo) (ha : PL X E (e :: es) fs)
    (ht : eval (.Call fe (e :: es) [] pos) X.env = (do callWith pos (← eval fe X.env) [] (backTo pos (starEach (e :: es) X.env)) (backToKw pos (keywordEach [] X.env))))
    (he : starEach (e :: es) X.env = (false, eval e X.env) :: starEach es X.env) (hpl : (backTo pos (starEach es X.env)).any (·.1) = false) : PD X E (.Call fe (e :: es) [] pos) (dCallO c np p fo fs) := by
  obtain ⟨f, G, hme, hfi⟩ := F.ex
  refine PE.imp (StX.pe_callO (C := He.ga X.K c) hf ⟨hme.at_, hme.fn, hfi⟩ G (ck.room.mono hj) ck.pass ha ht he hpl) fun σ H Q h => ?_
  obtain ⟨o, ρ, st, he, so, h⟩ := h
  refine ⟨o, ρ, st, he, so, (wpR.bind.mp h).mono (fun x st1 h1 v H1 o1 l1 s1 r1 => ?_) fun _ _ z => z⟩
  obtain ⟨gs0, ds0, e0, h1⟩ := insC1_wp (wpR.bind.mp h1)
  obtain ⟨n, rfl⟩ : ∃ n, x = .ref n := by
    cases x with
    | ref n => exact ⟨n, rfl⟩
    | _ => cases e0
  obtain ⟨a, rfl, hra⟩ := id r1
  refine ⟨a, rfl, o1, ρ, st1, he.mono l1.rep, s1, (wpR.bind.mp h1).mono (fun ds st2 h2 ws H2 o2 l2 s2 r2 => ?_) fun _ _ z => z.mono l1⟩
  obtain ⟨gs, ds', e1, h3⟩ := insC1_wp (wpR.bind.mp h2)
  have r1' := Rep.mono l2 _ _ r1
  obtain ⟨n', a', dx, vs, en, ea, _, _, e3, _, _⟩ := ins_of r1' s2 e1
  cases ea
  refine ⟨.inr ⟨dx, vs, e3⟩, ?_⟩
  have h4 : wpR ((bif (D.ref n :: ds).length == np then p (.ref n :: ds) else M.stuck) st2) (VOk X.K H o Q) (XOk X.K E H o) := h3
  cases q : (D.ref n :: ds).length == np with
  | false => rw [q] at h4; exact False.elim h4
  | true =>
    rw [q] at h4
    exact spD_of (eq_of_beq q) s2 ⟨.ref a, ws, rfl, r1', r2⟩ (wpR.mono h4 (fun _ _ x => x.mono (l1.trans l2)) fun _ _ x => x.mono (l1.trans l2))
/-! ### isinstance(x, C) -/
def opIsC (c : Str) (d : D) : M D := fun st => match insAt st d with
  | some (c', _, _) => if c' = c then .ok (.bl true) st else .stuck
  | none => (match tyName d with
    | some _ => .ok (.bl false) st
    | none => .stuck)
theorem tyName_in {d : D} {t : String} (e : tyName d = some t) : t ∈ (["NoneType", "bool", "int", "str", "tuple", "list", "dict"] : List String) := by
  cases d <;> cases e <;> decide
theorem pd_isC {e : Expr} {p p1 pos : Pos} {x : Str} {f : Den} (C : ClsF X.K c) (hg : Gl X x) (hm : X.mg x = none) (hv : bootBuiltins x = some (.builtin "isinstance")) (hg2 : Gl X c) (hm2 : X.mg c = some (.ref (He.ga X.K c)))
    (he : PD X E e f) (hn : x ≠ "__name__") (hdb : (x == ("__debug__" : Str)) = false) (hdb2 : (c == ("__debug__" : Str)) = false)
    (hs : ∀ es, starEach (e :: es) X.env = (false, eval e X.env) :: starEach es X.env) : PD X E (.Call (.Name x p) [e, .Name c p1] [] pos) (fun ρ => f ρ >>= opIsC c) := by
  refine PE.imp (pe_callB call_isi hg hm hv (pa_cons he (pa_cons (pe_glob (v := .ref (He.ga X.K c)) hg2 hm2 rfl hdb2) pa_nil) (hs _)) hn hdb (hs _) rfl) fun σ H Q h => ?_
  obtain ⟨o, ρ, st, he, hs, h⟩ := h
  refine ⟨o, ρ, st, he, hs, ?_⟩
  refine (wpR.bind.mp h).mono (fun d st1 h1 v H1 o1 l s1 r => ?_) fun _ _ x => x
  unfold opIsC at h1
  cases q : insAt st1 d with
  | none =>
    rw [q] at h1
    simp only at h1
    cases q2 : tyName d with
    | none => rw [q2] at h1; exact False.elim h1
    | some t =>
      rw [q2] at h1
      exact ⟨v, .ref (He.ga X.K c), .type t, .ref (He.ga X.K c), false, rfl, .own _, r.ty q2, C.no t (tyName_in q2), (show VOk X.K H o Q (.bl false) st1 from h1) _ H1 o1 l s1 rfl⟩
  | some z =>
    obtain ⟨c', fs, ds⟩ := z
    rw [q] at h1
    simp only at h1
    by_cases hc : c' = c
    · rw [if_pos hc] at h1
      subst hc
      obtain ⟨n, a, dx, vs, rfl, rfl, _, _, e3, e4, _⟩ := ins_of r s1 q
      exact ⟨.ref a, .ref (He.ga X.K c'), .ref (He.ga X.K c'), .ref (He.ga X.K c'), true, rfl, .own _, .base (TyOf.ins e3 C.cl C.ha C.hn C.htk C.hm), C.me, (show VOk X.K H o Q (.bl true) st1 from h1) _ H1 o1 l s1 rfl⟩
    · rw [if_neg hc] at h1; exact False.elim h1
/-! ### bool(x) -/
theorem bool_K {prog : Program} {w : World} {A : Around} {E : Value → Shared → Prop} {s : Shared} {K : Frag} {x C L f : Addr} {h₀ : Heap} {m : Str → Option Value} {ox : Obj} {od : Option Obj} {Q : Value → Shared → Prop} (F : Fr h₀ L s.heap m) (X₀ : K.In h₀) (I : PySem.W.InstAt s.heap x ox C od)
    (hs : PySem.W.findIn K (.ref C) "__bool__" = some (some (.ref f))) (hf : PySem.W.isFn K (.ref f) = true)
    (h : wpAny (model prog w) A.in1.in1 (call (.ref f) [.ref x]) (PySem.W.BoolBack fun b s => Q (.bool b) s) E s) : wpAny (model prog w) A (call (.type "bool") [.ref x]) Q E s := by
  refine callType_codes (T := "bool") (Bi := Builtin.«object.__init__») (Q₁ := fun r s₁ => ∃ b, r = .bool b ∧ Q r s₁) PySem.F.called_bool (PySem.F.typeCall_bool_1 _) PySem.F.entry_object_init ?_ ?_
  · refine codeAny_of_tree ?_
    show wpAny _ A.in1.in1 (do checkBuiltinCall "bool.__new__" ⟨[.type "bool", .ref x], []⟩; again (.builtin "bool.__new__" ⟨[.type "bool", .ref x], []⟩)) _ _ s
    refine wpAny_bind (wpAny_of_eq (PySem.F.newCall_bool_1 _) (wpAny_pure ⟨plainId_quiet (by decide +kernel) _, codeAny_builtin PySem.F.entry_bool_new ?_⟩))
    rw [Around.under_plainId (by decide +kernel) _]
    unfold Builtin.«bool.__new__»
    refine wpAny_bind (wpAny_of_eq (a := true) rfl ?_)
    refine PySem.W.KFB.if_not rfl ?_
    refine wpAny_bind (wpAny_of_eq (a := true) PySem.F.conv_sub_bool ?_)
    refine PySem.W.KFB.if_not rfl ?_
    refine wpAny_bind (wpAny_of_eq (a := [.ref x]) rfl ?_)
    refine wpAny_bind (PySem.W.truthy_K F X₀ I hs hf (wpAny_mono h (fun r s' hr => ?_) fun _ _ y => y))
    cases r <;> first | exact hr.elim | skip
    exact wpAny_pure ⟨_, rfl, hr⟩
  · rintro obj s₁ ⟨b, rfl, hq⟩
    exact ⟨PySem.typeIs_bool _ _, PySem.F.args_object_init_2 _ _, object_init_meets PySem.F.called_bool.init.lookup PySem.F.called_bool.made (by decide) prog w A.in1 _ s₁ ⟨PySem.typeIs_bool _ _, rfl, hq⟩⟩
theorem cd_boolC (ck : Cok X E k) (C : ClsF X.K c) (F : CalM X.prog X.w X.K X.mg X.base j c "__bool__" 1 p) (hj : j + 2 ≤ k) : CallD X E (.type "bool") (boolC c p) := by
  intro pins s σ H xs us Q I rx h
  obtain ⟨ds, o, st, r1, so, hw⟩ := h
  obtain ⟨x, ⟨c', p'⟩, rfl, e, hw1⟩ := m1C_wp (wpR.bind.mp hw)
  obtain ⟨v, rfl, rv⟩ := r1.one_of
  obtain ⟨n, a, dx', vs, rfl, rfl, ea, C', F'⟩ := ms_of rv so (MsOk.cons C F .nil) e
  obtain ⟨f, G, hme, hf⟩ := F'.ex
  obtain ⟨mA, O, _⟩ := ins_get I.hok ea
  obtain ⟨od, J, _⟩ := O.look
  obtain ⟨mm, hF⟩ := I.fr
  obtain ⟨u, rfl, ru⟩ := rx.one
  cases (show u = Value.ref a from ru)
  have hr2 : Room j X.A.in1.in1 := (show Room (j + 1) X.A.in1 from (show Room (j + 2) X.A from ck.room.mono hj).in1).in1
  have hw2 : spD X.K 1 p' [V.ref a] H (fun z H' => ∃ b, z = .bl b ∧ Q z H') E := spD_of rfl so (Reps.one rv) (hw1.mono (fun d st1 h1 v1 H1 o1 l1 s1 r1 => by
    cases d with
    | bl b => exact ⟨b, r1, (show VOk X.K H o Q (.bl b) st1 from h1) v1 H1 o1 l1 s1 r1⟩
    | _ => exact False.elim h1) fun _ _ x => x)
  refine bool_K hF I.ok.mod.kin J hme.at_ hme.fn (wpAny_mono (wpAny_call (SlX.run_at (us := [.ref a]) (ws := [.ref a]) G hr2 I.env0.in1.in1 ck.pass I (.cons rfl .nil) hw2)) (fun w s' z => ?_) fun _ _ x => x)
  obtain ⟨z', H', I', rz, b, eb, qz⟩ := z
  subst eb
  cases (show w = Value.bool b from rz)
  exact ⟨.bl b, H', I', rfl, qz⟩
/-! ### x[i], x[i] = v -/
def ixC (c : Str) (p : List D → M D) : D → D → M D := fun x y st => match msAt [(c, p)] st x with
  | some (_, p) => p [x, y] st
  | none => .stuck
theorem pd_ixC {a b : Expr} {fa fb : Den} {pos : Pos} (ck : Cok X E k) (C : ClsF X.K c) (F : CalM X.prog X.w X.K X.mg X.base j c "__getitem__" 2 p) (hj : j + 1 ≤ k) (ha : PD X E a fa) (hb : PD X E b fb)
    (hsl : ∀ o i, subscripted b true o i = runValue (.builtin "lifetime.subscript" ⟨[o, i], []⟩)) : PD X E (.Subscript a b pos) (fun ρ => fa ρ >>= fun x => fb ρ >>= fun y => ixC c p x y) := by
  refine PE.imp (t := tOp (rTwo X.K E (ixC c p)) (tD X.K E fa) (tD X.K E fb)) ⟨fun pins s σ H Q I h => ?_⟩ fun _ _ _ h => tD_two h
  refine Subscript_ (binT ha hb I h fun v u s2 x y H2 I2 rx ry q => ?_)
  obtain ⟨dx, dy, o, st, r1, r2, so, hw⟩ := q
  unfold ixC at hw
  cases e : msAt [(c, p)] st dx with
  | none => rw [e] at hw; exact False.elim hw
  | some z =>
    obtain ⟨c', p'⟩ := z
    rw [e] at hw
    obtain ⟨n, a, dx', vs, rfl, rfl, ea, C', F'⟩ := ms_of r1 so (MsOk.cons C F .nil) e
    obtain ⟨f, G, hme, hf⟩ := F'.ex
    obtain ⟨mA, O, _⟩ := ins_get I2.hok ea
    obtain ⟨od, J, _⟩ := O.look
    obtain ⟨mm, hF⟩ := I2.fr
    cases (show v = Value.ref a from rx)
    have hr1 : Room j X.A.in1 := (show Room (j + 1) X.A from ck.room.mono hj).in1
    exact PySem.W.sub_K hF I2.ok.mod.kin J hme.at_ hf hme.fn (wpAny_call (SlX.run_at (us := [.ref a, u]) (ws := [.ref a, y]) G hr1 I2.env0.in1 ck.pass I2 (.cons rfl (.cons ry .nil)) (spD_of (ds := [.ref n, dy]) rfl so ⟨_, _, rfl, r1, _, _, rfl, r2, rfl⟩ hw))) (hsl _ _)
def setC (c : Str) (p : List D → M D) (x i v : D) : M Unit := fun st => match msAt [(c, p)] st x with
  | some (_, p) => (match p [x, i, v] st with
    | .ok _ st' => .ok () st'
    | .exn e st' => .exn e st'
    | .stuck => .stuck)
  | none => .stuck
def gSubC (c : Str) (p : List D → M D) (fo fi : Den) : DenG := fun d ρ => fo ρ >>= fun x => fi ρ >>= fun i => setC c p x i d >>= fun _ => pure ρ
theorem dg_setC {a i : Expr} {fo fi : Den} {pos : Pos} (ck : Cok X E k) (C : ClsF X.K c) (F : CalM X.prog X.w X.K X.mg X.base j c "__setitem__" 3 p) (hj : j ≤ k) (ho : PD X E a fo) (hi : PD X E i fi)
    (ha : ∀ v, assign (.Subscript a i pos) X.env v = (do
      let ov ← holding [v] (eval a X.env)
      let iv ← holding [v, ov] (eval i X.env)
      standAt pos
      holding [v, ov, iv] (setItem ov iv v)
      release [v, ov, iv] [])) : PDG X E (.Subscript a i pos) (gSubC c p fo fi) := by
  refine PG.imp (pg_sub (t := fun x i v H Q => ∃ o st dx di dv, Rep X.K H o dx x ∧ Rep X.K H o di i ∧ Rep X.K H o dv v ∧ StOk X.K H o st ∧ wpR (setC c p dx di dv st) (UOk X.K H o Q) (XOk X.K E H o)) ho hi (fun pins s σ H x i v ov iv u Q I ro ri rv h => ?_) ha) fun v σ H Q h => ?_
  · obtain ⟨o, st, dx, di, dv, r1, r2, r3, so, hw⟩ := h
    unfold setC at hw
    cases e : msAt [(c, p)] st dx with
    | none => rw [e] at hw; exact False.elim hw
    | some z =>
      obtain ⟨c', p'⟩ := z
      rw [e] at hw
      obtain ⟨n, a, dx', vs, rfl, rfl, ea, C', F'⟩ := ms_of r1 so (MsOk.cons C F .nil) e
      obtain ⟨f, G, hme, hf⟩ := F'.ex
      obtain ⟨mA, O, _⟩ := ins_get I.hok ea
      obtain ⟨od, J, _⟩ := O.look
      obtain ⟨mm, hF⟩ := I.fr
      cases (show ov = Value.ref a from ro)
      have hw2 : wpR (p' [.ref n, di, dv] st) (VOk X.K H o fun _ H' => Q H') (XOk X.K E H o) := by
        have hw3 : wpR (match p' [.ref n, di, dv] st with | .ok _ st' => R.ok () st' | .exn e st' => .exn e st' | .stuck => .stuck) (UOk X.K H o Q) (XOk X.K E H o) := hw
        cases q : p' [.ref n, di, dv] st with
        | ok d st' => rw [q] at hw3; exact fun v H' o' l s' _ => (show UOk X.K H o Q () st' from hw3) H' o' l s'
        | exn e st' => rw [q] at hw3; exact hw3
        | stuck => rw [q] at hw3; exact hw3
      refine PySem.W.ksp_setItem hF I.ok.mod.kin J C'.ns hme.at_ hme.fn (wpAny_mono (run_R (us := [.ref a, iv, u]) (vs := [.ref a, i, v]) ck G hj I (.cons rfl (.cons ri (.cons rv .nil))) (spD_of (ds := [.ref n, di, dv]) rfl so ⟨_, _, rfl, r1, _, _, rfl, r2, _, _, rfl, r3, rfl⟩ hw2)) (fun w s' z => ?_) fun _ _ x => x)
      obtain ⟨z', H', I', _, qz⟩ := z
      exact ⟨H', I', qz⟩
  · obtain ⟨o, ρ, st, d, he, hs, r, h⟩ := h
    refine ⟨o, ρ, st, he, hs, ?_⟩
    refine (wpR.bind.mp h).mono (fun x st1 h1 vx H1 o1 l1 s1 r1 => ⟨o1, ρ, st1, he.mono l1.rep, s1, ?_⟩) fun _ _ x => x
    refine (wpR.bind.mp h1).mono (fun i st2 h2 vi H2 o2 l2 s2 r2 => ⟨o2, st2, x, i, d, Rep.mono l2 _ _ r1, r2, Rep.mono (l1.trans l2) _ _ r, s2, ?_⟩) fun _ _ x => x.mono l1
    have l12 := l1.trans l2
    refine wpR.mono (wpR.bind.mp h2) (fun u st3 h3 H3 o3 l3 s3 => ?_) fun _ _ x => x.mono l12
    exact (show EOk X.K H o Q ρ st3 from h3) σ H3 o3 (l12.trans l3) s3 (he.mono ((l12.trans l3).rep))
/-! ### W.index(x), W a tuple of texts of the module -/
def ixS (zs : List Str) (d : D) : M D := match d with
  | .str z => (match zs.findIdx? (· == z) with
    | some j => pure (.int j)
    | none => M.stuck)
  | _ => M.stuck
structure GTup (K : Frag) (mg : Str → Option Value) (x : Str) (zs : List Str) : Prop where
  ex : ∃ a o, mg x = some (.ref a) ∧ K.lookup a = some o ∧ o.cls = .type "tuple" ∧ o.dict = none ∧ ∀ H, SqT K H a (zs.map V.str)
theorem gtup_of {mg : Str → Option Value} {x : Str} {zs : List Str} {h : Heap} (X : K.In h) (G : h.Ns mainGlobals mg) (g : (He.Fa.glo x).ok K = true) (t : He.tupB K x (zs.map He.Dv.str) = true) (dn : noDict x K = true) : GTup K mg x zs := by
  have e : (zs.map He.Dv.str).map (He.Dv.v K) = zs.map V.str := by rw [List.map_map]; rfl
  unfold noDict at dn
  cases q : K.lookup (He.ga K x) with
  | none => rw [q] at dn; cases dn
  | some o =>
    rw [q] at dn
    have dn' : (decide (o.cls = .type "tuple") && o.dict.isNone) = true := dn
    rw [Bool.and_eq_true] at dn'
    refine ⟨_, o, He.glo_ok X G g, q, of_decide_eq_true dn'.1, Option.isNone_iff_eq_none.mp dn'.2, fun H => ?_⟩
    have s := He.tupB_ok t H
    rw [e] at s
    exact s
theorem pd_gindex {x : Str} {zs : List Str} {e : Expr} {f : Den} {p1 apos cpos : Pos} (hg : Gl X x) (G : GTup X.K X.mg x zs) (he : PD X E e f) (hdb : (x == ("__debug__" : Str)) = false)
    (hbase : attributeBase (.Name x p1) "index" X.env (eval (.Name x p1) X.env) = eval (.Name x p1) X.env)
    (hfew : ((backTo cpos (starEach [e] X.env)).all (fun x => !x.1) && (backToKw cpos (keywordEach [] X.env)).all (fun x => x.1.isSome)
      && decide ([e].length + ([] : List Keyword).length + (if ([] : List Keyword).isEmpty then 0 else 1) < 30)) = true)
    (hline : (apos.endLine == cpos.line) = true) (hs : starEach [e] X.env = (false, eval e X.env) :: starEach [] X.env) (hplain : (backTo cpos (starEach [] X.env)).any (·.1) = false) :
    PD X E (.Call (.Attribute (.Name x p1) "index" apos) [e] [] cpos) (fun ρ => f ρ >>= ixS zs) := by
  obtain ⟨a, o, hm, hk, hc, hd, hq⟩ := G.ex
  refine PE.imp (pe_bm PySem.F.plainAttrs_tuple PySem.F.slot_tuple_index PySem.F.type_tuple_index mt_tup_index (pe_glob (v := .ref a) hg hm rfl hdb) (pa_cons he pa_nil hs) hbase hfew hline hs hplain) fun σ H Q h => ?_
  obtain ⟨oo, ρ, st, he', hst, h⟩ := h
  refine ⟨.inr (.inl ⟨rfl, o, hk, hc, hd⟩), oo, ρ, st, he', hst, (wpR.bind.mp h).mono (fun d st1 h1 v H1 o1 l s1 r => ?_) fun _ _ x => x⟩
  cases d with
  | str z =>
    have h2 : wpR ((match zs.findIdx? (· == z) with | some j => (pure (.int j) : M D) | none => M.stuck) st1) (VOk X.K H oo Q) (XOk X.K E H oo) := h1
    cases q : zs.findIdx? (· == z) with
    | none => rw [q] at h2; exact False.elim h2
    | some j =>
      rw [q] at h2
      cases (show v = .str z from r)
      obtain ⟨hj, k1, k2⟩ := List.findIdx?_eq_some_iff_getElem.mp q
      refine ⟨a, zs, z, j, rfl, rfl, hq H1, ?_, fun m hm e => ?_, (show VOk X.K H oo Q (.int j) st1 from h2) _ H1 o1 l s1 rfl⟩
      · rw [List.getElem?_eq_getElem hj, eq_of_beq k1]
      · obtain ⟨hm', e'⟩ := List.getElem?_eq_some_iff.mp e
        exact k2 m hm (by rw [e']; exact beq_self_eq_true z)
  | _ => exact False.elim h1
end
end MP

namespace MP
open PySem L2
open PySem.Spec PyProof.Rows
/-! ## int(text) -/
def biIntS : D → M D
  | .str a => match PySem.intText? a with
    | some n => guardM (decide (a.length ≤ 640)) (pure (.int n))
    | none => M.stuck
  | d => biInt d
theorem cd_intS {X : Cx} {E : XK} : CallD X E (.type "int") (on1 biIntS) := cd_on1 fun pins s σ H v us Q d o st I r r1 so h => by
  cases d <;> first | exact False.elim h | skip
  · cases (show v = .bl _ from r1)
    exact call_int1 pins s σ H _ us Q I r (.inr ⟨_, rfl, ok_flat h so rfl⟩)
  · cases (show v = .int _ from r1)
    exact call_int1 pins s σ H _ us Q I r (.inl ⟨_, rfl, ok_flat h so rfl⟩)
  · cases (show v = .str _ from r1)
    rename_i a
    have h' : wpR ((match PySem.intText? a with | some n => guardM (decide (a.length ≤ 640)) (pure (.int n)) | none => M.stuck : M D) st) _ _ := h
    cases q : PySem.intText? a with
    | none => rw [q] at h'; exact False.elim h'
    | some n =>
      rw [q] at h'
      obtain ⟨hl, h'⟩ := guardM_wp h'
      exact call_int_str pins s σ H _ us Q I r ⟨_, _, rfl, q, of_decide_eq_true hl, ok_flat h' so rfl⟩
/-! ## running: instances -/
section
variable {α : Type} {st : Store} {n m : Nat} {c : Str} {fs : List Str} {ds : List D}
theorem insAt_ref (h : st[n]? = some (.ins c fs ds)) : insAt st (.ref n) = some (c, fs, ds) := by
  show insC st[n]? = _
  rw [h]; rfl
theorem t_fld {f : Str} {y : D} {Q : D → Store → Prop} (h : st[n]? = some (.ins c fs ds)) (hl : (fs.zip ds).lookup f = some y) : T (fldOf c f (.ref n)) st Q = Q y st := by
  unfold T fldOf
  rw [insAt_ref h]
  simp only [if_true]
  rw [hl]
  rfl
theorem t_insC1 {Q : Unit → Store → Prop} (h : st[n]? = some (.ins c fs ds)) : T (insC1 c (.ref n)) st Q = Q () st := by
  unfold T insC1
  rw [insAt_ref h]
  simp only [if_true]
  rfl
theorem t_insM {g : Str} {Q : Unit → Store → Prop} (h : st[n]? = some (.ins c fs ds)) (hc : fs.contains g = false) : T (insM c g (.ref n)) st Q = Q () st := by
  unfold T insM
  rw [insAt_ref h]
  simp only [hc, and_self, if_true]
  rfl
theorem t_setF {f : Str} {y : D} {Q : Unit → Store → Prop} (h : st[n]? = some (.ins c fs ds)) (hl : fs.length < 900) : T (setF c f (.ref n) y) st Q = Q () (st.set n (.ins c (putN f fs) (putD f y fs ds))) := by
  unfold T setF
  rw [insAt_ref h]
  simp only [hl, and_self, if_true]
  rfl
theorem t_mkO {p : List D → M D} {xs : List D} {Q : D → Store → Prop} (h : T (p (.ref st.length :: xs)) (st ++ [.ins c [] []]) (fun d s => d = .non ∧ Q (.ref st.length) s)) : T (mkO c p xs) st Q := by
  unfold mkO
  rw [t_bind, t_alloc, t_bind]
  refine h.mono fun d s hd => ?_
  obtain ⟨rfl, hq⟩ := hd
  exact hq
theorem msAt_ref {p : List D → M D} (h : st[n]? = some (.ins c fs ds)) : msAt [(c, p)] st (.ref n) = some (c, p) := by
  unfold msAt
  rw [insAt_ref h]
  simp
theorem t_opC {p : List D → M D} {gs : List Str} {es : List D} {Q : D → Store → Prop} (h : st[n]? = some (.ins c fs ds)) (k : st[m]? = some (.ins c gs es)) : T (opC c p (.ref n) (.ref m)) st Q = T (p [.ref n, .ref m]) st Q := by
  unfold T opC opO
  rw [msAt_ref h, insAt_ref k]
  simp only [if_true]
theorem t_unC {p : List D → M D} {Q : D → Store → Prop} (h : st[n]? = some (.ins c fs ds)) : T (unC c p (.ref n)) st Q = T (p [.ref n]) st Q := by
  unfold T unC unO
  rw [msAt_ref h]
theorem t_strC {p : List D → M D} {Q : D → Store → Prop} (h : st[n]? = some (.ins c fs ds)) (k : T (p [.ref n]) st (fun d s => ∃ t, d = .str t ∧ Q d s)) : T (strC c p [.ref n]) st Q := by
  have e : T (strC c p [.ref n]) st Q = T (p [.ref n] >>= strOnly) st Q := by
    unfold T
    show wpR (match msAt [(c, p)] st (.ref n) with | some (_, p) => (p [.ref n] >>= strOnly) st | none => R.stuck) Q _ = _
    rw [msAt_ref h]
  rw [e, t_bind]
  refine k.mono fun d s hd => ?_
  obtain ⟨t, rfl, hq⟩ := hd
  exact hq
theorem t_m1C {p : List D → M D} {Q : D → Store → Prop} (h : st[n]? = some (.ins c fs ds)) : T (m1C c p [.ref n]) st Q = T (p [.ref n]) st Q := by
  unfold T
  show wpR (match msAt [(c, p)] st (.ref n) with | some (_, p) => p [.ref n] st | none => R.stuck) Q _ = _
  rw [msAt_ref h]
theorem t_lenC {p : List D → M D} {Q : D → Store → Prop} (h : st[n]? = some (.ins c fs ds)) (k : T (p [.ref n]) st (fun d s => ∃ i : Int, d = .int i ∧ 0 ≤ i ∧ i < 1000000 ∧ Q d s)) : T (lenC c p [.ref n]) st Q := by
  unfold lenC
  rw [t_bind, t_m1C h]
  refine k.mono fun d s hd => ?_
  obtain ⟨t, rfl, h0, h1, hq⟩ := hd
  show T (bif decide (0 ≤ t ∧ t < 1000000) then pure (.int t) else M.stuck) s Q
  rw [decide_eq_true ⟨h0, h1⟩]
  exact hq
theorem t_boolC {p : List D → M D} {Q : D → Store → Prop} (h : st[n]? = some (.ins c fs ds)) (k : T (p [.ref n]) st (fun d s => ∃ b, d = .bl b ∧ Q d s)) : T (boolC c p [.ref n]) st Q := by
  unfold boolC
  rw [t_bind, t_m1C h]
  refine k.mono fun d s hd => ?_
  obtain ⟨t, rfl, hq⟩ := hd
  exact hq
theorem t_isC {Q : D → Store → Prop} (h : st[n]? = some (.ins c fs ds)) : T (opIsC c (.ref n)) st Q = Q (.bl true) st := by
  unfold T opIsC
  rw [insAt_ref h]
  simp only [if_true]
  rfl
theorem t_ixC {p : List D → M D} {y : D} {Q : D → Store → Prop} (h : st[n]? = some (.ins c fs ds)) : T (ixC c p (.ref n) y) st Q = T (p [.ref n, y]) st Q := by
  unfold T ixC
  rw [msAt_ref h]
theorem t_setC {p : List D → M D} {i v : D} {Q : Unit → Store → Prop} (h : st[n]? = some (.ins c fs ds)) (k : T (p [.ref n, i, v]) st (fun _ s => Q () s)) : T (setC c p (.ref n) i v) st Q := by
  unfold T setC
  rw [msAt_ref h]
  simp only
  obtain ⟨a, st', e, hq⟩ := k.get
  rw [e]
  exact hq
theorem t_clsM {Q : Unit → Store → Prop} : T (clsM c (.cls c)) st Q = Q () st := by
  unfold clsM
  simp only [if_true]
  rfl
end
section
variable {c f : Str} {fo fv : Den} {ρ : Env} {st : Store} {g : DenS} {Q : Fl → Store → Prop}
theorem t_fset : T (dSeq (dSetF c f fo fv) g ρ) st Q = T (fv ρ) st (fun y s => T (fo ρ) s fun x s => T (setF c f x y) s fun _ s => T (g ρ) s Q) := by
  unfold dSeq dSetF
  simp only [t_bind, t_pure]
theorem t_fset1 : T (dSetF c f fo fv ρ) st Q = T (fv ρ) st (fun y s => T (fo ρ) s fun x s => T (setF c f x y) s fun _ s => Q (.nx ρ) s) := by
  unfold dSetF
  simp only [t_bind, t_pure]
end
end MP

namespace MP
open PySem L2
open PySem.Spec PyProof.Rows
/-! ## enumerate of a list or a tuple -/
theorem SeqAt.ob {k : Bool} {h h' : Heap} {l : Addr} {xs : Array Value} (x : SeqAt k h l xs) (e : ∀ o, h.get? l = some o → h'.get? l = some o) : SeqAt k h' l xs := by
  cases k <;> obtain ⟨o, q, r⟩ := x <;> exact ⟨o, e o q, r⟩
/-- a sequence's iterator gives its items one by one -/
theorem draws_x {prog : Program} {w : World} {A : Around} (k : Bool) (nh : A.handled = none) {r l : Addr} (ap : l ≠ r) (xs : Array Value) :
    Draws prog w A r [r, l] xs.size (fun j v => xs[j]? = some v) (fun j g => ItAt k g r l j ∧ SeqAt k g l xs) :=
  ⟨fun _ _ z => z.1.obj.imp fun _ q => q.1, fun _ _ _ z up => ⟨z.1.ob (up r (by simp)), z.2.ob (up l (by simp))⟩,
    fun j s0 _ _ lt z go => next_ok z.1 z.2 (x := xs[j]) (by simp [lt]) fun g z1 same => go _ g s0.toks (by simp [lt]) ⟨z1, z.2.eb same.extBut ap⟩ same,
    fun _ _ _ z go => next_no nh z.1 z.2 (by simp) go⟩
/-- an iterator at its end: no item is ever asked -/
theorem draws_end {prog : Program} {w : World} {A : Around} (k : Bool) (nh : A.handled = none) {r l : Addr} {xs : Array Value} {n : Nat} (no : xs[n]? = none) :
    Draws prog w A r [r, l] n (fun _ _ => True) (fun j g => j = n ∧ ItAt k g r l j ∧ SeqAt k g l xs) :=
  ⟨fun _ _ z => z.2.1.obj.imp fun _ q => q.1, fun _ _ _ z up => ⟨z.1, z.2.1.ob (up r (by simp)), z.2.2.ob (up l (by simp))⟩,
    fun _ _ _ _ lt z _ => absurd z.1 (Nat.ne_of_lt lt), fun _ _ _ z go => next_no nh z.2.1 z.2.2 no go⟩
def enO (it : Addr) : Obj := { cls := .type "enumerate", data := .fields #[.none, .bool false, .ref it, rawInt 0, .none, .none] }
def henum (k : Bool) (g : Heap) (l : Addr) : Heap := (g.push (itO k l)).push (enO g.objs.size)
theorem enum_meets (k : Bool) (l : Addr) (xs : Array Value) :
    Meets (Builtin.«enumerate.__new__» ⟨[.type "enumerate", .ref l], []⟩) (fun _ R s => SeqAt k s.heap l xs ∧ R (.ok (.ret (.ref (s.heap.objs.size + 1)))) { s with heap := henum k s.heap l }) :=
  Meets.of_wp fun _ _ _ R ⟨g, a, b, c, d⟩ h => by
    have su := sub_enumerate
    have a1 : SeqAt k (Shared.heap ⟨g, a, b, c, d⟩) l xs := h.1
    have fin : R (.ok (.ret (.ref (g.push (itO k l)).objs.size))) ⟨henum k g l, a, b, c, d⟩ := by rw [Heap.size_push]; exact h.2
    wp_walk using iter_new a1
    refine wpAny_stack_any fun _ => wpAny_pure ?_
    split
    · rename_i ty _ _ _ _ _
      cases hty : (ty == Value.type "enumerate") <;> (wp_walk using iter_new a1; exact ⟨_, rfl, fin⟩)
    · wp_walk using iter_new a1; exact ⟨_, rfl, fin⟩
theorem henum_at {k : Bool} {g : Heap} {l : Addr} : IsEnum (henum k g l) (g.objs.size + 1) g.objs.size ((0 : Nat) : Int) .none ∧ ItAt k (henum k g l) g.objs.size l 0 ∧ ∀ b ob, g.get? b = some ob → (henum k g l).get? b = some ob := by
  have sz : (g.push (itO k l)).objs.size = g.objs.size + 1 := Heap.size_push ..
  refine ⟨?_, itO_at (Heap.get?_push_of_some _ (Heap.get?_push_size _ (by cases k <;> rfl))), fun b ob q => Heap.get?_push_of_some _ (Heap.get?_push_of_some _ q)⟩
  rw [← sz]
  exact Heap.get?_push_size _ rfl
theorem call_enumX {prog : Program} {w : World} {A : Around} {E : Value → Shared → Prop} {s : Shared} {k : Bool} {l : Addr} {xs : Array Value} {Q : Value → Shared → Prop} (a1 : SeqAt k s.heap l xs)
    (go : Q (.ref (s.heap.objs.size + 1)) { s with heap := henum k s.heap l }) : wpAny (model prog w) A (call (.type "enumerate") [.ref l]) Q E s :=
  callType_new F.called_enumerate (by decide) (F.typeCall_enumerate_1 _) (F.newCall_enumerate_1 _) (fun ob => F.args_object_init_2 ob _) F.entry_enumerate_new (enum_meets k l xs) ⟨a1, ⟨_, henum_at.1, rfl⟩, go⟩
/-- turn by turn: the item as it stands then, in a new pair with its number -/
def ItN (K : Frag) (k : Bool) (a : Addr) : It :=
  ⟨fun n H => ∃ xs x, SqX K k H a xs ∧ xs[n]? = some x, fun n H v H' => ∃ P x, v = .ref P ∧ H P = none ∧ H' = upd H P (.tup [.int (n : Nat), x]) ∧ ∀ xs, SqX K k H a xs → xs[n]? = some x, fun n H => ∃ xs, SqX K k H a xs ∧ xs.length ≤ n⟩
structure EnAt (g : Heap) (z r a : Addr) (k : Bool) (n : Nat) : Prop where
  en : ∃ old, IsEnum g z r ((n : Nat) : Int) old
  it : ItAt k g r a n
  zr : z ≠ r
  za : z ≠ a
  ar : a ≠ r
theorem turn_enumX {P : Program} {w : World} {K : Frag} {elts : List Expr} {kk : Nat} {tpos : Pos} (k : Bool) (a z r : Addr) : Turn P w K (.Tuple elts kk tpos) (ItN K k a) [z, r] z (fun n g => EnAt g z r a k n) where
  mem := List.mem_cons_self
  obj := fun n g Z c hc => by
    rcases (by simpa using hc : c = z ∨ c = r) with rfl | rfl
    · obtain ⟨old, q⟩ := Z.en
      exact ⟨_, q, fun v w => by cases w⟩
    · exact Z.it.obj
  keep := fun n g g' Z up => ⟨Z.en.imp fun _ q => up z (by simp) _ q, Z.it.ob fun ob q => up r (by simp) ob q, Z.zr, Z.za, Z.ar⟩
  item := by
    intro X hP hw hK cm n pins s0 τ H EE I free Z gv; subst hP hw hK
    obtain ⟨xs, x, sq, gx⟩ := gv
    obtain ⟨its, vals, at1⟩ := seq_at I sq
    obtain ⟨u, gu, ru⟩ := vals.get gx
    obtain ⟨old, en⟩ := Z.en
    have zl := Heap.lt_size en
    have nl : n < its.toArray.size := by simpa using (List.getElem?_eq_some_iff.mp gu).1
    have D := draws_x (prog := X.prog) (w := X.w) (A := X.A.in1) k (show X.A.in1.handled = none from I.ok.hd cm) Z.ar its.toArray
    refine wpAny_pyNext_enum_itemD D en ⟨Z.it, at1⟩ nl Z.zr (by simp [Z.zr, Z.za]) fun y g tk gy out st pr sz kp => ?_
    obtain rfl : y = u := Option.some.inj ((by simpa using gy : its[n]? = some y).symm.trans gu)
    refine ⟨_, rfl, wpAny_letOwnedTupleGo_enum (s := { s0 with heap := g, toks := tk + 1 }) out fun f ef sb => ?_⟩
    have up : ∀ c ob, c ≠ z → c ≠ r → s0.heap.get? c = some ob → f.get? c = some ob := fun c ob n1 n2 q => (sb.2 c n1).trans (kp c ob n1 n2 q)
    have pf : f.get? s0.heap.objs.size = some { cls := .type "tuple", data := .seq #[.int n tk, y] } := (sb.2 _ (Nat.ne_of_gt zl)).trans pr
    have I1 : Inv X pins τ (upd H s0.heap.objs.size (.tup [.int (n : Nat), x])) { s0 with heap := f, toks := tk + 1 } :=
      I.turnedNew (ch := [z, r]) (fun c ob nc q => by
        have nc' : c ≠ z ∧ c ≠ r := by simpa using nc
        exact up c ob nc'.1 nc'.2 q) free (Nat.le_refl _) ⟨by show 2 ≤ sizeLine; decide, [.int n tk, y], .cons ⟨tk, rfl⟩ (.cons ru .nil), ⟨_, pf, rfl, _, rfl⟩⟩
    refine ⟨.ref s0.heap.objs.size, _, I1, rfl, ⟨_, x, rfl, I.hok.fresh (Nat.le_refl _), rfl, fun l hl => by rw [seq_inj I hl sq]; exact gx⟩, ⟨⟨y, ?_⟩, st.1.ob fun ob q => (sb.2 r Z.zr.symm).trans q, Z.zr, Z.za, Z.ar⟩, fun c hc => ?_⟩
    · rw [Int.natCast_add]; exact ef
    · have cl : c < s0.heap.objs.size := by
        rcases (by simpa using hc : c = z ∨ c = r) with rfl | rfl
        · exact zl
        · exact Z.it.lt
      rw [upd_ne (Nat.ne_of_lt cl)]; exact (free c hc).1
  done := by
    intro X hP hw hK cm n pins s0 τ H EE I free Z gv; subst hP hw hK
    obtain ⟨xs, sq, le⟩ := gv
    obtain ⟨its, vals, at1⟩ := seq_at I sq
    obtain ⟨old, en⟩ := Z.en
    have ln := vals.length
    have D := draws_end (prog := X.prog) (w := X.w) (A := X.A.in1) k (show X.A.in1.handled = none from I.ok.hd cm) (r := r) (l := a) (xs := its.toArray) (n := n) (by simp; omega)
    obtain ⟨p0, p1, _, p3, p4, p5⟩ := free r (by simp)
    exact wpAny_pyNext_enum_endD D en ⟨rfl, Z.it, at1⟩ fun g eb => ⟨rfl, I.turned (t' := s0.toks) (fun c ob nc q => eb c ob nc q) p0 p1 ‹_› p4 p5⟩
  self := fun A n s0 Q EE Z go => Z.en.elim fun _ q => wpAny_pyIter_enum q go
def iNumX (K : Frag) (ta : TA) : TI := fun τ H R => ta τ H fun vs H1 => ∃ k a xs, vs = [.ref a] ∧ SqX K k H1 a xs ∧ R (ItN K k a) H1
theorem pi_enumX {X : Cx} {e : Expr} {ta : TA} {p pos tpos : Pos} {elts : List Expr} {kk : Nat} (hg : Gl X "enumerate") (hm : X.mg "enumerate" = none) (ha : PA X [e] ta)
    (hs : starEach [e] X.env = [(false, eval e X.env)] := by rfl) : PI X (.Tuple elts kk tpos) (.Call (.Name "enumerate" p) [e] [] pos) (iNumX X.K ta) := by
  constructor
  intro pins s0 τ H R I h
  refine Call_ (ld_blt I hg hm boot_enumerate (callWith_type1 (thn (ha.run pos pins s0 τ H _ I h) fun us s1 ⟨vs, H1, I1, rs, k, a, xs, ev, sq, q⟩ => ?_) hs rfl))
  subst ev
  cases rs with
  | cons ra rr =>
  cases rr
  cases ra
  obtain ⟨its, vals, at1⟩ := seq_at I1 sq
  obtain ⟨en, it, kp⟩ := henum_at (k := k) (g := s1.heap) (l := a)
  have al : a < s1.heap.objs.size := at1.lt
  refine call_enumX at1 (wpAny_pyIter_enum en ⟨s1.heap.objs.size + 1, [s1.heap.objs.size + 1, s1.heap.objs.size], _, _, H1, rfl, I1.kept (t' := s1.toks) kp, turn_enumX k a _ _, ⟨⟨_, en⟩, it, Nat.succ_ne_self _, Nat.ne_of_gt (Nat.lt_succ_of_lt al), Nat.ne_of_lt al⟩, fun c hc => ?_, q⟩)
  have ge : s1.heap.objs.size ≤ c := by
    rcases (by simpa using hc : c = s1.heap.objs.size + 1 ∨ c = s1.heap.objs.size) with rfl | rfl
    · exact Nat.le_succ _
    · exact Nat.le_refl _
  exact I1.fpOk ge (I1.hok.fresh ge)
def enumX : List D → M (List D)
  | [d] => seqOf d >>= fun ds => pure (enumD ds)
  | _ => M.stuck
theorem di_enumX {X : Cx} {E : XK} {e : Expr} {fs : DenL} {p pos tpos : Pos} {elts : List Expr} {kk : Nat} (hg : Gl X "enumerate") (hm : X.mg "enumerate" = none) (ha : PL X E [e] fs) (hs : starEach [e] X.env = [(false, eval e X.env)] := by rfl) :
    PDI X E (.Tuple elts kk tpos) (.Call (.Name "enumerate" p) [e] [] pos) (fun ρ => fs ρ >>= enumX) := PI.imp (pi_enumX hg hm ha hs) fun σ H R h => by
  obtain ⟨o, ρ, st, he, so, h⟩ := h
  refine ⟨o, ρ, st, he, so, ?_⟩
  refine (wpR.bind.mp h).mono (fun ds st1 h1 vs H1 o1 l s1 r => ?_) fun _ _ x => x
  match ds, r, h1 with
  | [], _, h1 => exact False.elim h1
  | d :: _ :: _, _, h1 => exact False.elim h1
  | [d], r, h1 =>
    obtain ⟨v, rfl, rv⟩ := r.one_of
    have h1' : wpR ((seqOf d >>= fun ds => pure (enumD ds)) st1) (IOk X.K H o R) (XOk X.K E H o) := h1
    obtain ⟨k, as, a, xs, rfl, sa, ra, ka, h2⟩ := seqOf_wp rv (wpR.bind.mp h1')
    refine ⟨k, a, xs, rfl, sa, (show IOk X.K H o R (enumD as) st1 from h2) _ H1 o1 l s1 ?_⟩
    intro H2 o2 st2 lr s2
    obtain ⟨xs2, sa2, ra2⟩ := ka H2 o2 lr.rep
    refine ⟨⟨xs2, sa2, by rw [ra2.length]; simp [enumD]⟩, fun i d hd => ?_⟩
    unfold enumD at hd
    rw [List.getElem?_map] at hd
    obtain ⟨⟨x, y⟩, hz, rfl⟩ := Option.map_eq_some_iff.mp hd
    obtain ⟨hx, rfl⟩ : as[i]? = some x ∧ y = i := by
      rw [List.getElem?_zipIdx] at hz
      obtain ⟨x', hx', e⟩ := Option.map_eq_some_iff.mp hz
      cases e
      exact ⟨hx', by simp⟩
    obtain ⟨u, hu, ru⟩ := ra2.get hx
    refine ⟨⟨xs2, u, sa2, hu⟩, fun v H3 y => ?_⟩
    obtain ⟨T, x0, rfl, hT, rfl, e1⟩ := y
    have q1 := e1 _ sa2
    rw [hu] at q1
    cases q1
    refine ⟨.inr ⟨T, _, hT, rfl⟩, ?_⟩
    exact Rep.newTup s2 hT ⟨_, _, rfl, rfl, u, _, rfl, ru, rfl⟩
@[simp] abbrev iEnumT (fs : DenL) : DenI := fun ρ => fs ρ >>= enumX
end MP

namespace MP
open PySem L2
open PySem.Spec PyProof.Rows
/-! ## exceptions: raise, try with clauses that return constants -/
structure ExF (K : Frag) (mg : Str → Option Value) (x : Str) : Prop where
  q : PySem.W.excIn K (He.ga K x) He.veBase "ValueError.__new__" = true
  kC : PySem.W.keepIn K (.ref (He.ga K x)) = true
  sub : PySem.W.subIn K (.ref (He.ga K x)) (.type "BaseException") = some true
  ty : PySem.W.typeIn K (.ref (He.ga K x)) = some (.type "type")
  gC : mg x = some (.ref (He.ga K x))
def dRaise (c : Str) : DenS := fun _ => M.raise ⟨c, none⟩
section
variable {K : Frag} {E : XK} {H H' : Hp} {o o' : Lo} {st : Store} {X : Cx} {k : Nat} {x : Str}
theorem pds_raise {m : Str} {j : Nat} {p p2 pos pos' : Pos} (hc : X.calm = true) (ck : Cok X E k) (F : ExF X.K X.mg x) (hg : Gl X x) (hdb : (x == ("__debug__" : Str)) = false := by decide) :
    PDS X E (.Raise (some (.Call (.Name x p) [.Constant (.str m) j p2] [] pos)) none pos') (dRaise x) :=
  PS.imp (L2.ps_raise hc ck.takes (L2.pmk_own PySem.F.excBase_ValueError F.q F.gC F.kC (raises_own F.sub F.ty) hg hdb)) fun D σ H h => by
    obtain ⟨o, ρ, st, he, so, h⟩ := h
    exact h H o _ none (Le.refl _ _) so ⟨rfl, rfl⟩
def dTryC (cs : List Str) (sub : Str → Str → Bool) (b : DenS) (hs : List (Str × D)) : DenS := fun ρ st => match b ρ st with
  | .exn e st' => if cs.contains e.cls then (match hs.find? fun h => sub e.cls h.1 with
    | some h => .ok (.rt h.2) st'
    | none => .exn e st') else .stuck
  | r => r
def subX (c h : Str) : Bool := c == h || h == "DragError"
theorem exm_of {c h : Str} {b : Bool} (e : PySem.W.exmOne K (.ref (He.ga K c)) (.ref (He.ga K h)) = some b) (s : subX c h = b) : PySem.W.exmOne K (.ref (He.ga K c)) (.ref (He.ga K h)) = some (subX c h) := by rw [s]; exact e
def hdL (K : Frag) (hs : List (Str × D)) : List (Value × (Addr → Value → Option Addr → TS)) := hs.map fun h => (.ref (He.ga K h.1), fun _ _ _ => tS K EX0 (dRet (dC h.2)))
theorem Cok.tr {pn : List (Addr × Obj)} {xe : Value → Shared → Prop} {W : WX} (ck : Cok X E k) (tk : Takes (X.tr pn xe) W) : Cok (X.tr pn xe) (fun cls d H => ∀ σ, W cls d σ H) k :=
  ⟨ck.room, passes_call (X := X.tr pn xe) (W := W) tk fun _ _ σ _ h => h σ, tk.imp fun _ _ σ _ h => h σ⟩
theorem hd_cons {hs : List (Str × D)} {d : D} {b₀ : Stmt} {suite : List Stmt} {np pos' : Pos} {hds : List ExceptHandler} (F : ExF X.K X.mg x) (hg : Gl X x) (hdb : (x == ("__debug__" : Str)) = false)
    (hsu : ∀ (a : Addr) (pn : List (Addr × Obj)), PDSs (X.suite a pn) EX0 (b₀ :: suite) (dRet (dC d))) (r : HdsOk X hds (hdL X.K hs)) :
    HdsOk X (.ExceptHandler (some (.Name x np)) none (b₀ :: suite) pos' :: hds) (hdL X.K ((x, d) :: hs)) :=
  .cons ⟨hg, hdb, .inl F.gC⟩ (fun a oe _ _ pn _ _ => hsu a ((a, oe) :: pn)) r
theorem many_of {cs : List Str} {sub : Str → Str → Bool} {D : Ends} {c : Str} {dd : Option Addr} {σ : L2.St} (hc : c ∈ cs) : ∀ {hs : List (Str × MP.D)}, (∀ c ∈ cs, ∀ h ∈ hs, PySem.W.exmOne K (.ref (He.ga K c)) (.ref (He.ga K h.1)) = some (sub c h.1)) →
    (match hs.find? fun h => sub c h.1 with
      | some h => ∃ o st, StOk K H o st ∧ VOk K H o D.rt h.2 st
      | none => E (.ref (He.ga K c)) dd H) → wMany K (fun cls d _ H => E cls d H) D (hdL K hs) (.ref (He.ga K c)) dd σ H
  | [], _, h => h
  | (y, d) :: hs, hx, h => by
    have h1 := hx c hc (y, d) List.mem_cons_self
    refine ⟨sub c y, h1, fun hb a _ => ?_, fun hb => ?_⟩
    · rw [List.find?_cons_of_pos (by simpa using hb)] at h
      obtain ⟨o, st, so, hv⟩ := h
      exact ⟨o, List.replicate σ.length none, st, ⟨by simp, fun i d' q => by
        rw [List.getElem?_replicate] at q
        split at q <;> cases q⟩, so, hv⟩
    · rw [List.find?_cons_of_neg (by simpa using hb)] at h
      exact many_of hc (fun c hc h' hh => hx c hc h' (List.mem_cons_of_mem _ hh)) h
theorem pds_try {body : List Stmt} {h₀ : ExceptHandler} {hds : List ExceptHandler} {pos : Pos} {cs : List Str} {sub : Str → Str → Bool} {b : DenS} {hs : List (Str × D)} (ck : Cok X E k) (h1 : X.stack = X.env :: X.outer) (h2 : X.env.frame = some X.env.locals)
    (hb : ∀ (pn : List (Addr × Obj)) (xe : Value → Shared → Prop) (E' : XK), Cok (X.tr pn xe) E' k → PDSs (X.tr pn xe) E' body b) (hh : HdsOk X (h₀ :: hds) (hdL X.K hs))
    (hx : ∀ c ∈ cs, ∀ h ∈ hs, PySem.W.exmOne X.K (.ref (He.ga X.K c)) (.ref (He.ga X.K h.1)) = some (sub c h.1)) :
    PDS X E (.Try body (h₀ :: hds) [] [] pos) (dTryC cs sub b hs) :=
  PS.imp (ps_try_many (tb := fun W => tS X.K (fun cls d H => ∀ σ, W cls d σ H) b) h1 h2 ck.takes (fun W pn xe tk _ => hb pn xe _ (ck.tr tk)) hh) fun D σ H h => by
    obtain ⟨o, ρ, st, he, so, h⟩ := h
    refine ⟨o, ρ, st, he, so, ?_⟩
    have h' : wpR (match b ρ st with
      | .exn e st' => if cs.contains e.cls then (match hs.find? fun h => sub e.cls h.1 with
        | some h => R.ok (Fl.rt h.2) st'
        | none => .exn e st') else .stuck
      | r => r) (FOk X.K H o D) (XOk X.K E H o) := h
    cases hr : b ρ st with
    | ok r st' => rw [hr] at h'; exact h'
    | stuck => rw [hr] at h'; exact h'
    | exn e st' =>
      rw [hr] at h'
      simp only at h'
      split at h'
      · rename_i hc
        intro H' o' c d le so' ex σ'
        obtain ⟨rfl, _⟩ := id ex
        refine many_of (by simpa using hc) hx ?_
        cases hf : hs.find? fun h => sub e.cls h.1 with
        | none =>
          rw [hf] at h'
          exact h' H' o' _ d le so' ex
        | some hh =>
          rw [hf] at h'
          have hv : VOk X.K H o D.rt hh.2 st' := h'
          exact ⟨o', st', so', hv.mono le⟩
      · exact False.elim h'
/-! ### y in x, x == (a tuple), x an instance -/
def inC (neg : Bool) (c : Str) (p : List D → M D) : D → D → M D := fun x y st => match msAt [(c, p)] st y with
  | some (_, p) => (p [y, x] >>= fun r => match r with
    | .bl b => pure (.bl (if neg then !b else b))
    | _ => M.stuck) st
  | none => .stuck
theorem od_inC {neg : Bool} {c : Str} {j : Nat} {p : List D → M D} (ck : Cok X E k) (C : ClsF X.K c) (F : CalM X.prog X.w X.K X.mg X.base j c "__contains__" 2 p) (hj : j + 2 ≤ k) : OpD X E (compareOp (if neg then .NotIn else .In)) (inC neg c p) := by
  intro pins s σ H x y v u Q I rx ry h
  obtain ⟨dx, dy, o, st, r1, r2, so, hw⟩ := h
  unfold inC at hw
  cases e : msAt [(c, p)] st dy with
  | none => rw [e] at hw; exact False.elim hw
  | some z =>
    obtain ⟨c', p'⟩ := z
    rw [e] at hw
    obtain ⟨n, a, dx', vs, rfl, rfl, ea, C', F'⟩ := ms_of r2 so (MsOk.cons C F .nil) e
    obtain ⟨f, G, hme, hf⟩ := F'.ex
    obtain ⟨mA, O, _⟩ := ins_get I.hok ea
    obtain ⟨od, J, _⟩ := O.look
    obtain ⟨mm, hF⟩ := I.fr
    cases (show u = Value.ref a from ry)
    have hr1 : Room j X.A := ck.room.mono (by omega)
    have hw2 : spD X.K 2 p' [V.ref a, x] H (fun z H' => ∃ b, z = .bl b ∧ Q (.bl (if neg then !b else b)) H') E := spD_of (ds := [.ref n, dx]) rfl so ⟨_, _, rfl, r2, _, _, rfl, r1, rfl⟩ ((wpR.bind.mp hw).mono (fun d st1 h1 v1 H1 o1 l1 s1 r1 => by
      cases d with
      | bl b => exact ⟨b, r1, (show VOk X.K H o Q (.bl (if neg then !b else b)) st1 from h1) _ H1 o1 l1 s1 rfl⟩
      | _ => exact False.elim h1) fun _ _ x => x)
    have key : wpAny (model X.prog X.w) X.A (call (.ref f) [.ref a, v]) (fun w s' => ∃ b H', w = .bool b ∧ Inv X pins σ H' s' ∧ Q (.bl (if neg then !b else b)) H') X.xe s := by
      refine wpAny_mono (run_R (us := [.ref a, v]) (vs := [.ref a, x]) ck G (by omega) I (.cons rfl (.cons rx .nil)) hw2) (fun w s' z => ?_) fun _ _ x => x
      obtain ⟨z', H', I', rz, b, eb, qz⟩ := z
      subst eb
      exact ⟨b, H', rz, I', qz⟩
    cases neg with
    | false =>
      refine PySem.W.in_K hF I.ok.mod.kin J hme.at_ hme.fn (wpAny_mono key (fun w s' z => ?_) fun _ _ x => x)
      obtain ⟨b, H', rfl, I', qz⟩ := z
      exact wpAny_pure ⟨.bl b, H', I', rfl, qz⟩
    | true =>
      refine PySem.W.notIn_K hF I.ok.mod.kin J hme.at_ hme.fn (wpAny_mono key (fun w s' z => ?_) fun _ _ x => x)
      obtain ⟨b, H', rfl, I', qz⟩ := z
      exact wpAny_pure ⟨.bl (!b), H', I', rfl, qz⟩
def opCT (c : Str) (p : List D → M D) : D → D → M D := fun x y st => match msAt [(c, p)] st x with
  | some (_, p) => (match y with
    | .tup ds => p [x, .tup ds] st
    | _ => .stuck)
  | none => .stuck
theorem sub_tup {K : Frag} {C : Addr} : PySem.W.subIn K (.type "tuple") (.ref C) = some false := by kernel_rfl
theorem od_cmpCT {op : CmpOp} {x : Str} {c : Str} {j : Nat} {p : List D → M D} (hop : ∀ a b, compareOp op a b = richCompare op a b) (hn : (cmpInfo op).2.1 = x) (ck : Cok X E k) (C : ClsF X.K c) (F : CalM X.prog X.w X.K X.mg X.base j c x 2 p) (hj : j ≤ k) : OpD X E (compareOp op) (opCT c p) := by
  intro pins s σ H x y v u Q I rx ry h
  obtain ⟨dx, dy, o, st, r1, r2, so, hw⟩ := h
  unfold opCT at hw
  cases e : msAt [(c, p)] st dx with
  | none => rw [e] at hw; exact False.elim hw
  | some z =>
    obtain ⟨c', p'⟩ := z
    rw [e] at hw
    cases dy with
    | tup ys =>
      obtain ⟨n, a, dx', vs, rfl, rfl, ea, C', F'⟩ := ms_of r1 so (MsOk.cons C F .nil) e
      obtain ⟨f, G, hme, hf⟩ := F'.ex
      obtain ⟨mA, O, _⟩ := ins_get I.hok ea
      obtain ⟨od, J, _⟩ := O.look
      obtain ⟨mm, hF⟩ := I.fr
      obtain ⟨P, Z, hP, _⟩ := kit_of I ry (Rep.ty r2 rfl)
      cases (show v = Value.ref a from rx)
      rw [hop]
      have hnf : PySem.W.notFirst X.K (He.ga X.K c') (.type "tuple") = true := by
        unfold PySem.W.notFirst
        rw [sub_tup]
        simp
      refine PySem.W.cmp_K (op := op) (tb := .type "tuple") ck.room.units0 hF I.ok.mod.kin J (Z.ty _ _ I.kIn hP) hnf (by rw [hn]; exact hme.at_) hme.fn ?_
      refine wpAny_mono (run_R (us := [.ref a, u]) (vs := [.ref a, y]) ck G hj I (.cons rfl (.cons ry .nil)) (spD_of (ds := [.ref n, .tup ys]) rfl so ⟨_, _, rfl, r1, _, _, rfl, r2, rfl⟩ hw)) (fun w s' z => ?_) fun _ _ x => x
      obtain ⟨z', H', I', rz, qz⟩ := z
      exact SlX.cmpback rz ⟨z', H', I', rz, qz⟩
    | _ => exact False.elim hw
/-! ### a constant of an own class -/
structure CAt (K : Frag) (mg : Str → Option Value) (c f : Str) (d : D) : Prop where
  g : mg c = some (.ref (He.ga K c))
  ex : ∃ u v, PySem.W.readsIn K (He.ga K c) (.type "type") = true ∧ PySem.W.findCls K (.ref (He.ga K c)) (.type "type") f = some (.val u) ∧ PySem.W.handedIn u = true ∧ RelV v u ∧ Grd K d v
theorem pd_cat {c f : Str} {d : D} {p pos : Pos} (hg : Gl X c) (A : CAt X.K X.mg c f d) (hdb : (c == ("__debug__" : Str)) = false) (hb : attributeBase (.Name c p) f X.env (eval (.Name c p) X.env) = eval (.Name c p) X.env) : PD X E (.Attribute (.Name c p) f pos) (dC d) := by
  obtain ⟨u, v, h1, h2, h3, r, gr⟩ := A.ex
  refine pd_const (v := v) ⟨fun pins s σ H Q I h => ?_⟩ gr
  refine attr_of hb (ld_glob I hg A.g ?_ hdb)
  exact PySem.W.cls_value I.kIn h1 h2 h3 ⟨v, H, I.tok _, r, h⟩
theorem cat_of {mg : Str → Option Value} {h : Heap} {c f : Str} {zs : List Str} (Xi : K.In h) (G : h.Ns mainGlobals mg) (g : (He.Fa.glo c).ok K = true) (t : catB c f zs K = true) : CAt K mg c f (.tup (zs.map D.str)) := by
  refine ⟨He.glo_ok Xi G g, ?_⟩
  unfold catB at t
  obtain ⟨h1, t⟩ := Bool.and_eq_true_iff.mp t
  cases q : PySem.W.findCls K (.ref (He.ga K c)) (.type "type") f with
  | none => rw [q] at t; cases t
  | some r =>
    rw [q] at t
    cases r with
    | val u =>
      cases u with
      | ref a =>
        obtain ⟨h3, t⟩ := Bool.and_eq_true_iff.mp t
        refine ⟨.ref a, .ref a, h1, rfl, h3, rfl, fun H o => ?_⟩
        have e : (zs.map He.Dv.str).map (He.Dv.v K) = zs.map V.str := by rw [List.map_map]; rfl
        have s : SqT K (fun _ => none) a ((zs.map He.Dv.str).map (He.Dv.v K)) := by
          cases q2 : K.lookup a with
          | none => rw [q2] at t; cases t
          | some ob =>
            obtain ⟨oc, od, dt, osl⟩ := ob
            rw [q2] at t
            cases oc with
            | type ty =>
              cases od with
              | none =>
                cases dt with
                | seq its n =>
                  obtain ⟨h4, t⟩ := Bool.and_eq_true_iff.mp t
                  obtain ⟨h5, h6⟩ := Bool.and_eq_true_iff.mp t
                  exact .inr ⟨_, its, n, q2, congrArg Value.type (of_decide_eq_true h4), rfl, of_decide_eq_true h5, He.relAll_ok h6⟩
                | _ => cases t
              | some _ => cases dt <;> cases t
            | _ => cases od <;> cases dt <;> cases t
        rw [e] at s
        rcases s with s | s
        · rcases s with s | ⟨_, s⟩ <;> cases s
        · exact ⟨_, _, rfl, .inr s, Reps.ofStrs zs⟩
      | _ => cases t
    | _ => cases t
theorem exF_of {mg : Str → Option Value} {h : Heap} {x : Str} (Xi : K.In h) (G : h.Ns mainGlobals mg) (g : (He.Fa.glo x).ok K = true) (e : (He.Fa.exc x).ok K = true) : ExF K mg x :=
  let ⟨a, b, c, d⟩ := He.exc_ok e
  ⟨a, b, c, d, He.glo_ok Xi G g⟩
theorem od_in0 {c : Str} {j : Nat} {p : List D → M D} (ck : Cok X E k) (C : ClsF X.K c) (F : CalM X.prog X.w X.K X.mg X.base j c "__contains__" 2 p) (hj : j + 2 ≤ k) : OpD X E (compareOp .In) (inC false c p) := od_inC (neg := false) ck C F hj
theorem od_in1 {c : Str} {j : Nat} {p : List D → M D} (ck : Cok X E k) (C : ClsF X.K c) (F : CalM X.prog X.w X.K X.mg X.base j c "__contains__" 2 p) (hj : j + 2 ≤ k) : OpD X E (compareOp .NotIn) (inC true c p) := od_inC (neg := true) ck C F hj
end
end MP

set_option maxHeartbeats 2000000
/-! an own exception's __init__: super().__init__(text), self.f = x -/
namespace MP
open PySem L2
open PySem.Spec PyProof.Rows
/-- its promise -/
def supSp (K : PySem.W.Frag) (C : Addr) (fn : Str) : Sp := fun vs H Q _ => ∃ (a : Addr) (v : V), vs = [.ref a, v] ∧ H a = some (exo a C none) ∧ ∀ dx, H dx = none → dx ≠ a → Q .non (upd (upd H dx (exd dx [(fn, v)])) a (exo a C (some dx)))
theorem fn_sup {CX : CXT} {P : Program} {w : World} {K : PySem.W.Frag} {mg : Str → Option Value} {base : Heap} {k : Nat} {f C cc cda : Addr} {name qual fn m : Str} {params : Arguments} {body : List Stmt} {scope : Scope} {dV kV doc pm ct oc ccl cl : Value} {an od cdd cld : Option Addr}
    {osl ccs csl : Array (Option Value)} {vs0 : Array Value} {file : Str} {tf : Tok} {ar : Arg} {p0 p1 p2 p3 p4 p5 q1 q2 q3 q4 : Pos} {j : Tok}
    (lk : K.lookup f = some ⟨oc, od, .func (PySem.W.ksFn name qual params body scope dV kV doc pm an (.ref cda) ct cc), osl⟩) (hcd : PySem.W.codeIn K (.ref cda) qual = true)
    (hp : (params.posonlyargs ++ params.args).head? = some ar) (har : ar.arg = ("self" : Str))
    (hcode : K.lookup cda = some ⟨ccl, cdd, .fields vs0, ccs⟩) (hvs : vs0[2]? = some (.str file tf)) (hfile : ((P.main.file : Str) == file) = true)
    (hcell : K.lookup cc = some ⟨cl, cld, .cell (some (.ref C)), csl⟩) (T : OexC K C) (hsub : PySem.W.mroIn K C (.ref C) = some true) (hm : mg "super" = none)
    (hsup : PySem.W.ks_superIn K C C "__init__" = some (some (.builtin "ValueError.__init__"))) (hB : PySem.W.subIn K (.ref C) (.type "ValueError") = some true) (hop : PySem.W.nsIn K cStatics "thirdparty.any" = some none)
    (hno : PySem.W.findIn K (.ref C) fn = some none)
    (hks : scope.names.lookup ("super" : Str) = some .globalImplicit) (hkc : scope.names.lookup ("__class__" : Str) = some .free) (hka : scope.names.lookup ("self" : Str) = some .local) (hkl : scope.names.lookup fn = some .local) (hfn : ("self" : Str) ≠ fn) (hdb : (fn == ("__debug__" : Str)) = false)
    (hk : scope.kind = .function) (hco : scope.isCoroutine = false) (hgen : scope.isGenerator = false) (hcel : ∀ x ∈ scope.names, x.2 ≠ .cell)
    (htop : (P.main.scope.names.lookup ("super" : Str)).isSome = false)
    (hev : ∀ env : PySem.Env, ∃ pl : Sem Bool, eval (.Call (.Attribute (.Call (.Name "super" p0) [] [] p1) "__init__" p2) [.Constant (.str m) j p3] [] p4) env = (do
      let ov ← attributeBase (.Call (.Name "super" p0) [] [] p1) "__init__" env (eval (.Call (.Name "super" p0) [] [] p1) env)
      standAt p2.atName
      let (f, first) ← holding [ov] (getMethod ov "__init__" pl)
      callWith p4 f first (backTo p4 (starEach [.Constant (.str m) j p3] env)) []))
    (hb0 : body = [.Expr (.Call (.Attribute (.Call (.Name "super" p0) [] [] p1) "__init__" p2) [.Constant (.str m) j p3] [] p4) p5, .Assign [.Attribute (.Name "self" q1) fn q2] (.Name fn q3) q4]) :
    FnOk P w K mg base CX (k + 1) f (PySem.W.ksFn name qual params body scope dV kV doc pm an (.ref cda) ct cc) ["self", fn] (supSp K C fn) := by
  refine ⟨fun vs H Q E h => ?_, fun A outer s H args us vs Q E hr e0 hb r hsp => ?_⟩
  · obtain ⟨a, v, e, _⟩ := h
    rw [e]
    rfl
  obtain ⟨a, v, rfl, ea, hq⟩ := hsp
  obtain ⟨u, rfl, rv⟩ : ∃ u, us = [.ref a, u] ∧ RelV v u := by
    cases r with
    | cons r1 r2 =>
      cases r2 with
      | cons r3 r4 =>
        cases r4
        cases r1
        exact ⟨_, rfl, r3⟩
  have KX : K.In s.heap := e0.mod.kin.keeps fun b o e => (e0.bs b o e).1
  have lim : s.heap.NoLimit := e0.mod.nolimit.keeps fun b o e => (e0.bs b o e).1
  obtain ⟨t1, ho⟩ := exo_at e0.hok ea
  obtain ⟨mb, hmb, hmb2⟩ := e0.mod.blt
  subst hb0
  obtain ⟨nm, qn, N0, bs, bm, sn, sub, ab, col, dd, k0, k1, k2, k3, k5, hC, hbm⟩ := T.cls
  have hcl : PySem.W.clsIn K C = some { name := nm, bases := bs, mro := .ref C :: bm, ns := N0, qualname := qn, hasDict := true, slotNames := sn, subclasses := sub, abstract := ab, collection := col, hasDel := false } := by unfold PySem.W.clsIn; rw [hC] <;> rfl
  refine PySem.ks_codeAny_call_defAt hr.depth (KX _ _ lk) rfl lim (PySem.W.codeRec_of KX hcd) rfl hb hcel (fun y hy => ?_) (fun h₀ hns kp => ?_) hco hgen hk
  · simp at hy
    rcases hy with rfl | rfl
    · exact hka
    · exact hkl
  have KX0 : K.In h₀ := KX.keeps kp
  have hL : ∀ b o, base.get? b = some o → h₀.get? b = some o := fun b o e => kp b o (e0.bs b o e).1
  have he0 := kp _ _ ho
  have hC0 : h₀.get? C = some _ := KX0 _ _ hC
  have hxC : a ≠ C := by
    rintro rfl
    rw [hC0] at he0
    cases he0
  have IA : PySem.W.InstAt h₀ a { cls := .ref C, data := .fields #[.ref t1, .none, .none, .none, .bool false, .none] } C none := ⟨he0, rfl, rfl, trivial⟩
  obtain ⟨pl, hpl⟩ := hev (PySem.W.ksEnv qual scope s.heap.objs.size f (.ref cda) cc)
  refine PySem.ks_wpAt_execs_cons (PySem.ks_wpAt_Expr_any (PySem.ks_wpAt_MethodCall (h := ?_) (he := hpl)) (by unfold interactive; show (scope.kind == .module && _) = false; rw [hk]; rfl) rfl)
  refine PySem.ks_wpAt_super_base (env := PySem.W.ksEnv qual scope s.heap.objs.size f (.ref cda) cc) hks hkc (by decide +kernel) rfl (KX0 _ _ lk) rfl hp rfl (KX0 _ _ hcode) rfl hvs hfile htop ?_
  have hls : ((["self", fn] : List Str).zip [Value.ref a, u]).reverse.lookup ("self" : Str) = some (.ref a) := by
    show List.lookup ("self" : Str) [(fn, u), (("self" : Str), Value.ref a)] = _
    have e1 : (("self" : Str) == fn) = false := by simpa using hfn
    simp [List.lookup, e1]
  have hll : ((["self", fn] : List Str).zip [Value.ref a, u]).reverse.lookup fn = some u := by
    show List.lookup fn [(fn, u), (("self" : Str), Value.ref a)] = _
    simp [List.lookup]
  have hbs : bootBuiltins "super" = some (.type "super") := PyProof.Rows.Boot.«super»
  refine PySem.W.ks_loadName_global hk hks (PySem.Calls.loadGlobal_builtin (env := PySem.W.ksEnv qual scope s.heap.objs.size f (.ref cda) cc) (e0.mod.glob.keeps hL) hm (hmb.keeps hL) ((hmb2 _ (by decide +kernel)).trans hbs) ⟨rfl, ?_⟩)
  refine wpAny_loadName_free hk hkc rfl ⟨_, KX0 _ _ hcell, rfl⟩ ?_
  rw [har]
  refine wpAny_loadName_local hk hka hns hls ?_
  refine PySem.ks_wpAny_isType_cls hC0 rfl ⟨rfl, ?_⟩
  refine PySem.ks_wpAny_call_super hC0 rfl he0 rfl (fun c e => by cases e) (PySem.W.looks_mroIn KX0 hsub) (fun h1 hso k1' => ?_)
  have KX1 : K.In h1 := KX0.keeps k1'
  have he1 := k1' _ _ he0
  have hC1 := k1' _ _ hC0
  have IA1 : PySem.W.InstAt h1 a { cls := .ref C, data := .fields #[.ref t1, .none, .none, .none, .bool false, .none] } C none := ⟨he1, rfl, rfl, trivial⟩
  have hI : PySem.W.Looks (model P w) h1 (isInstance (.ref a) (.type "ValueError")) true := IA1.type.andThen (PySem.W.looks_subIn KX1 hB)
  have hal : PySem.W.alongIn K "__init__" (((Value.ref C :: bm).dropWhile (· != .ref C)).drop 1) = some (some (.builtin "ValueError.__init__")) := by
    have z := hsup
    unfold PySem.W.ks_superIn at z
    rw [hcl] at z
    exact z
  refine PySem.W.kxs_getMethod PySem.W.kxs_ValueError hso (PySem.W.looks_opaque KX1 hop) (l₀ := Value.ref C :: bm) (fun A Q E s k q => wpAny_bind ((PySem.W.looks_clsIn KX1 hcl) A _ E s k (wpAny_pure q))) rfl KX1 hal hI hxC (by decide) ?_
  have hmw : (h1.push (PySem.W.kxs_mw "ValueError.__init__" a)).get? h1.objs.size = some (PySem.W.kxs_mw "ValueError.__init__" a) := Heap.get?_push_size _ rfl
  have k2' : ∀ b o, h1.get? b = some o → (h1.push (PySem.W.kxs_mw "ValueError.__init__" a)).get? b = some o := fun b o e => Heap.get?_push_of_some _ e
  refine PySem.W.kxs_callWith (i := "ValueError.__init__") (x := a) rfl (PySem.Calls.evalArgs_plain ?_)
  refine PySem.Calls.spliced_cons (PySem.Calls.Constant_str (k := j) (pos := p3) (PySem.Calls.spliced_nil ⟨hmw, ?_⟩))
  have he2 := k2' _ _ he1
  have hC2 := k2' _ _ hC1
  refine wpAny_call (codeAny_of_tree ?_)
  show wpAny _ (Around.in1 _) (callAny (.ref h1.objs.size) ⟨[.str m _], []⟩) _ _ _
  simp only [callAny]
  refine wpAny_bind (wpAny_load hmw ?_)
  simp only [PySem.W.kxs_mw, show (Value.type "method-wrapper" == Value.type "method" || Value.type "method-wrapper" == Value.type "builtin_function_or_method" || Value.type "method-wrapper" == Value.type "method-wrapper") = true by decide, if_true]
  refine PySem.W.KFB.if_so (by decide) ?_
  refine wpAny_bind (PySem.W.check_bound_init PySem.F.excBase_ValueError.toExcCallFacts hC2 he2 rfl ?_)
  refine wpAny_bind (wpAny_pure (wpAny_pure ?_))
  refine ⟨plainId_quiet PySem.F.excBase_ValueError.init.plain _, codeAny_builtin PySem.F.excBase_ValueError.initEntry ?_⟩
  refine PySem.W.exc_init_tree (cls := .ref C) (t0 := t1) (dv := none) (c2 := .none) (c3 := .none) (b4 := .bool false) he2 (by show 1 ≤ sizeLine; rw [sizeLine_eq]; omega) (fun h3 kp3 he3 ht3 => ?_)
  have kA : ∀ b o, b ≠ a → s.heap.get? b = some o → h3.get? b = some o := fun b o n e => kp3 b o n (k2' _ _ (k1' _ _ (kp _ _ e)))
  have lt0 : a < s.heap.objs.size := Heap.lt_size ho
  obtain ⟨oL, es, ep, hL, hr2⟩ := hns
  have hL3 : h3.get? s.heap.objs.size = some oL := kp3 _ _ (Nat.ne_of_gt lt0) (k2' _ _ (k1' _ _ hL))
  have hns3 : h3.Ns s.heap.objs.size (fun x => ((["self", fn] : List Str).zip [Value.ref a, u]).reverse.lookup x) := ⟨oL, es, ep, hL3, hr2⟩
  have KX3 : K.In h3 := e0.mod.kin.keeps fun b o e => kA b o (fun z => by have := (e0.bs b o e).2; rw [z, ea] at this; cases this) (e0.bs b o e).1
  refine PySem.ks_wpAt_execs_cons (PySem.ks_wpAt_Assign_Attr (wpAt_of_wpAny (wpAny_Name (wpAny_loadName_local hk hkl hns3 hll (wpAny_Name (wpAny_loadName_local hk hka hns3 hls ?_) (by decide))) hdb)) ?_)
  · refine PySem.W.set_plain KX3 (ox := { cls := .ref C, dict := none, data := .fields #[.ref _, .none, .none, .none, .bool false, .none] }) (od := none) ⟨he3, rfl, rfl, trivial⟩ T.sa ?_
    refine PySem.HandSPX.exc_osa KX3 he3 hcl (show PySem.HandSPX.refsVE (.ref C :: bm) = true from hbm) rfl hno (fun h4 tk4 dx k4 dn dne hx4 hn4 => ?_)
    have hlt3 : s.heap.objs.size < h3.objs.size := Heap.lt_size hL3
    have kB : ∀ b o, b ≠ a → s.heap.get? b = some o → h4.get? b = some o := fun b o n e => k4 b o n (kA b o n e)
    have hnd : H dx = none := e0.hok.fresh (Nat.le_trans (Nat.le_of_lt hlt3) dn)
    have nd : ∀ {b : Addr} {o : Obj}, s.heap.get? b = some o → b ≠ dx := fun {b o} q => Nat.ne_of_lt (Nat.lt_of_lt_of_le (Heap.lt_size q) (Nat.le_trans (Nat.le_of_lt hlt3) dn))
    have na : ∀ {b : Addr}, H b = none → b ≠ a := fun {b} n z => by
      rw [z, ea] at n
      cases n
    refine wpAt_of_wpAny (wpAny_execs_nil ?_)
    show CE outer P w H s Q Value.none _
    refine ⟨.non, upd (upd H dx (exd dx [(fn, v)])) a (exo a C (some dx)), rfl, e0.bare, ?_, fun b o q => ?_, rfl, hq dx hnd dne⟩
    · exact {
        keep := fun b o q n _ _ => kB b o (na n) q
        slot := fun b o q n _ _ => ⟨o.slots, kB b o (na n) q⟩
        free := fun b o q n _ => by rw [upd_ne (na n), upd_ne (nd q)]; exact n
        there := fun b o q _ => by
          by_cases hb : b = a
          · exact ⟨_, by rw [hb]; exact hx4⟩
          · exact ⟨o, kB b o hb q⟩
        tups := fun b xs q => by rw [upd_ne (at_ne ea q exo_tup), upd_ne (ne_of_none q hnd)]; exact q
        frzs := fun b o v q => by rw [upd_ne (at_ne ea q exo_frz), upd_ne (ne_of_none q hnd)]; exact q
        tbls := fun b ps q => ⟨#[], by rw [upd_ne (at_ne ea q exo_tbl), upd_ne (ne_of_none q hnd), q]; simp⟩ }
    · by_cases hb : b = a
      · subst hb
        rw [upd_same] at q
        cases q
        exact exo_ok hx4
      · rw [upd_ne hb] at q
        by_cases hd : b = dx
        · subst hd
          rw [upd_same] at q
          cases q
          exact exd_ok hn4 (relO_put (fs := []) rv fun g => True.intro)
        · rw [upd_ne hd] at q
          exact (e0.hok b o q).stay (fun c v hc z => kB c v (by
              rcases hc with hc | hc
              · rw [hc]
                exact hb
              · exact at_ne ea hc exo_own) z)
            (fun c hc => by rw [upd_ne (at_ne ea hc exo_own), upd_ne (ne_of_none hc hnd)]; exact hc) (fun c xs hc => by rw [upd_ne (at_ne ea hc exo_tup), upd_ne (ne_of_none hc hnd)]; exact hc)
  · rfl
end MP

set_option maxHeartbeats 2000000
/-! what a head tells of such a class; raise C(e) -/
namespace MP
open PySem L2
open PySem.Spec PyProof.Rows
theorem clsVE_ok {K : PySem.W.Frag} {C : Addr} (h : clsVE K C = true) : ∃ nm q N bs bm sn sub ab col dd k0 k1 k2 k3 k5, K.lookup C = some (excClassObj nm q C N bs bm true sn sub ab col dd k0 k1 k2 k3 k5 "ValueError.__new__") ∧ PySem.HandSPX.refsVE bm = true := by
  unfold clsVE at h
  split at h
  · rename_i od cd sl ho
    split at h
    · rename_i C' bm k0 k1 k2 k3 n k5 hm hs
      simp only [Bool.and_eq_true, beq_iff_eq, Bool.not_eq_true'] at h
      obtain ⟨rfl, rfl, h3, h4, h5⟩ := h
      obtain ⟨nm, bs, mro, N, q, hd, sn, sub, ab, col, del⟩ := cd
      dsimp only at hm h3 h4
      subst hm h3 h4
      have e : sl = #[k0, k1, k2, k3, some (.builtin "ValueError.__new__"), k5] := Array.toList_inj.mp hs
      subst e
      exact ⟨nm, q, N, bs, bm, sn, sub, ab, col, od, k0, k1, k2, k3, k5, ho, h5⟩
    · cases h
  · cases h
theorem oexB_ok {K : PySem.W.Frag} {C : Addr} (h : oexB K C = true) : OexC K C := by
  unfold oexB at h
  simp only [Bool.and_eq_true, decide_eq_true_eq] at h
  obtain ⟨a, b, c, d, e⟩ := h
  exact ⟨clsVE_ok a, b, c, d, e⟩
/-! ### the __init__'s words -/
theorem sup_ev {m : Str} {p0 p1 p2 p3 p4 : Pos} {j : Tok} (h : p2.endLine = p4.line) (env : PySem.Env) : ∃ pl, eval (.Call (.Attribute (.Call (.Name "super" p0) [] [] p1) "__init__" p2) [.Constant (.str m) j p3] [] p4) env = (do
      let ov ← attributeBase (.Call (.Name "super" p0) [] [] p1) "__init__" env (eval (.Call (.Name "super" p0) [] [] p1) env)
      standAt p2.atName
      let (f, first) ← holding [ov] (getMethod ov "__init__" pl)
      callWith p4 f first (backTo p4 (starEach [.Constant (.str m) j p3] env)) []) := by
  refine ⟨(do return (← importBound (.Call (.Name "super" p0) [] [] p1) env).getD true), ?_⟩
  rw [arm_eval_Call]
  unfold methodCall methodCallPos
  have e : (p2.endLine == p4.line) = true := by rw [h]; exact beq_self_eq_true _
  simp only [e, Bool.or_true, if_true, pure_bind]
  rfl
/-- raising such a class, by what the layer needs -/
structure SupF (P : Program) (w : World) (K : PySem.W.Frag) (mg : Str → Option Value) (base : Heap) (k : Nat) (c fn : Str) : Prop where
  ex : ∃ f fd, OexC K (He.ga K c) ∧ PySem.W.findIn K (.ref (He.ga K c)) "__init__" = some (some (.ref f)) ∧ PySem.W.typeIn K (.ref f) = some (.type "function") ∧ FnOk P w K mg base (L2.CX P w) k f fd ["self", fn] (supSp K (He.ga K c) fn) ∧ Binds K fd ["self", fn] []
  gC : mg c = some (.ref (He.ga K c))
theorem supF_of {P : Program} {w : World} {K : PySem.W.Frag} {mg : Str → Option Value} {base : Heap} {c m : Str} (h : supB c "line" m P.main.file K = true) (gC : mg c = some (.ref (He.ga K c))) (hm : mg "super" = none)
    (htop : (P.main.scope.names.lookup ("super" : Str)).isSome = false) : SupF P w K mg base 1 c "line" := by
  unfold supB at h
  simp only [Bool.and_eq_true, decide_eq_true_eq] at h
  obtain ⟨h1, h2, h3, h4, h5, h6, h7⟩ := h
  split at h7
  · rename_i f hf
    simp only [Bool.and_eq_true, decide_eq_true_eq] at h7
    obtain ⟨h7, h8⟩ := h7
    unfold supFn at h8
    split at h8
    · rename_i oc od fd osl lk
      obtain ⟨name, qual, params, body, scope, gl, clo, dV, kV, doc, pm, an, cdv, ct, bn⟩ := fd
      simp only [Bool.and_eq_true, decide_eq_true_eq, beq_iff_eq] at h8
      obtain ⟨b1, b2, b3, b4, b5, b6, rfl, rfl, rfl⟩ := h8
      unfold supBody at b1
      split at b1
      · rename_i s p0 p1 i p2 m' j p3 p4 p5 se q1 a q2 b q3 q4
        simp only [Bool.and_eq_true, beq_iff_eq] at b1
        obtain ⟨rfl, rfl, rfl, rfl, rfl, rfl, bp⟩ := b1
        unfold supParams at b2
        split at b2
        · rename_i x1 an1 ps1 x2 an2 ps2 kd df
          simp only [Bool.and_eq_true, beq_iff_eq] at b2
          obtain ⟨rfl, e2⟩ := b2
          subst e2
          unfold supScope at b3
          simp only [Bool.and_eq_true, decide_eq_true_eq, Bool.not_eq_true'] at b3
          obtain ⟨c1, c2, c3, c4, c5, c6, c7, c8⟩ := b3
          unfold supClo at b4
          split at b4
          · rename_i x cc
            simp only [Bool.and_eq_true, beq_iff_eq] at b4
            obtain ⟨rfl, b4⟩ := b4
            split at b4
            · rename_i cl cld D csl hcell
              obtain rfl := beq_iff_eq.mp b4
              unfold supCode at b5
              split at b5
              · rename_i cda
                split at b5
                · rename_i ccl cdd vs ccs hcode
                  split at b5
                  · rename_i file tf hvs
                    refine ⟨⟨f, _, oexB_ok h1, hf, h7, fn_sup (k := 0) lk b6 rfl rfl hcode hvs b5 hcell (oexB_ok h1) h2 hm h3 h4 h5 h6 c1 c2 c3 c4 (by decide) (by decide) c5 c6 c7 (fun y hy => of_decide_eq_true (List.all_eq_true.mp c8 y hy)) htop (fun env => sup_ev bp env) rfl, .all fun us hl => ?_⟩, gC⟩
                    match us, hl with
                    | [u1, u2], _ => rfl
                  · cases b5
                · cases b5
              · cases b5
            · cases b4
          · cases b4
        · cases b2
      · cases b1
    · cases h8
  · cases h7
end MP

set_option maxHeartbeats 2000000
namespace MP
open PySem L2
open PySem.Spec PyProof.Rows
/-! ## raise C(e), C's own __init__ keeping e as .line -/
def dRaiseX (c : Str) (f : Den) : DenS := fun ρ => f ρ >>= fun d => M.raise ⟨c, some d⟩
section
variable {X : Cx} {E : XK} {k j : Nat} {c : Str}
theorem pds_raiseX {e : Expr} {f : Den} {p pos pos' : Pos} (hc : X.calm = true) (ck : Cok X E k) (F : SupF X.prog X.w X.K X.mg X.base j c "line") (hj : j + 1 ≤ k) (hg : Gl X c) (he : PD X E e f)
    (hdb : (c == ("__debug__" : Str)) = false := by decide) (hse : starEach [e] X.env = (false, eval e X.env) :: starEach [] X.env := by rfl) :
    PDS X E (.Raise (some (.Call (.Name c p) [e] [] pos)) none pos') (dRaiseX c f) := by
  obtain ⟨fI, fd, T, iC, tI, F1, hb⟩ := F.ex
  refine PS.imp (L2.ps_raise hc ck.takes (L2.pmk_oex (ds := []) (dvs := []) T iC tI F1 (ck.room.mono hj) hb .nil (fun pins σ H s e s' I cx => ?_) hg F.gC (pa_cons he pa_nil hse) hdb hse)) fun D σ H h => ?_
  · obtain ⟨_, _, _, _, _, _, _, _, _, _, _, _, hE⟩ := cx
    exact False.elim hE
  · obtain ⟨o, ρ, st, he, so, hw⟩ := h
    refine ⟨o, ρ, st, he, so, (wpR.bind.mp hw).mono (fun d st1 hx v H1 o1 l1 s1 r1 => ?_) fun _ _ x => x⟩
    have hx : XOk X.K E H o ⟨c, some d⟩ st1 := hx
    refine ⟨by simp, fun a ha => ⟨a, v, rfl, upd_same, fun dx hdx hne => ?_⟩⟩
    have hdx1 : H1 dx = none := by rw [upd_ne hne] at hdx; exact hdx
    refine ⟨rfl, dx, [("line", v)], upd_same, by rw [upd_ne hne]; exact upd_same, hdx1, ?_⟩
    have eH : upd (del (upd (upd (upd H1 a (exo a (He.ga X.K c) none)) dx (exd dx [("line", v)])) a (exo a (He.ga X.K c) (some dx))) a) dx (.xd [("line", v)]) = upd H1 dx (.xd [("line", v)]) := by
      funext b
      by_cases h1 : b = dx
      · subst h1
        rw [upd_same, upd_same]
      · rw [upd_ne h1, upd_ne h1]
        by_cases h2 : b = a
        · subst h2
          rw [del_same, ha]
        · rw [del_ne h2, upd_ne h2, upd_ne h1, upd_ne h2]
    rw [eH]
    exact hx _ o1 _ _ (l1.trans (Le.new hdx1)) (s1.new hdx1) ⟨rfl, dx, v, rfl, upd_same, (Le.new hdx1).rep d v r1⟩
end
end MP

set_option maxHeartbeats 2000000
namespace MP
open PySem L2
open PySem.Spec PyProof.Rows
/-! ## within an except suite: isinstance(e, x), e.line -/
theorem excB_ok {c : Str} {K : PySem.W.Frag} (h : excB c K = true) : ExcC K (He.ga K c) := by
  unfold excB at h
  simp only [Bool.and_eq_true, decide_eq_true_eq] at h
  obtain ⟨h1, h2, h3, h4, h5, h6, h7, h8⟩ := h
  exact ⟨h1, h2, h3, h4, h5, h6, h7, h8⟩
theorem xfC_of {K : PySem.W.Frag} {C : Addr} (h : ExcC K C) : XfC K C := ⟨h.hg, h.hk, h.hs, h.hd⟩
def rIsX (K : PySem.W.Frag) (C a : Addr) (dd : Option Addr) : List V → Hp → VK → Prop := fun xs H Q => ∃ (c : V) (cv : Value) (b : Bool), xs = [.ref a, c] ∧ (∀ u, RelV c u → u = cv) ∧ PySem.W.kitOne K (.ref C) cv = some b ∧ (∀ x, dd = some x → ∃ fs, H x = some (.xd fs)) ∧ Q (.bl b) H
theorem call_isX {X : Cx} {a C : Addr} {dd : Option Addr} {oe : Obj} {pn : List (Addr × Obj)} (T : ExcC X.K C) (hz : Zc (.ref C) dd oe) (hf : ∃ vs, oe.data = .fields vs) : CallR (X.suite a ((a, oe) :: pn)) (.builtin "isinstance") (rIsX X.K C a dd) := by
  intro pins s σ H xs us Q I r h
  obtain ⟨c, cv, b, rfl, hcv, e, hdd, q⟩ := h
  cases r with
  | cons rx rr =>
    cases rr with
    | cons rt rr =>
      cases rr
      cases rx
      obtain rfl := hcv _ rt
      have hget := (I.pin (a, oe) (List.mem_append.mpr (.inl List.mem_cons_self))).1
      have J : ∃ od, PySem.W.InstAt s.heap a oe C od := by
        obtain ⟨vs, hv⟩ := hf
        cases dd with
        | none => exact ⟨none, hget, hz.1, by unfold PySem.W.notCls; rw [hv] <;> rfl, by rw [hz.2]; trivial⟩
        | some dx =>
          obtain ⟨fs, hx⟩ := hdd dx rfl
          have hx : ObjOk X.prog X.w H s.heap dx (.xd fs) := I.hok dx _ hx
          obtain ⟨mA, hns, _⟩ := hx
          obtain ⟨od, ho, _⟩ := L2.lookIn_ns hns
          exact ⟨some od, hget, hz.1, by unfold PySem.W.notCls; rw [hv] <;> rfl, by rw [hz.2]; exact ho⟩
      obtain ⟨od, J⟩ := J
      have hcl : (PySem.W.clsIn X.K C).isSome = true := by
        have z := T.hd
        unfold PySem.W.hasDictIn at z
        cases e : PySem.W.clsIn X.K C with
        | none => rw [e] at z; cases z
        | some cd => rfl
      exact PySem.W.kia_one (PySem.W.kitx_exc hcl T.hg T.hk T.hs T.ha T.hn T.ht T.hm) I.kIn J e (fun z => nomatch z) fun tk => ⟨.bl b, H, I.kept (t' := tk) fun _ _ z => z, rfl, q⟩
/-! ## try: .. except C as e: return (None, e.line) if isinstance(e, B) else .. -/
def dTryLine (c : Str) (b : DenS) : DenS := fun ρ st => match b ρ st with
  | .exn e st' => if e.cls = c then (match e.arg with
    | some d => .ok (.rt (.tup [.non, d])) st'
    | none => .stuck) else .stuck
  | r => r
section
variable {X : Cx} {E : XK} {k j : Nat} {c bs n : Str} {i : Nat}
theorem Cok.trL {pn : List (Addr × Obj)} {xe : Value → Shared → Prop} {W : WX} (ck : Cok X E k) (tk : Takes (X.tr pn xe) W) : Cok (X.tr pn xe) (fun cls d H => ∀ σ, σ.length = X.N.length → W cls d σ H) k :=
  have tk' : Takes (X.tr pn xe) (fun cls d _ H => ∀ σ : L2.St, σ.length = X.N.length → W cls d σ H) := fun u s' ⟨a, B, sI, pins, σ, H, cls, d, e, I, nb, up, sky, na, os, ag, w⟩ =>
    tk u s' ⟨a, B, sI, pins, σ, H, cls, d, e, I, nb, up, sky, na, os, ag, w σ I.len⟩
  ⟨ck.room, passes_call (X := X.tr pn xe) (W := fun cls d _ H => ∀ σ : L2.St, σ.length = X.N.length → W cls d σ H) tk' fun _ _ _ _ h => h, tk'⟩
theorem pds_tryLine {body : List Stmt} {b : DenS} {np q1 q2 q3 q4 q5 q6 q7 q8 q9 q10 q11 q12 q13 pos pos' : Pos} {j1 j2 j3 : Nat} {cx1 cx2 : Nat} (ck : Cok X E k) (h1 : X.stack = X.env :: X.outer) (h2 : X.env.frame = some X.env.locals) (nd : X.N.Nodup) (hi : X.N[i]? = some n) (hln : X.env.kindOf n = some .local)
    (gC : X.mg c = some (.ref (He.ga X.K c))) (hgc : Gl X c) (gB : X.mg bs = some (.ref (He.ga X.K bs))) (hgb : Gl X bs) (hm : X.mg "isinstance" = none) (hgi : Gl X "isinstance") (T : ExcC X.K (He.ga X.K c)) (hno : PySem.W.findIn X.K (.ref (He.ga X.K c)) "line" = some none)
    (hx : PySem.W.exmOne X.K (.ref (He.ga X.K c)) (.ref (He.ga X.K c)) = some true) (hk : PySem.W.kitOne X.K (.ref (He.ga X.K c)) (.ref (He.ga X.K bs)) = some true)
    (hb : ∀ (pn : List (Addr × Obj)) (xe : Value → Shared → Prop) (E' : XK), Cok (X.tr pn xe) E' k → PDSs (X.tr pn xe) E' body b)
    (hd : (n == ("__debug__" : Str)) = false := by decide) (hcd : (n == ("__classdict__" : Str)) = false := by decide) (hdc : (c == ("__debug__" : Str)) = false := by decide) (hdb : (bs == ("__debug__" : Str)) = false := by decide) :
    PDS X E (.Try body [.ExceptHandler (some (.Name c np)) (some n) [.Return (some (.IfExp (.Call (.Name "isinstance" q1) [.Name n q2, .Name bs q3] [] q4) (.Tuple [.Constant .none j1 q5, .Attribute (.Name n q6) "line" q7] cx1 q8) (.Tuple [.Constant .none j2 q9, .Constant (.str "else") j3 q10] cx2 q11) q12)) q13] pos'] [] [] pos) (dTryLine c b) := by
  refine PS.imp (L2.ps_try_as (tb := fun W => tS X.K (fun cls d H => ∀ σ, σ.length = X.N.length → W cls d σ H) b) (ts := fun a cls d => fun D σ H => cls = .ref (He.ga X.K c) ∧ tRet (tIf (tB (tCB (rIsX X.K (He.ga X.K c) a d) (tCons (tVar i) (tCons (tC (.ref (He.ga X.K bs))) tNil)))) (tTup (tCons (tC .non) (tCons (tXf a cls d (He.ga X.K c) "line" (tVar i)) tNil))) (tTup (tCons (tC .non) (tCons (tC (.str "else")) tNil)))) D σ H)
    h1 h2 nd hi hln ⟨hgc, hdc, .inl gC⟩ ck.takes (fun W pn xe tk _ => hb pn xe _ (ck.trL tk)) (fun a oe cls d pn hz hf => ⟨fun pins s σ H D I h => ?_⟩)) fun D σ H h => ?_
  · obtain ⟨rfl, h⟩ := h
    have pv : ∀ {pos : Pos}, PE (X.suite a ((a, oe) :: pn)) (.Name n pos) (tVar i) := pe_var (X := X.suite a ((a, oe) :: pn)) hi (.inl hln) hd hcd
    refine (pss_one (ps_ret (pe_ifExp (pt_val (pe_callB (X := X.suite a ((a, oe) :: pn)) (call_isX T hz hf) hgi hm PyProof.Rows.Boot.«isinstance» (pa_cons pv (pa_cons (pe_glob (v := .ref (He.ga X.K bs)) hgb gB rfl hdb) pa_nil)))) (pe_tup (pa_cons pe_non (pa_cons (pe_xf (xfC_of T) hno hz hf pv) pa_nil))) (pe_tup (pa_cons pe_non (pa_cons pe_str pa_nil)))))).run pins s σ H D I h
  · obtain ⟨o, ρ, st, he, so, h⟩ := h
    refine ⟨o, ρ, st, he, so, ?_⟩
    have h' : wpR (match b ρ st with
      | .exn e st' => if e.cls = c then (match e.arg with
        | some d => R.ok (Fl.rt (.tup [.non, d])) st'
        | none => .stuck) else .stuck
      | r => r) (FOk X.K H o D) (XOk X.K E H o) := h
    cases hr : b ρ st with
    | ok r st' => rw [hr] at h'; exact h'
    | stuck => rw [hr] at h'; exact h'
    | exn e st' =>
      rw [hr] at h'
      simp only at h'
      split at h'
      · rename_i hc
        cases ha : e.arg with
        | none => rw [ha] at h'; exact False.elim h'
        | some d =>
          rw [ha] at h'
          have hv : VOk X.K H o D.rt (.tup [.non, d]) st' := h'
          intro H' o' cv dd le so' ex σ' hlen
          obtain ⟨rfl, ex⟩ := ex
          rw [ha] at ex
          obtain ⟨dx, v, rfl, hdx, rv⟩ := ex
          rw [hc]
          refine ⟨true, hx, fun _ a na => ⟨rfl, ?_⟩, fun z => by cases z⟩
          have hi' : i < σ'.length := by rw [hlen]; exact (List.getElem?_eq_some_iff.mp hi).1
          have hσ : (σ'.set i (some (V.ref a)))[i]? = some (some (.ref a)) := List.getElem?_set_self hi'
          refine ⟨.ref a, hσ, .ref (He.ga X.K bs), .ref (He.ga X.K bs), true, rfl, fun u z => z, hk, fun x z => by cases z; exact ⟨_, hdx⟩, true, rfl, ?_⟩
          refine ⟨.ref a, hσ, rfl, rfl, dx, _, v, rfl, hdx, rfl, (by show 2 ≤ sizeLine; rw [sizeLine_eq]; omega), fun p hp => ?_⟩
          exact hv (.ref p) _ o' (le.trans (Le.new hp)) (so'.new hp) (Rep.newTup so' hp ⟨.non, [v], rfl, rfl, v, [], rfl, rv, rfl⟩)
      · exact False.elim h'
end
end MP
namespace MP
open PySem L2
open PySem.Spec PyProof.Rows
theorem SupF.mono {P : Program} {w : World} {K : PySem.W.Frag} {mg : Str → Option Value} {base : Heap} {k j : Nat} {c fn : Str} (F : SupF P w K mg base k c fn) (h : k ≤ j) : SupF P w K mg base j c fn :=
  let ⟨f, fd, a, b, d, e, g⟩ := F.ex
  ⟨⟨f, fd, a, b, d, e.mono h, g⟩, F.gC⟩
structure TryL (K : PySem.W.Frag) (c bs : Str) : Prop where
  T : ExcC K (He.ga K c)
  no : PySem.W.findIn K (.ref (He.ga K c)) "line" = some none
  ex : PySem.W.exmOne K (.ref (He.ga K c)) (.ref (He.ga K c)) = some true
  kt : PySem.W.kitOne K (.ref (He.ga K c)) (.ref (He.ga K bs)) = some true
theorem tryL_of {c bs : Str} {K : PySem.W.Frag} (h : tryLB c bs K = true) : TryL K c bs := by
  unfold tryLB at h
  simp only [Bool.and_eq_true, decide_eq_true_eq] at h
  obtain ⟨h1, h2, h3, h4⟩ := h
  exact ⟨excB_ok h1, h2, h3, h4⟩
theorem pds_tryL {X : Cx} {E : XK} {k : Nat} {c bs n : Str} {i : Nat} {body : List Stmt} {b : DenS} {np q1 q2 q3 q4 q5 q6 q7 q8 q9 q10 q11 q12 q13 pos pos' : Pos} {j1 j2 j3 : Nat} {cx1 cx2 : Nat} (ck : Cok X E k) (h1 : X.stack = X.env :: X.outer) (h2 : X.env.frame = some X.env.locals) (nd : X.N.Nodup) (hi : X.N[i]? = some n) (hln : X.env.kindOf n = some .local)
    (gC : X.mg c = some (.ref (He.ga X.K c))) (hgc : Gl X c) (gB : X.mg bs = some (.ref (He.ga X.K bs))) (hgb : Gl X bs) (hm : X.mg "isinstance" = none) (hgi : Gl X "isinstance") (T : TryL X.K c bs)
    (hb : ∀ (pn : List (Addr × Obj)) (xe : Value → Shared → Prop) (E' : XK), Cok (X.tr pn xe) E' k → PDSs (X.tr pn xe) E' body b)
    (hd : (n == ("__debug__" : Str)) = false := by decide) (hcd : (n == ("__classdict__" : Str)) = false := by decide) (hdc : (c == ("__debug__" : Str)) = false := by decide) (hdb : (bs == ("__debug__" : Str)) = false := by decide) :
    PDS X E (.Try body [.ExceptHandler (some (.Name c np)) (some n) [.Return (some (.IfExp (.Call (.Name "isinstance" q1) [.Name n q2, .Name bs q3] [] q4) (.Tuple [.Constant .none j1 q5, .Attribute (.Name n q6) "line" q7] cx1 q8) (.Tuple [.Constant .none j2 q9, .Constant (.str "else") j3 q10] cx2 q11) q12)) q13] pos'] [] [] pos) (dTryLine c b) :=
  pds_tryLine ck h1 h2 nd hi hln gC hgc gB hgb hm hgi T.T T.no T.ex T.kt hb hd hcd hdc hdb
end MP

namespace LW
open PySem L2 MP
open PySem.Spec PyProof.Rows
abbrev fuelR : Nat := 70
abbrev fuelW : Nat := 100000
abbrev g_THINGS : D := .tup [.str "held", .str "place", .str "next"]
abbrev g_JOINTS : D := .tup [.str "and", .str "or"]
abbrev g_WORDS : D := .tup [.str "down", .str "up"]
abbrev g_MOST_POINTERS : D := .int 40
abbrev g_FIGURES : D := .str "01234"
abbrev g_BOTH_WORDS : D := .tup [.str "down", .str "up"]
abbrev g_TURNED : List (Key × D) := [(.inr "below", .str "above"), (.inr "above", .str "below"), (.inr "not below", .str "not above"), (.inr "not above", .str "not below")]
def p_is_among_b : DenS :=
  dRet (dAnd (d1 (opIsi "str") (dVar 1)) (d2 (opIn false) (dVar 1) (dVar 0)))
def p_is_among : List D → M D := runDef 2 p_is_among_b
def p_is_number_b : DenS :=
  dRet (dAnd (d1 (opIsi "int") (dVar 0)) (dNot (d1 (opIsi "bool") (dVar 0))))
def p_is_number : List D → M D := runDef 1 p_is_number_b
def p_is_point_b : DenS :=
  dSeq (dIfS (dBOr (dBNot (bVal (d1 (opIsi "tuple") (dVar 0)))) (bVal (d2 (opEq false) (dVar 0) (dTup (dNil))))) (dRet (dC (.bl false))) (dSkip)) <|
  dSeq (dIfS (bVal (d2 (opEq false) (d2 opIx (dVar 0) (dC (.int 0))) (dC (.str "pointer")))) (dRet (d2 (opEq false) (dCall (on1 biLen) (dCons (dVar 0) (dNil))) (dC (.int 1)))) (dSkip)) <|
  dRet (dAnd (d2 (opEq false) (dCall (on1 biLen) (dCons (dVar 0) (dNil))) (dC (.int 2))) (dAnd (dCall (arity 2 p_is_among) (dCons (dC g_THINGS) (dCons (d2 opIx (dVar 0) (dC (.int 0))) (dNil)))) (dAnd (dCall (arity 1 p_is_number) (dCons (d2 opIx (dVar 0) (dC (.int 1))) (dNil))) (dChain opLe opLe (dC (.int 0)) (d2 opIx (dVar 0) (dC (.int 1))) (dC (.int 4))))))
def p_is_point : List D → M D := runDef 1 p_is_point_b
def p_is_comparison_b : DenS :=
  dSeq (dIfS (dBOr (dBNot (bVal (d1 (opIsi "tuple") (dVar 0)))) (dBOr (bVal (d2 (opEq true) (dCall (on1 biLen) (dCons (dVar 0) (dNil))) (dC (.int 3)))) (dBNot (bVal (dCall (arity 2 p_is_among) (dCons (dKlist g_TURNED) (dCons (d2 opIx (dVar 0) (dC (.int 0))) (dNil)))))))) (dRet (dC (.bl false))) (dSkip)) <|
  dRet (dAnd (dCall (arity 1 p_is_point) (dCons (d2 opIx (dVar 0) (dC (.int 1))) (dNil))) (dCall (arity 1 p_is_point) (dCons (d2 opIx (dVar 0) (dC (.int 2))) (dNil))))
def p_is_comparison : List D → M D := runDef 1 p_is_comparison_b
def p_is_good_condition_b : DenS :=
  dSeq (dIfS (dBOr (dBNot (bVal (d1 (opIsi "tuple") (dVar 0)))) (bVal (d2 (opIn true) (dCall (on1 biLen) (dCons (dVar 0) (dNil))) (dTup (dCons (dC (.int 3)) (dCons (dC (.int 4)) (dNil))))))) (dRet (dC (.bl false))) (dSkip)) <|
  dSeq (dIfS (bVal (dCall (arity 2 p_is_among) (dCons (dC g_JOINTS) (dCons (d2 opIx (dVar 0) (dC (.int 0))) (dNil))))) (dRet (dCall (on1 biAll) (dCons (dLc (iVal (dSl (dVar 0) (oSome (dC (.int 1))) (oNone))) [1] (.nm 1) (bTrue) (dCall (arity 1 p_is_comparison) (dCons (dVar 1) (dNil)))) (dNil)))) (dSkip)) <|
  dRet (dCall (arity 1 p_is_comparison) (dCons (dVar 0) (dNil)))
def p_is_good_condition : List D → M D := runDef 2 p_is_good_condition_b
def p_is_good_rule_b : DenS :=
  dRet (dAnd (d1 (opIsi "tuple") (dVar 0)) (dAnd (d2 (opEq false) (dCall (on1 biLen) (dCons (dVar 0) (dNil))) (dC (.int 2))) (dCall (on1 biAll) (dCons (dLc (iVal (dVar 0)) [1] (.nm 1) (bTrue) (dCall (arity 1 p_is_good_condition) (dCons (dVar 1) (dNil)))) (dNil)))))
def p_is_good_rule : List D → M D := runDef 2 p_is_good_rule_b
def p_Rule_init_b : DenS :=
  dSeq (dIfS (dBNot (bVal (dCall (arity 1 p_is_good_rule) (dCons (dTup (dCons (dVar 1) (dCons (dVar 2) (dNil)))) (dNil))))) (dNever) (dSkip)) <|
  dSetF "Rule" "base" (dVar 0) (dTup (dCons (dVar 1) (dCons (dVar 2) (dNil))))
def p_Rule_init : List D → M D := runDef 3 p_Rule_init_b
def p_point_in_b : DenS :=
  dSeq (dIfS (dBAnd (bVal (d2 (opEq false) (dCall (on1 biLen) (dCons (dVar 0) (dNil))) (dC (.int 2)))) (dBAnd (bVal (d2 (opEq false) (dCall (on1 biLen) (dCons (d2 opIx (dVar 0) (dC (.int 1))) (dNil))) (dC (.int 1)))) (bVal (d2 (opIn false) (d2 opIx (dVar 0) (dC (.int 1))) (dC g_FIGURES))))) (dRet (dTup (dCons (d2 opIx (dVar 0) (dC (.int 0))) (dCons (dCall (on1 biIntS) (dCons (d2 opIx (dVar 0) (dC (.int 1))) (dNil))) (dNil))))) (dSkip)) <|
  dRet (dVar 0)
def p_point_in : List D → M D := runDef 1 p_point_in_b
def p_comparison_in_b : DenS :=
  dSeq (dFor (iVal (dTup (dCons (dC (.int 1)) (dCons (dC (.int 2)) (dNil))))) (gOf (.nm 1)) (dFor (iVal (dTup (dCons (d2 opAdd (dVar 1) (dC (.int 1))) (dCons (d2 opAdd (dVar 1) (dC (.int 2))) (dNil))))) (gOf (.nm 2)) (dSeq (dAsg (dTup (dCons (dMeth "str" mJoin (dC (.str " ")) (dCons (dSl (dVar 0) (oSome (dVar 1)) (oSome (dVar 2))) (dNil))) (dCons (dCall (arity 1 p_point_in) (dCons (dCall (on1 biTuple) (dCons (dSl (dVar 0) (oNone) (oSome (dVar 1))) (dNil))) (dNil))) (dCons (dCall (arity 1 p_point_in) (dCons (dCall (on1 biTuple) (dCons (dSl (dVar 0) (oSome (dVar 2)) (oNone)) (dNil))) (dNil))) (dNil))))) (gSet 3)) <|
  dIfS (bVal (dCall (arity 1 p_is_comparison) (dCons (dVar 3) (dNil)))) (dRet (dVar 3)) (dSkip)))) <|
  dRet (dC .non)
def p_comparison_in : List D → M D := runDef 4 p_comparison_in_b
def p_split_at_b : DenS :=
  dSeq (dAsg (dLst (dCons (dLst (dNil)) (dNil))) (gSet 2)) <|
  dSeq (dFor (iVal (dVar 0)) (gOf (.nm 3)) (dAsg (dIf (bVal (d2 (opEq false) (dVar 3) (dVar 1))) (d2 opAdd (dVar 2) (dLst (dCons (dLst (dNil)) (dNil)))) (d2 opAdd (dSl (dVar 2) (oNone) (oSome (d1 opNeg (dC (.int 1))))) (dLst (dCons (d2 opAdd (d2 opIx (dVar 2) (d1 opNeg (dC (.int 1)))) (dLst (dCons (dVar 3) (dNil)))) (dNil))))) (gSet 2))) <|
  dRet (dVar 2)
def p_split_at : List D → M D := runDef 4 p_split_at_b
def p_joined_b : DenS :=
  dRet (dIf (bVal (d2 opGt (dCall (on1 biLen) (dCons (dVar 1) (dNil))) (dC (.int 1)))) (d2 opAdd (dTup (dCons (dVar 0) (dNil))) (dCall (on1 biTuple) (dCons (dVar 1) (dNil)))) (d2 opIx (dVar 1) (dC (.int 0))))
def p_joined : List D → M D := runDef 2 p_joined_b
def p_joint_of_b : DenS :=
  dRet (dIf (bVal (d2 (opIn false) (d2 opIx (dVar 0) (dC (.int 0))) (dC g_JOINTS))) (d2 opIx (dVar 0) (dC (.int 0))) (dC .non))
def p_joint_of : List D → M D := runDef 1 p_joint_of_b
def p_point_words_b : DenS :=
  dRet (dLc (iVal (dVar 0)) [1] (.nm 1) (bTrue) (dCall (on1 biStr) (dCons (dVar 1) (dNil))))
def p_point_words : List D → M D := runDef 2 p_point_words_b
def p_comparison_words_b : DenS :=
  dSeq (dAsg (dVar 0) (gOf (.tup [.nm 1, .nm 2, .nm 3]))) <|
  dRet (d2 opAdd (d2 opAdd (dCall (arity 1 p_point_words) (dCons (dVar 2) (dNil))) (dLst (dCons (dVar 1) (dNil)))) (dCall (arity 1 p_point_words) (dCons (dVar 3) (dNil))))
def p_comparison_words : List D → M D := runDef 4 p_comparison_words_b
def p_parts_of_b : DenS :=
  dRet (dIf (bVal (d2 (opIn false) (d2 opIx (dVar 0) (dC (.int 0))) (dC g_JOINTS))) (dCall (on1 biList) (dCons (dSl (dVar 0) (oSome (dC (.int 1))) (oNone)) (dNil))) (dLst (dCons (dVar 0) (dNil))))
def p_parts_of : List D → M D := runDef 1 p_parts_of_b
def p_condition_line_b : DenS :=
  dSeq (dAsg (dCall (arity 1 p_joint_of) (dCons (dVar 1) (dNil))) (gSet 2)) <|
  dSeq (dAsg (dLc (iVal (dCall (arity 1 p_parts_of) (dCons (dVar 1) (dNil)))) [4] (.nm 4) (bTrue) (dMeth "str" mJoin (dC (.str " ")) (dCons (dCall (arity 1 p_comparison_words) (dCons (dVar 4) (dNil))) (dNil)))) (gSet 3)) <|
  dRet (d2 opAdd (d2 opAdd (dVar 0) (dC (.str " "))) (dMeth "str" mJoin (dIf (bVal (d2 (opIsN true) (dVar 2) (dC .non))) (dFs [dC (.str " "), dFmt (dVar 2), dC (.str " ")]) (dC (.str ""))) (dCons (dVar 3) (dNil))))
def p_condition_line : List D → M D := runDef 5 p_condition_line_b
def p_condition_in_b : DenS :=
  dSeq (dAsg (dMeth "str" mSplit (dVar 0) (dCons (dC (.str " ")) (dNil))) (gSet 2)) <|
  dSeq (dAsg (dLc (iVal (dC g_JOINTS)) [3] (.nm 3) (bVal (d2 (opIn false) (dVar 3) (dVar 2))) (dVar 3)) (gSet 4)) <|
  dSeq (dAsg (dIf (bVal (d2 (opEq true) (dVar 4) (dLst (dNil)))) (d2 opIx (dVar 4) (dC (.int 0))) (dC .non)) (gSet 3)) <|
  dSeq (dAsg (dLc (iVal (dCall (arity 2 p_split_at) (dCons (dSl (dVar 2) (oSome (dC (.int 1))) (oNone)) (dCons (dVar 3) (dNil))))) [7] (.nm 7) (bTrue) (dCall (arity 1 p_comparison_in) (dCons (dVar 7) (dNil)))) (gSet 5)) <|
  dSeq (dIfS (bVal (d2 (opIn false) (dC .non) (dVar 5))) (dRet (dC .non)) (dSkip)) <|
  dSeq (dAsg (dCall (arity 2 p_joined) (dCons (dVar 3) (dCons (dVar 5) (dNil)))) (gSet 6)) <|
  dRet (dIf (dBAnd (bVal (dCall (arity 1 p_is_good_condition) (dCons (dVar 6) (dNil)))) (bVal (d2 (opEq false) (dCall (arity 2 p_condition_line) (dCons (dVar 1) (dCons (dVar 6) (dNil)))) (dVar 0)))) (dVar 6) (dC .non))
def p_condition_in : List D → M D := runDef 8 p_condition_in_b
def p_rule_in17_b : DenS :=
  dSeq (dIfS (dBNot (bVal (d1 (opIsi "str") (dVar 0)))) (dRaiseX "InvalidText" (dC (.int 0))) (dSkip)) <|
  dSeq (dPar [1, 2] (dCons (dMeth "str" mSplit (dVar 0) (dCons (dC (.str "\n")) (dNil))) (dCons (dTup (dNil)) (dNil)))) <|
  dSeq (dFor (iEnumT (dCons (dC g_WORDS) (dNil))) (gOf (.tup [.nm 3, .nm 4])) (dSeq (dAsg (dIf (bVal (d2 opLt (dVar 3) (dCall (on1 biLen) (dCons (dVar 1) (dNil))))) (dCall (arity 2 p_condition_in) (dCons (d2 opIx (dVar 1) (dVar 3)) (dCons (dVar 4) (dNil)))) (dC .non)) (gSet 5)) <|
  dSeq (dIfS (bVal (d2 (opIsN false) (dVar 5) (dC .non))) (dRaiseX "InvalidText" (d2 opAdd (dVar 3) (dC (.int 1)))) (dSkip)) <|
  dAsg (d2 opAdd (dVar 2) (dTup (dCons (dVar 5) (dNil)))) (gSet 2))) <|
  dSeq (dIfS (bVal (d2 opGt (dCall (on1 biLen) (dCons (dVar 1) (dNil))) (dC (.int 2)))) (dRaiseX "InvalidText" (dC (.int 3))) (dSkip)) <|
  dRet (dVar 2)
def p_rule_in17 : List D → M D := runDef 6 p_rule_in17_b
def p_Rule_told17_b : DenS :=
  dSeq (dAsg (dCall (arity 1 p_rule_in17) (dCons (dVar 1) (dNil))) (gOf (.tup [.nm 2, .nm 3]))) <|
  dRet (dMakeL 0 "Rule" 2 p_Rule_init (dCons (dVar 2) (dCons (dVar 3) (dNil))))
def p_Rule_told17 : List D → M D := runDef 4 p_Rule_told17_b
def p_Rule_source_b : DenS :=
  dRet (dFld "Rule" "base" (dVar 0))
def p_Rule_source : List D → M D := runDef 1 p_Rule_source_b
def l_source_b : DenS :=
  dSeq (dAsg (dC (.int 0)) (gSet 2)) <|
  dSeq (dIfS (bVal (d2 opLt (dVar 1) (dCall (on1 biLen) (dCons (dVar 0) (dNil))))) (dAsg (dCall (on1 biAbs) (dCons (dCall (on1 biInt) (dCons (d2 opIx (dVar 0) (dVar 1)) (dNil))) (dNil))) (gSet 2)) (dSkip)) <|
  dSeq (dIfS (bVal (d2 opLt (dVar 2) (d2 opPow (dC (.int 10)) (dC (.int 18))))) (dRet (dOwn (dCons (dC (.int 0)) (dCons (d2 opAdd (dC (.int 1)) (d2 opMod (dCall (on1 biInt) (dCons (d2 opAdd (d2 opMul (dVar 2) (dC (.int 7919))) (d2 opMul (dC (.int 104729)) (dVar 1))) (dNil))) (dC (.int 2147483646)))) (dNil))))) (dSkip)) <|
  dRet (dOwn (dCons (dVar 2) (dCons (d2 opAdd (dC (.int 1)) (d2 opMod (dCall (on1 biInt) (dCons (d2 opAdd (dVar 2) (dVar 1)) (dNil))) (dC (.int 2147483646)))) (dNil))))
def l_source : List D → M D := runDef 3 l_source_b
def l_draw_b : DenS :=
  dSeq (dIfS (bVal (d2 opGt (d2 opIx (dVar 0) (dC (.int 0))) (dC (.int 0)))) (dSeq (dAsg (d2 opMod (dCall (on1 biInt) (dCons (d2 opIx (dVar 0) (dC (.int 0))) (dNil))) (dVar 1)) (gSet 2)) <|
  dSeq (dAsg (d2 opDiv (d2 opIx (dVar 0) (dC (.int 0))) (dVar 1)) (gSubD (dVar 0) (dC (.int 0)))) <|
  dRet (dVar 2)) (dSkip)) <|
  dSeq (dAsg (d2 opMod (dCall (on1 biInt) (dCons (d2 opMul (d2 opIx (dVar 0) (dC (.int 1))) (dC (.int 48271))) (dNil))) (dC (.int 2147483647))) (gSubD (dVar 0) (dC (.int 1)))) <|
  dRet (d2 opMod (dCall (on1 biInt) (dCons (d2 opDiv (d2 opMod (dCall (on1 biInt) (dCons (d2 opMul (d2 opIx (dVar 0) (dC (.int 1))) (d2 opIx (dVar 0) (dC (.int 1)))) (dNil))) (dC (.int 2147483629))) (dC (.int 64))) (dNil))) (dVar 1))
def l_draw : List D → M D := runDef 3 l_draw_b
def l_of_b : DenS :=
  dRet (d2 opIx (dVar 1) (dCall (arity 2 l_draw) (dCons (dVar 0) (dCons (dCall (on1 biLen) (dCons (dVar 1) (dNil))) (dNil)))))
def l_of : List D → M D := runDef 2 l_of_b
def l_known_b : DenS :=
  dSeq (dAsg (dCall (arity 2 l_of) (dCons (dVar 0) (dCons (dLst (dCons (dC (.int 0)) (dCons (dC (.int 1)) (dCons (dC (.int 2)) (dCons (dC (.int 2)) (dCons (dC (.int 3)) (dCons (dC (.int 4)) (dNil)))))))) (dNil)))) (gSet 1)) <|
  dSeq (dAsg (dCall (arity 2 l_of) (dCons (dVar 0) (dCons (dLst (dCons (dC (.str "below")) (dCons (dC (.str "not above")) (dNil)))) (dNil)))) (gSet 2)) <|
  dSeq (dAsg (dCall (arity 2 l_of) (dCons (dVar 0) (dCons (dLst (dCons (dTup (dCons (dC (.str "pointer")) (dNil))) (dCons (dTup (dCons (dC (.str "held")) (dCons (dCall (arity 2 l_of) (dCons (dVar 0) (dCons (dLst (dCons (dC (.int 2)) (dCons (dC (.int 4)) (dCons (dC (.int 4)) (dCons (dC (.int 0)) (dNil)))))) (dNil)))) (dNil)))) (dNil)))) (dNil)))) (gSet 3)) <|
  dSeq (dAsg (dIf (bVal (d2 (opEq false) (dVar 3) (dTup (dCons (dC (.str "pointer")) (dNil))))) (dTup (dCons (dC (.str "pointer")) (dNil))) (dTup (dCons (dC (.str "held")) (dCons (d2 opSub (dC (.int 4)) (d2 opIx (dVar 3) (dC (.int 1)))) (dNil))))) (gSet 4)) <|
  dSeq (dAsg (dCall (arity 2 l_of) (dCons (dVar 0) (dCons (dLst (dCons (dTup (dCons (dC (.str "next")) (dCons (dVar 1) (dNil)))) (dCons (dTup (dCons (dC (.str "next")) (dCons (dVar 1) (dNil)))) (dCons (dTup (dCons (dC (.str "place")) (dCons (dC (.int 4)) (dNil)))) (dNil))))) (dNil)))) (gSet 5)) <|
  dSeq (dAsg (dTup (dCons (dVar 2) (dCons (dVar 3) (dCons (dVar 5) (dNil))))) (gSet 6)) <|
  dSeq (dAsg (dTup (dCons (d2 opIx (d2 opIx (dVar 6) (dC (.int 2))) (dC (.int 0))) (dCons (d2 opSub (dC (.int 4)) (d2 opIx (d2 opIx (dVar 6) (dC (.int 2))) (dC (.int 1)))) (dNil)))) (gSet 7)) <|
  dSeq (dAsg (dTup (dCons (dCall (arity 2 l_of) (dCons (dVar 0) (dCons (dLst (dCons (dC (.str "above")) (dCons (dC (.str "not below")) (dNil)))) (dNil)))) (dCons (dVar 4) (dCons (dVar 7) (dNil))))) (gSet 8)) <|
  dSeq (dAsg (dCall (arity 2 l_draw) (dCons (dVar 0) (dCons (dC (.int 4)) (dNil)))) (gSet 9)) <|
  dSeq (dIfS (bVal (d2 (opEq false) (dVar 9) (dC (.int 0)))) (dSeq (dAsg (dTup (dCons (dCall (arity 2 l_of) (dCons (dVar 0) (dCons (dLst (dCons (dC (.str "above")) (dCons (dC (.str "below")) (dNil)))) (dNil)))) (dCons (dTup (dCons (dC (.str "pointer")) (dNil))) (dCons (dTup (dCons (dC (.str "next")) (dCons (d2 opMul (dC (.int 4)) (dCall (arity 2 l_draw) (dCons (dVar 0) (dCons (dC (.int 2)) (dNil))))) (dNil)))) (dNil))))) (gSet 10)) <|
  dAsg (dTup (dCons (dC (.str "and")) (dCons (dVar 6) (dCons (dVar 10) (dNil))))) (gSet 6)) (dSkip)) <|
  dSeq (dIfS (bVal (d2 (opEq false) (dVar 9) (dC (.int 1)))) (dAsg (dTup (dCons (dC (.str "or")) (dCons (dVar 8) (dCons (dTup (dCons (dC (.str "above")) (dCons (dTup (dCons (dC (.str "pointer")) (dNil))) (dCons (dTup (dCons (dC (.str "place")) (dCons (dC (.int 0)) (dNil)))) (dNil))))) (dNil))))) (gSet 8)) (dSkip)) <|
  dRet (dTup (dCons (dVar 6) (dCons (dVar 8) (dNil))))
def l_known : List D → M D := runDef 11 l_known_b
def l_point_b : DenS :=
  dSeq (dAsg (dCall (arity 2 l_of) (dCons (dVar 0) (dCons (dLst (dCons (dC (.str "pointer")) (dCons (dC (.str "pointer")) (dCons (dC (.str "held")) (dCons (dC (.str "place")) (dCons (dC (.str "next")) (dCons (dC (.str "next")) (dNil)))))))) (dNil)))) (gSet 1)) <|
  dSeq (dIfS (bVal (d2 (opEq false) (dVar 1) (dC (.str "pointer")))) (dRet (dTup (dCons (dC (.str "pointer")) (dNil)))) (dSkip)) <|
  dRet (dTup (dCons (dVar 1) (dCons (dCall (arity 2 l_of) (dCons (dVar 0) (dCons (dLst (dCons (dC (.int 0)) (dCons (dC (.int 2)) (dCons (dC (.int 4)) (dCons (dCall (arity 2 l_draw) (dCons (dVar 0) (dCons (dC (.int 5)) (dNil)))) (dNil)))))) (dNil)))) (dNil))))
def l_point : List D → M D := runDef 2 l_point_b
def l_comparison_b : DenS :=
  dSeq (dAsg (dCall (arity 2 l_of) (dCons (dVar 0) (dCons (dLst (dCons (dC (.str "below")) (dCons (dC (.str "above")) (dCons (dC (.str "not below")) (dCons (dC (.str "not above")) (dNil)))))) (dNil)))) (gSet 1)) <|
  dRet (dTup (dCons (dVar 1) (dCons (dCall (arity 1 l_point) (dCons (dVar 0) (dNil))) (dCons (dCall (arity 1 l_point) (dCons (dVar 0) (dNil))) (dNil)))))
def l_comparison : List D → M D := runDef 2 l_comparison_b
def l_condition_b : DenS :=
  dSeq (dAsg (dCall (arity 2 l_of) (dCons (dVar 0) (dCons (dLst (dCons (dC (.int 1)) (dCons (dC (.int 1)) (dCons (dC (.int 2)) (dCons (dC (.int 2)) (dCons (dC (.int 3)) (dNil))))))) (dNil)))) (gSet 1)) <|
  dSeq (dAsg (dCall (on1 biTuple) (dCons (dLc (iRange1 (dCons (dVar 1) (dNil))) [3] (.nm 3) (bTrue) (dCall (arity 1 l_comparison) (dCons (dVar 0) (dNil)))) (dNil))) (gSet 2)) <|
  dRet (dIf (bVal (d2 (opEq false) (dVar 1) (dC (.int 1)))) (d2 opIx (dVar 2) (dC (.int 0))) (d2 opAdd (dTup (dCons (dCall (arity 2 l_of) (dCons (dVar 0) (dCons (dLst (dCons (dC (.str "and")) (dCons (dC (.str "or")) (dNil)))) (dNil)))) (dNil))) (dVar 2)))
def l_condition : List D → M D := runDef 4 l_condition_b
def l_rule_b : DenS :=
  dSeq (dPar [1, 2] (dCons (dCall (arity 2 l_draw) (dCons (dVar 0) (dCons (dC (.int 5)) (dNil)))) (dCons (dCall (arity 1 l_known) (dCons (dVar 0) (dNil))) (dNil)))) <|
  dSeq (dIfS (bVal (d2 (opEq false) (dVar 1) (dC (.int 4)))) (dRet (dTup (dCons (dCall (arity 1 l_condition) (dCons (dVar 0) (dNil))) (dCons (dCall (arity 1 l_condition) (dCons (dVar 0) (dNil))) (dNil))))) (dSkip)) <|
  dSeq (dIfS (bVal (d2 (opEq false) (dVar 1) (dC (.int 3)))) (dRet (dTup (dCons (d2 opIx (dVar 2) (dC (.int 0))) (dCons (dCall (arity 1 l_condition) (dCons (dVar 0) (dNil))) (dNil))))) (dSkip)) <|
  dRet (dIf (bVal (d2 (opEq false) (dVar 1) (dC (.int 2)))) (dTup (dCons (dCall (arity 1 l_condition) (dCons (dVar 0) (dNil))) (dCons (d2 opIx (dVar 2) (dC (.int 1))) (dNil)))) (dVar 2))
def l_rule : List D → M D := runDef 3 l_rule_b
def l_parts_b : DenS :=
  dRet (dIf (bVal (d2 (opIn false) (d2 opIx (dVar 0) (dC (.int 0))) (dTup (dCons (dC (.str "and")) (dCons (dC (.str "or")) (dNil)))))) (dCall (on1 biList) (dCons (dSl (dVar 0) (oSome (dC (.int 1))) (oNone)) (dNil))) (dLst (dCons (dVar 0) (dNil))))
def l_parts : List D → M D := runDef 1 l_parts_b
def l_text_b : DenS :=
  dSeq (dAsg (dOwn (dNil)) (gSet 1)) <|
  dSeq (dFor (iZip (dCons (dLst (dCons (dC (.str "down")) (dCons (dC (.str "up")) (dNil)))) (dCons (dVar 0) (dNil)))) (gOf (.tup [.nm 2, .nm 3])) (dSeq (dAsg (dOwn (dNil)) (gSet 4)) <|
  dSeq (dFor (iVal (dCall (arity 1 l_parts) (dCons (dVar 3) (dNil)))) (gOf (.nm 5)) (dExpr (dMeth "list" mAppend (dVar 4) (dCons (dMeth "str" mJoin (dC (.str " ")) (dCons (dLc (iVal (d2 opAdd (d2 opAdd (d2 opIx (dVar 5) (dC (.int 1))) (dSl (dVar 5) (oNone) (oSome (dC (.int 1))))) (d2 opIx (dVar 5) (dC (.int 2))))) [7] (.nm 7) (bTrue) (dCall (on1 biStr) (dCons (dVar 7) (dNil)))) (dNil))) (dNil))))) <|
  dSeq (dAsg (dIf (bVal (d2 opGt (dCall (on1 biLen) (dCons (dVar 4) (dNil))) (dC (.int 1)))) (d2 opAdd (d2 opAdd (dC (.str " ")) (d2 opIx (dVar 3) (dC (.int 0)))) (dC (.str " "))) (dC (.str ""))) (gSet 6)) <|
  dExpr (dMeth "list" mAppend (dVar 1) (dCons (d2 opAdd (d2 opAdd (dVar 2) (dC (.str " "))) (dMeth "str" mJoin (dVar 6) (dCons (dVar 4) (dNil)))) (dNil))))) <|
  dRet (dMeth "str" mJoin (dC (.str "\n")) (dCons (dVar 1) (dNil)))
def l_text : List D → M D := runDef 8 l_text_b
def l_read_b : DenS :=
  dTryLine "InvalidText" (dRet (dTup (dCons (dProp "Rule" p_Rule_source (dCMeth "Rule" 2 p_Rule_told17 (dCons (dVar 0) (dNil)))) (dCons (dC .non) (dNil)))))
def l_read : List D → M D := runDef 2 l_read_b
def l_is_part_b : DenS :=
  dSeq (dAsg (dLst (dCons (dC (.str "pointer")) (dNil))) (gSet 1)) <|
  dSeq (dFor (iVal (dTup (dCons (dC (.str "held")) (dCons (dC (.str "place")) (dCons (dC (.str "next")) (dNil)))))) (gOf (.nm 2)) (dAsg (d2 opAdd (dVar 1) (dLc (iRange1 (dCons (dC (.int 5)) (dNil))) [6] (.nm 6) (bTrue) (d2 opAdd (d2 opAdd (dVar 2) (dC (.str " "))) (dCall (on1 biStr) (dCons (dVar 6) (dNil)))))) (gSet 1))) <|
  dSeq (dFor (iVal (dTup (dCons (dC (.str "below")) (dCons (dC (.str "above")) (dCons (dC (.str "not below")) (dCons (dC (.str "not above")) (dNil))))))) (gOf (.nm 3)) (dFor (iVal (dVar 1)) (gOf (.nm 4)) (dSeq (dAsg (d2 opAdd (d2 opAdd (d2 opAdd (dVar 4) (dC (.str " "))) (dVar 3)) (dC (.str " "))) (gSet 5)) <|
  dIfS (dBAnd (bVal (d2 (opEq false) (dSl (dVar 0) (oNone) (oSome (dCall (on1 biLen) (dCons (dVar 5) (dNil))))) (dVar 5))) (bVal (d2 (opIn false) (dSl (dVar 0) (oSome (dCall (on1 biLen) (dCons (dVar 5) (dNil)))) (oNone)) (dVar 1)))) (dRet (dC (.bl true))) (dSkip)))) <|
  dRet (dC (.bl false))
def l_is_part : List D → M D := runDef 7 l_is_part_b
def l_is_line_b : DenS :=
  dSeq (dIfS (bVal (d2 (opEq true) (dSl (dVar 0) (oNone) (oSome (d2 opAdd (dCall (on1 biLen) (dCons (dVar 1) (dNil))) (dC (.int 1))))) (d2 opAdd (dVar 1) (dC (.str " "))))) (dRet (dC (.bl false))) (dSkip)) <|
  dSeq (dAsg (dSl (dVar 0) (oSome (d2 opAdd (dCall (on1 biLen) (dCons (dVar 1) (dNil))) (dC (.int 1)))) (oNone)) (gSet 2)) <|
  dSeq (dAsg (dIf (bVal (d2 (opIn false) (dC (.str " and ")) (dVar 2))) (dMeth "str" mSplit (dVar 2) (dCons (dC (.str " and ")) (dNil))) (dMeth "str" mSplit (dVar 2) (dCons (dC (.str " or ")) (dNil)))) (gSet 3)) <|
  dRet (dAnd (d2 opLt (dCall (on1 biLen) (dCons (dVar 3) (dNil))) (dC (.int 4))) (d2 (opEq false) (dLc (iVal (dVar 3)) [4] (.nm 4) (dBNot (bVal (dCall (arity 1 l_is_part) (dCons (dVar 4) (dNil))))) (dVar 4)) (dLst (dNil))))
def l_is_line : List D → M D := runDef 5 l_is_line_b
def p_is_rule_b : DenS :=
  dRet (dCall (arity 1 p_is_good_rule) (dCons (dVar 0) (dNil)))
def p_is_rule : List D → M D := runDef 1 p_is_rule_b
def l_spoilt17_b : DenS :=
  dSeq (dPar [2, 3] (dCons (dCall (arity 2 l_draw) (dCons (dVar 0) (dCons (d2 opAdd (dCall (on1 biLen) (dCons (dVar 1) (dNil))) (dC (.int 1))) (dNil)))) (dCons (dCall (arity 2 l_draw) (dCons (dVar 0) (dCons (dC (.int 3)) (dNil)))) (dNil)))) <|
  dSeq (dAsg (dLst (dCons (dC (.str "")) (dCons (dC (.str " ")) (dCons (dC (.str "0")) (dCons (dC (.str "5")) (dCons (dC (.str " not")) (dCons (dC (.str " and ")) (dCons (dC (.str " or pointer below held 0")) (dCons (dC (.str "\n")) (dCons (dC (.str "held 1")) (dCons (dC (.str "pointer")) (dCons (dC (.str "x")) (dNil))))))))))))) (gSet 4)) <|
  dSeq (dAsg (d2 opAdd (dVar 4) (dLst (dCons (dC (.str "\nup")) (dCons (dC (.str " below")) (dNil))))) (gSet 4)) <|
  dSeq (dIfS (bVal (d2 (opEq false) (dVar 3) (dC (.int 2)))) (dSeq (dAsg (dMeth "str" mSplit (dVar 1) (dCons (dC (.str "\n")) (dNil))) (gSet 5)) <|
  dSeq (dAsg (dCall (arity 2 l_draw) (dCons (dVar 0) (dCons (dCall (on1 biLen) (dCons (dVar 5) (dNil))) (dNil)))) (gSet 6)) <|
  dSeq (dAsg (dSl (dVar 5) (oSome (dVar 6)) (oSome (d2 opAdd (dVar 6) (dCall (arity 2 l_draw) (dCons (dVar 0) (dCons (dC (.int 3)) (dNil))))))) (gSet 7)) <|
  dRet (dMeth "str" mJoin (dC (.str "\n")) (dCons (d2 opAdd (d2 opAdd (dSl (dVar 5) (oNone) (oSome (dVar 6))) (dSl (dVar 5) (oSome (d2 opAdd (dVar 6) (dC (.int 1)))) (oNone))) (dVar 7)) (dNil)))) (dSkip)) <|
  dRet (d2 opAdd (d2 opAdd (dSl (dVar 1) (oNone) (oSome (dVar 2))) (dCall (arity 2 l_of) (dCons (dVar 0) (dCons (dVar 4) (dNil))))) (dSl (dVar 1) (oSome (d2 opAdd (dVar 2) (dVar 3))) (oNone)))
def l_spoilt17 : List D → M D := runDef 8 l_spoilt17_b
def p_law_b : DenS :=
  dSeq (dFor (iRange1 (dCons (d2 opAdd (dC (.int 1)) (dCall (on2 biMin) (dCons (dCall (on1 biLen) (dCons (dVar 0) (dNil))) (dCons (dC (.int 10)) (dNil))))) (dNil))) (gOf (.nm 1)) (dSeq (dAsg (dCall (arity 2 l_source) (dCons (dVar 0) (dCons (dVar 1) (dNil)))) (gSet 2)) <|
  dSeq (dAsg (dCall (arity 1 l_rule) (dCons (dVar 2) (dNil))) (gSet 3)) <|
  dSeq (dAsg (dCall (arity 1 l_text) (dCons (dVar 3) (dNil))) (gSet 4)) <|
  dSeq (dFor (iRange1 (dCons (dC (.int 6)) (dNil))) (gOf (.nm 5)) (dSeq (dAsg (dCall (arity 1 l_read) (dCons (dVar 4) (dNil))) (gOf (.tup [.nm 6, .nm 7]))) <|
  dSeq (dAsg (dSl (d2 opAdd (dMeth "str" mSplit (dVar 4) (dCons (dC (.str "\n")) (dNil))) (dLst (dCons (dC (.str "")) (dNil)))) (oNone) (oSome (dC (.int 3)))) (gSet 8)) <|
  dSeq (dAsg (dLcOwn (iVal (dTup (dCons (dC (.int 0)) (dCons (dC (.int 1)) (dNil))))) [12] (.nm 12) (dBNot (bVal (dCall (arity 2 l_is_line) (dCons (d2 opIx (dVar 8) (dVar 12)) (dCons (d2 opIx (dTup (dCons (dC (.str "down")) (dCons (dC (.str "up")) (dNil)))) (dVar 12)) (dNil)))))) (d2 opAdd (dVar 12) (dC (.int 1)))) (gSet 9)) <|
  dSeq (dIfS (bVal (d2 opGt (dCall (on1 biLen) (dCons (dMeth "str" mSplit (dVar 4) (dCons (dC (.str "\n")) (dNil))) (dNil))) (dC (.int 2)))) (dExpr (dMeth "list" mAppend (dVar 9) (dCons (dC (.int 3)) (dNil)))) (dSkip)) <|
  dSeq (dIfS (dBOr (dBAnd (bVal (d2 (opIsN false) (dVar 6) (dC .non))) (bVal (d2 (opEq true) (dVar 7) (d2 opIx (d2 opAdd (dVar 9) (dLst (dCons (dC (.int 9)) (dNil)))) (dC (.int 0)))))) (dBAnd (bVal (d2 (opIsN true) (dVar 6) (dC .non))) (bVal (d2 (opEq true) (dVar 9) (dLst (dNil)))))) (dRet (dC (.bl false))) (dSkip)) <|
  dSeq (dIfS (dBAnd (bVal (d2 (opIsN true) (dVar 6) (dC .non))) (dBOr (dBNot (bVal (dCall (arity 1 p_is_rule) (dCons (dVar 6) (dNil))))) (bVal (d2 (opEq true) (dCall (arity 1 l_text) (dCons (dVar 6) (dNil))) (dVar 4))))) (dRet (dC (.bl false))) (dSkip)) <|
  dSeq (dIfS (dBAnd (bVal (d2 (opEq false) (dVar 5) (dC (.int 0)))) (bVal (d2 (opEq true) (dVar 6) (dVar 3)))) (dRet (dC (.bl false))) (dSkip)) <|
  dAsg (dSl (dCall (arity 2 l_spoilt17) (dCons (dVar 2) (dCons (dVar 4) (dNil)))) (oNone) (oSome (dC (.int 1600)))) (gSet 4))) <|
  dIfS (bVal (d2 (opEq true) (dCall (arity 1 l_read) (dCons (dCall (arity 2 l_of) (dCons (dVar 2) (dCons (dLst (dCons (dC .non) (dCons (dC (.int 5)) (dCons (dC (.bl true)) (dCons (dLst (dNil)) (dCons (dTup (dCons (dC (.str "down")) (dNil))) (dCons (dVar 3) (dNil)))))))) (dNil)))) (dNil))) (dTup (dCons (dC .non) (dCons (dC (.int 0)) (dNil)))))) (dRet (dC (.bl false))) (dSkip))) <|
  dSeq (dAsg (dC (.str "down pointer below next 2")) (gSet 10)) <|
  dSeq (dAsg (dLst (dCons (dC (.str "")) (dCons (dVar 10) (dCons (d2 opAdd (dVar 10) (dC (.str "\nup pointer above"))) (dCons (d2 opAdd (dC (.str "up pointer below next 2\n")) (dVar 10)) (dNil)))))) (gSet 11)) <|
  dSeq (dAsg (d2 opAdd (dVar 11) (dLst (dCons (d2 opAdd (dVar 10) (dC (.str "\nup pointer above next 5"))) (dCons (d2 opAdd (dVar 10) (dC (.str "\nup pointer above next 2\n"))) (dNil))))) (gSet 11)) <|
  dSeq (dAsg (d2 opAdd (dVar 11) (dLst (dCons (d2 opAdd (dVar 10) (dC (.str " and\nup pointer above next 2"))) (dCons (d2 opAdd (d2 opAdd (dVar 10) (dC (.str "\n"))) (dVar 10)) (dNil))))) (gSet 11)) <|
  dRet (d2 (opEq false) (dLc (iVal (dVar 11)) [4] (.nm 4) (bTrue) (d2 opIx (dCall (arity 1 l_read) (dCons (dVar 4) (dNil))) (dC (.int 1)))) (dLst (dCons (dC (.int 1)) (dCons (dC (.int 2)) (dCons (dC (.int 2)) (dCons (dC (.int 1)) (dCons (dC (.int 2)) (dCons (dC (.int 3)) (dCons (dC (.int 1)) (dCons (dC (.int 2)) (dNil)))))))))))
def p_law : List D → M D := runDef 13 p_law_b
def Src (st : Store) (n : Nat) : Prop := ∃ a b : Int, st[n]? = some (.lst [.int a, .int b]) ∧ 0 ≤ a ∧ 0 ≤ b ∧ b < 2147483648
def Fr (n : Nat) (st st' : Store) : Prop := st.length ≤ st'.length ∧ ∀ i, i < st.length → i ≠ n → st'[i]? = st[i]?
theorem Fr.refl (n : Nat) (st : Store) : Fr n st st := ⟨Nat.le_refl _, fun _ _ _ => rfl⟩
theorem Fr.trans {n : Nat} {a b c : Store} (h : Fr n a b) (k : Fr n b c) : Fr n a c :=
  ⟨Nat.le_trans h.1 k.1, fun i hi hn => (k.2 i (Nat.lt_of_lt_of_le hi h.1) hn).trans (h.2 i hi hn)⟩
theorem Fr.set {n : Nat} {st : Store} {c : Cell} : Fr n st (st.set n c) := ⟨by simp, fun i _ hn => List.getElem?_set_ne (Ne.symm hn)⟩
abbrev Dr (n : Nat) (st : Store) (P : D → Prop) (d : D) (st' : Store) : Prop := P d ∧ Src st' n ∧ Fr n st st'
abbrev Below (m : Int) (d : D) : Prop := ∃ v, d = .int v ∧ 0 ≤ v ∧ v < m
theorem draw_spec {st : Store} {n : Nat} {m : Int} (h : Src st n) (hm : 0 < m) (hb : m < 2 ^ 60) : T (l_draw [.ref n, .int m]) st (Dr n st (Below m)) := by
  obtain ⟨a, b, e, ha, hb0, hb1⟩ := h
  have gm := lg (x := m) (by omega) (by omega)
  simp [l_draw, l_draw_b, dSeq, dAsg, dIfS, dRet, runDef, e, set_get e]
  refine ⟨fun h0 => ⟨hm, ⟨hm, by omega⟩, ⟨_, rfl, Int.emod_nonneg _ (by omega), Int.emod_lt_of_pos _ hm⟩, ⟨_, _, set_get e, Int.ediv_nonneg ha (by omega), hb0, hb1⟩, Fr.set⟩, fun h0 => ?_⟩
  have g1 := lg hb0 (by omega)
  have h1 : 0 ≤ b * 48271 % 2147483647 := Int.emod_nonneg _ (by decide)
  have h2 : b * 48271 % 2147483647 < 2147483647 := Int.emod_lt_of_pos _ (by decide)
  have g2 := lg h1 (by omega)
  have g3 : Nat.log2 48271 < 60 := lg2 (by decide) (by decide)
  have g4 : Nat.log2 64 < 60 := lg2 (by decide) (by decide)
  exact ⟨by omega, by omega, by omega, hm, ⟨_, rfl, Int.emod_nonneg _ (by omega), Int.emod_lt_of_pos _ hm⟩, ⟨_, _, set_get e, ha, h1, by omega⟩, Fr.set⟩
theorem at_mem {ds : List D} {i : Int} (h0 : 0 ≤ i) (h1 : i < ds.length) : ∃ d, atI ds i = some d ∧ d ∈ ds := by
  unfold atI ixN
  rw [if_pos h0, if_pos (by omega)]
  refine ⟨ds[i.toNat]'(by omega), ?_, List.getElem_mem _⟩
  simp
theorem of_spec {st : Store} {n : Nat} {ds : List D} (h : Src st n) (h0 : ds ≠ []) (h1 : ds.length < 1000) : T (l_of [.ref n, .lst ds]) st (Dr n st (· ∈ ds)) := by
  have hl : 0 < ds.length := List.length_pos_iff.mpr h0
  simp [l_of, l_of_b, dSeq, dAsg, dIfS, dRet, runDef]
  refine (draw_spec h (by omega) (by omega)).mono fun d st' hd => ?_
  obtain ⟨⟨v, rfl, v0, v1⟩, hs, hf⟩ := hd
  obtain ⟨d, e1, e2⟩ := at_mem v0 v1
  simp [e1]
  exact ⟨e2, hs, hf⟩
@[simp] theorem so1 : PyData.strOk "pointer" = true := by decide +kernel
@[simp] theorem so2 : PyData.strOk "held" = true := by decide +kernel
@[simp] theorem so3 : PyData.strOk "place" = true := by decide +kernel
@[simp] theorem so4 : PyData.strOk "next" = true := by decide +kernel
@[simp] theorem so5 : PyData.strOk "below" = true := by decide +kernel
@[simp] theorem so6 : PyData.strOk "above" = true := by decide +kernel
@[simp] theorem so7 : PyData.strOk "not below" = true := by decide +kernel
@[simp] theorem so8 : PyData.strOk "not above" = true := by decide +kernel
@[simp] theorem so9 : PyData.strOk "and" = true := by decide +kernel
@[simp] theorem so10 : PyData.strOk "or" = true := by decide +kernel
@[simp] theorem so11 : PyData.strOk "" = true := by decide +kernel
@[simp] theorem so12 : PyData.strOk "not" = true := by decide +kernel
def IsPt (d : D) : Prop := d = .tup [.str "pointer"] ∨ ∃ (s : Str) (v : Int), (s = "held" ∨ s = "place" ∨ s = "next") ∧ 0 ≤ v ∧ v ≤ 4 ∧ d = .tup [.str s, .int v]
theorem isPt_n {s : Str} {v : Int} (h : s = "held" ∨ s = "place" ∨ s = "next") (h0 : 0 ≤ v) (h1 : v ≤ 4) : IsPt (.tup [.str s, .int v]) := .inr ⟨s, v, h, h0, h1, rfl⟩
theorem isPt_p : IsPt (.tup [.str "pointer"]) := .inl rfl
theorem point_spec {st : Store} {n : Nat} (h : Src st n) : T (l_point [.ref n]) st (Dr n st IsPt) := by
  rw [l_point, t_run, l_point_b, t_asg]
  simp
  refine (of_spec h (by simp) (by simp)).mono fun d st1 hd => ?_
  obtain ⟨hd, h1, f1⟩ := hd
  have hs : ∃ s : Str, d = .str s ∧ (s = "pointer" ∨ s = "held" ∨ s = "place" ∨ s = "next") := by
    simp at hd
    rcases hd with rfl | rfl | rfl | rfl <;> simp
  obtain ⟨s, rfl, hs⟩ := hs
  have hk : PyData.strOk s = true := by rcases hs with rfl | rfl | rfl | rfl <;> simp
  rw [t_ifs]
  simp [eq_of (dep_str hk) (dep_str so1), isS]
  refine ⟨fun e => by rw [t_ret]; simp; exact ⟨isPt_p, h1, f1⟩, fun e => ?_⟩
  rw [t_ret1]
  simp
  refine (draw_spec h1 (by decide) (by decide)).mono fun d st2 hd => ?_
  obtain ⟨⟨v, rfl, v0, v1⟩, h2, f2⟩ := hd
  refine (of_spec h2 (by simp) (by simp)).mono fun d st3 hd => ?_
  obtain ⟨hd, h3, f3⟩ := hd
  have hv : ∃ v : Int, d = .int v ∧ 0 ≤ v ∧ v ≤ 4 := by
    simp at hd
    rcases hd with rfl | rfl | rfl | rfl <;> exact ⟨_, rfl, by omega, by omega⟩
  obtain ⟨v, rfl, v0, v1⟩ := hv
  exact ⟨isPt_n (hs.resolve_left e) v0 v1, h3, (f1.trans f2).trans f3⟩
def IsWd (s : Str) : Prop := s = "below" ∨ s = "above" ∨ s = "not below" ∨ s = "not above"
def IsCmp (d : D) : Prop := ∃ s p r, IsWd s ∧ IsPt p ∧ IsPt r ∧ d = .tup [.str s, p, r]
theorem comparison_spec {st : Store} {n : Nat} (h : Src st n) : T (l_comparison [.ref n]) st (Dr n st IsCmp) := by
  simp [l_comparison, l_comparison_b, dSeq, dAsg, dIfS, dRet, runDef]
  refine (of_spec h (by simp) (by simp)).mono fun d st1 hd => ?_
  obtain ⟨hd, h1, f1⟩ := hd
  have hs : ∃ s : Str, d = .str s ∧ IsWd s := by
    simp at hd
    rcases hd with rfl | rfl | rfl | rfl <;> simp [IsWd]
  obtain ⟨s, rfl, hs⟩ := hs
  refine (point_spec h1).mono fun p st2 hd => ?_
  obtain ⟨hp, h2, f2⟩ := hd
  refine (point_spec h2).mono fun r st3 hd => ?_
  obtain ⟨hr, h3, f3⟩ := hd
  exact ⟨⟨s, p, r, hs, hp, hr, rfl⟩, h3, (f1.trans f2).trans f3⟩
def IsCond (d : D) : Prop := IsCmp d ∨ ∃ (s : Str) (cs : List D), (s = "and" ∨ s = "or") ∧ 2 ≤ cs.length ∧ cs.length ≤ 3 ∧ (∀ c ∈ cs, IsCmp c) ∧ d = .tup (.str s :: cs)
/-- a list of draws -/
theorem lc_draw {n : Nat} {t : Tg} {f : Den} {ρ : MP.Env} {P : D → Prop} : ∀ {ds : List D} {st : Store}, Src st n → (∀ d ∈ ds, ∃ ρ1, t.bind d ρ = some ρ1 ∧ ∀ st, Src st n → T (f ρ1) st (Dr n st P)) →
    T (lcL t bTrue f ρ ds) st (fun ys st' => (∀ y ∈ ys, P y) ∧ ys.length = ds.length ∧ Src st' n ∧ Fr n st st')
  | [], st, h, _ => ⟨by simp, rfl, h, Fr.refl _ _⟩
  | d :: ds, st, h, k => by
    obtain ⟨ρ1, e, hf⟩ := k d List.mem_cons_self
    unfold lcL
    rw [e]
    simp [optB]
    refine (hf st h).mono fun y st1 hy => ?_
    obtain ⟨hy, h1, f1⟩ := hy
    refine (lc_draw h1 fun x hx => k x (List.mem_cons_of_mem _ hx)).mono fun ys st2 hq => ?_
    obtain ⟨q1, q2, q3, q4⟩ := hq
    exact ⟨⟨hy, q1⟩, q2, q3, f1.trans q4⟩
theorem rangeL_len {i : Int} : (rangeL 0 i).length = i.toNat := by simp [rangeL]
theorem condition_spec {st : Store} {n : Nat} (h : Src st n) : T (l_condition [.ref n]) st (Dr n st IsCond) := by
  simp [l_condition, l_condition_b, dSeq, dAsg, dIfS, dRet, runDef]
  refine (of_spec h (by simp) (by simp)).mono fun d st1 hd => ?_
  obtain ⟨hd, h1, f1⟩ := hd
  have hv : ∃ v : Int, d = .int v ∧ 1 ≤ v ∧ v ≤ 3 := by
    simp at hd
    rcases hd with rfl | rfl | rfl <;> exact ⟨_, rfl, by omega, by omega⟩
  obtain ⟨v, rfl, v0, v1⟩ := hv
  simp [wipeE, show (-4611686018427387904 : Int) ≤ v by omega, show v < 4611686018427387904 by omega, rangeL_len]
  refine ⟨by omega, ?_⟩
  refine (lc_draw (P := IsCmp) h1 fun d hd => ⟨_, rfl, fun st hs => ?_⟩).mono fun ys st2 hq => ?_
  · simp
    exact comparison_spec hs
  · obtain ⟨q1, q2, q3, q4⟩ := hq
    rw [rangeL_len] at q2
    refine ⟨fun e => ?_, fun e => ?_⟩
    · subst e
      obtain ⟨y, rfl⟩ : ∃ y, ys = [y] := List.length_eq_one_iff.mp q2
      simp
      exact ⟨.inl (q1 y (by simp)), q3, f1.trans q4⟩
    · refine (of_spec q3 (by simp) (by simp)).mono fun d st3 hd => ?_
      obtain ⟨hd, h3, f3⟩ := hd
      have hj : ∃ s : Str, d = .str s ∧ (s = "and" ∨ s = "or") := by
        simp at hd
        rcases hd with rfl | rfl <;> simp
      obtain ⟨s, rfl, hj⟩ := hj
      try simp
      exact ⟨by omega, .inr ⟨s, ys, hj, by omega, by omega, q1, rfl⟩, h3, (f1.trans q4).trans f3⟩
def IsRule (d : D) : Prop := ∃ a b, IsCond a ∧ IsCond b ∧ d = .tup [a, b]
theorem cond_2 {s : Str} {a b : D} (hs : s = "and" ∨ s = "or") (ha : IsCmp a) (hb : IsCmp b) : IsCond (.tup [.str s, a, b]) :=
  .inr ⟨s, [a, b], hs, by simp, by simp, by simp [ha, hb], rfl⟩
theorem cmp_3 {s : Str} {a b : D} (hs : IsWd s) (ha : IsPt a) (hb : IsPt b) : IsCmp (.tup [.str s, a, b]) := ⟨s, a, b, hs, ha, hb, rfl⟩
theorem isWd2 : IsWd "above" := .inr (.inl rfl)
/-- one of some words -/
theorem of_words {st : Store} {n : Nat} {zs : List Str} (h : Src st n) (h0 : zs ≠ []) (h1 : zs.length < 1000) : T (l_of [.ref n, .lst (zs.map D.str)]) st (Dr n st fun d => ∃ s ∈ zs, d = .str s) :=
  (of_spec h (by simpa using h0) (by simpa using h1)).mono fun d st' ⟨hd, hs, hf⟩ => ⟨by obtain ⟨s, e1, e2⟩ := List.mem_map.mp hd; exact ⟨s, e1, e2.symm⟩, hs, hf⟩
theorem of_ints {st : Store} {n : Nat} {zs : List Int} (h : Src st n) (h0 : zs ≠ []) (h1 : zs.length < 1000) : T (l_of [.ref n, .lst (zs.map D.int)]) st (Dr n st fun d => ∃ s ∈ zs, d = .int s) :=
  (of_spec h (by simpa using h0) (by simpa using h1)).mono fun d st' ⟨hd, hs, hf⟩ => ⟨by obtain ⟨s, e1, e2⟩ := List.mem_map.mp hd; exact ⟨s, e1, e2.symm⟩, hs, hf⟩
theorem known_spec {st : Store} {n : Nat} (h : Src st n) : T (l_known [.ref n]) st (Dr n st IsRule) := by
  rw [l_known, t_run, l_known_b, t_asg]
  simp
  refine (of_ints (zs := [0, 1, 2, 2, 3, 4]) h (by simp) (by simp)).mono fun d st1 hd => ?_
  obtain ⟨⟨share, hsh, rfl⟩, h1, f1⟩ := hd
  have hsh : 0 ≤ share ∧ share ≤ 4 := by simp at hsh; omega
  rw [t_asg]; simp
  refine (of_words (zs := ["below", "not above"]) h1 (by simp) (by simp)).mono fun d st2 hd => ?_
  obtain ⟨⟨other, ho, rfl⟩, h2, f2⟩ := hd
  have ho : IsWd other := by simp at ho; rcases ho with rfl | rfl <;> simp [IsWd]
  rw [t_asg]; simp
  refine (of_ints (zs := [2, 4, 4, 0]) h2 (by simp) (by simp)).mono fun d st3 hd => ?_
  obtain ⟨⟨hgt, hg, rfl⟩, h3, f3⟩ := hd
  have hg : 0 ≤ hgt ∧ hgt ≤ 4 := by simp at hg; omega
  refine (of_spec h3 (by simp) (by simp)).mono fun d st4 hd => ?_
  obtain ⟨hd, h4, f4⟩ := hd
  have hd : d = .tup [.str "pointer"] ∨ d = .tup [.str "held", .int hgt] := by simpa using hd
  rw [t_asg]
  have F4 := ((f1.trans f2).trans f3).trans f4
  clear f1 f2 f3 f4
  refine T.mono (P := fun b s => IsPt d ∧ IsPt b ∧ s = st4) ?_ fun back s hb => ?_
  · rcases hd with rfl | rfl
    · simp
      rw [eq_of (dep_tup.mpr (by simp [dep_str])) (dep_tup.mpr (by simp [dep_str]))]
      simp [eqvAll_cons, deq_sr, isS, eqvAll_nil]
      exact isPt_p
    · simp
      rw [eq_of (dep_tup.mpr (by simp [dep_str, dep_int])) (dep_tup.mpr (by simp [dep_str]))]
      simp (decide := true) [eqvAll_cons, deq_sr, isS, eqvAll_nil]
      exact ⟨isPt_n (.inl rfl) (by omega) (by omega), isPt_n (.inl rfl) (by omega) (by omega)⟩
  obtain ⟨hpt, hback, rfl⟩ := hb
  rw [t_asg]; simp
  refine (of_spec h4 (by simp) (by simp)).mono fun g st5 hd => ?_
  obtain ⟨hgo, h5, f5⟩ := hd
  have hgo : ∃ (s : Str) (v : Int), (s = "held" ∨ s = "place" ∨ s = "next") ∧ 0 ≤ v ∧ v ≤ 4 ∧ g = .tup [.str s, .int v] := by
    simp at hgo
    rcases hgo with rfl | rfl
    · exact ⟨_, _, .inr (.inr rfl), by omega, by omega, rfl⟩
    · exact ⟨_, _, .inr (.inl rfl), by omega, by omega, rfl⟩
  obtain ⟨gs, gv, hgs, g0, g1, rfl⟩ := hgo
  rw [t_asg]; simp
  rw [t_asg]; simp
  rw [t_asg]; simp
  refine (of_words (zs := ["above", "not below"]) h5 (by simp) (by simp)).mono fun d st6 hd => ?_
  obtain ⟨⟨w6, hw6, rfl⟩, h6, f6⟩ := hd
  have hw6 : IsWd w6 := by simp at hw6; rcases hw6 with rfl | rfl <;> simp [IsWd]
  rw [t_asg]; simp
  refine (draw_spec h6 (by decide) (by decide)).mono fun d st7 hd => ?_
  obtain ⟨⟨mode, rfl, m0, m1⟩, h7, f7⟩ := hd
  have F7 := ((F4.trans f5).trans f6).trans f7
  have hdown := cmp_3 ho hpt (isPt_n hgs g0 g1)
  have hup := cmp_3 hw6 hback (isPt_n hgs (show 0 ≤ 4 - gv by omega) (by omega))
  have last : ∀ (s : Store) (a b : D), Src s n → Fr n st s → IsCond a → IsCond b → Dr n st IsRule (.tup [a, b]) s := fun s a b hs hf ha hb => ⟨⟨a, b, ha, hb, rfl⟩, hs, hf⟩
  have up2 : IsCond (.tup [.str "or", .tup [.str w6, back, .tup [.str gs, .int (4 - gv)]], .tup [.str "above", .tup [.str "pointer"], .tup [.str "place", .int 0]]]) := cond_2 (.inr rfl) hup (cmp_3 isWd2 isPt_p (isPt_n (.inr (.inl rfl)) (by omega) (by omega)))
  rw [t_ifs]; simp
  refine ⟨fun e => ?_, fun e => ?_⟩
  · rw [t_seq, t_asg]; simp
    refine (of_words (zs := ["above", "below"]) h7 (by simp) (by simp)).mono fun d st8 hd => ?_
    obtain ⟨⟨w8, hw8, rfl⟩, h8, f8⟩ := hd
    have hw8 : IsWd w8 := by simp at hw8; rcases hw8 with rfl | rfl <;> simp [IsWd]
    refine (draw_spec h8 (by decide) (by decide)).mono fun d st9 hd => ?_
    obtain ⟨⟨v9, rfl, v0, v1⟩, h9, f9⟩ := hd
    have l1 := lg v0 (by omega)
    have l2 : Nat.log2 4 < 60 := lg2 (by decide) (by decide)
    simp
    refine ⟨by omega, ?_⟩
    have hc := cond_2 (.inl rfl) hdown (cmp_3 hw8 isPt_p (isPt_n (.inr (.inr rfl)) (show 0 ≤ 4 * v9 by omega) (by omega)))
    rw [t_asg]; simp
    rw [t_ifs]; simp
    refine ⟨fun e => ?_, fun e => ?_⟩
    · omega
    · rw [t_ret1]; simp
      exact last _ _ _ h9 ((F7.trans f8).trans f9) hc (.inl hup)
  · rw [t_ifs]; simp
    refine ⟨fun e => ?_, fun e => ?_⟩
    · rw [t_asg]; simp
      rw [t_ret1]; simp
      exact last _ _ _ h7 F7 (.inl hdown) up2
    · rw [t_ret1]; simp
      exact last _ _ _ h7 F7 (.inl hdown) (.inl hup)
theorem rule_spec {st : Store} {n : Nat} (h : Src st n) : T (l_rule [.ref n]) st (Dr n st IsRule) := by
  rw [l_rule, t_run, l_rule_b, t_par]
  simp
  refine (draw_spec h (by decide) (by decide)).mono fun d st1 hd => ?_
  obtain ⟨⟨mode, rfl, m0, m1⟩, h1, f1⟩ := hd
  refine (known_spec h1).mono fun r st2 hd => ?_
  obtain ⟨hr, h2, f2⟩ := hd
  have F2 := f1.trans f2
  rw [t_ifs]; simp
  refine ⟨fun e => ?_, fun e => ?_⟩
  · rw [t_ret]; simp
    refine (condition_spec h2).mono fun a st3 hd => ?_
    obtain ⟨ha, h3, f3⟩ := hd
    refine (condition_spec h3).mono fun b st4 hd => ?_
    obtain ⟨hb, h4, f4⟩ := hd
    exact ⟨⟨a, b, ha, hb, rfl⟩, h4, (F2.trans f3).trans f4⟩
  obtain ⟨a, b, ha, hb, rfl⟩ := hr
  rw [t_ifs]; simp
  refine ⟨fun e => ?_, fun e => ?_⟩
  · rw [t_ret]; simp
    refine (condition_spec h2).mono fun b st3 hd => ?_
    obtain ⟨hb, h3, f3⟩ := hd
    exact ⟨⟨a, b, ha, hb, rfl⟩, h3, F2.trans f3⟩
  · rw [t_ret1]; simp
    refine ⟨fun e => ?_, fun e => ?_⟩
    · refine (condition_spec h2).mono fun c st3 hd => ?_
      obtain ⟨hc, h3, f3⟩ := hd
      exact ⟨⟨c, b, hc, hb, rfl⟩, h3, F2.trans f3⟩
    · exact ⟨⟨a, b, ha, hb, rfl⟩, h2, F2⟩
theorem at_memI {ns : List Int} {i : Int} (h0 : 0 ≤ i) (h1 : i < ns.length) : ∃ d, atI ns i = some d ∧ d ∈ ns := by
  unfold atI ixN
  rw [if_pos h0, if_pos (by omega)]
  exact ⟨ns[i.toNat]'(by omega), by simp, List.getElem_mem _⟩
theorem source_spec {ns : List Int} {k : Int} {st : Store} (h0 : 0 ≤ k) (h1 : k < 1000) : T (l_source [.scr ns, .int k]) st (fun d s => ∃ n, d = .ref n ∧ Src s n) := by
  rw [l_source, t_run, l_source_b, t_asg]
  simp
  have hl := lg h0 (by omega)
  have g1 : Nat.log2 7919 < 60 := lg2 (by decide) (by decide)
  have g2 : Nat.log2 104729 < 60 := lg2 (by decide) (by decide)
  have fin : ∀ cell : Int, 0 ≤ cell → T ((dSeq (dIfS (bVal (d2 opLt (dVar 2) (d2 opPow (dC (.int 10)) (dC (.int 18))))) (dRet (dOwn (dCons (dC (.int 0)) (dCons (d2 opAdd (dC (.int 1)) (d2 opMod (dCall (on1 biInt) (dCons (d2 opAdd (d2 opMul (dVar 2) (dC (.int 7919))) (d2 opMul (dC (.int 104729)) (dVar 1))) (dNil))) (dC (.int 2147483646)))) (dNil))))) (dSkip)) <|
  dRet (dOwn (dCons (dVar 2) (dCons (d2 opAdd (dC (.int 1)) (d2 opMod (dCall (on1 biInt) (dCons (d2 opAdd (dVar 2) (dVar 1)) (dNil))) (dC (.int 2147483646)))) (dNil))))) [some (.scr ns), some (.int k), some (.int cell)]) st (RetQ fun d s => ∃ n, d = .ref n ∧ Src s n) := fun cell hc => by
    rw [t_ifs]; simp
    refine ⟨fun e => ?_, fun e => ?_⟩
    · simp [t_ret]
      have := lg hc (by omega)
      refine ⟨by omega, by omega, 0, 1 + (cell * 7919 + 104729 * k) % 2147483646, by simp, by omega, ?_, ?_⟩
      · have := Int.emod_nonneg (cell * 7919 + 104729 * k) (show (2147483646 : Int) ≠ 0 by decide); omega
      · have := Int.emod_lt_of_pos (cell * 7919 + 104729 * k) (show (0 : Int) < 2147483646 by decide); omega
    · rw [t_ret1]; simp
      refine ⟨cell, 1 + (cell + k) % 2147483646, by simp, hc, ?_, ?_⟩
      · have := Int.emod_nonneg (cell + k) (show (2147483646 : Int) ≠ 0 by decide); omega
      · have := Int.emod_lt_of_pos (cell + k) (show (0 : Int) < 2147483646 by decide); omega
  rw [t_ifs]; simp
  refine ⟨fun e => ?_, fun e => ?_⟩
  · obtain ⟨c, hc, _⟩ := at_memI h0 e
    rw [t_asg]
    simp [hc]
    refine fin _ ?_
    split <;> omega
  · exact fin 0 (by omega)
theorem q_refl {x : D} (h : Dep 64 x) : opEq true x x = pure (.bl false) := by
  rw [eq_of h h, deq_refl h.ok]
  rfl

/-! ### what is recognized -/
def th (d : D) : Bool := isS "held" d || (isS "place" d || isS "next" d)
def rng (d : D) : Bool := match d with
  | .int v => decide (0 ≤ v) && decide (v ≤ 4)
  | _ => false
def isPtB : D → Bool
  | .tup [a] => isS "pointer" a
  | .tup [a, b] => !isS "pointer" a && (th a && (isI b && rng b))
  | _ => false
def wd (d : D) : Bool := isS "below" d || (isS "above" d || (isS "not below" d || isS "not above" d))
def isCmpB : D → Bool
  | .tup [a, b, c] => wd a && (isPtB b && isPtB c)
  | _ => false
def jn (d : D) : Bool := isS "and" d || isS "or" d
def isCondB : D → Bool
  | .tup [a, b, c] => if jn a then isCmpB b && isCmpB c else wd a && (isPtB b && isPtB c)
  | .tup [a, b, c, d] => jn a && (isCmpB b && (isCmpB c && isCmpB d))
  | _ => false
def isRuleB : D → Bool
  | .tup [a, b] => isCondB a && isCondB b
  | _ => false
theorem isS_str {s : Str} {d : D} (h : isS s d = true) : d = .str s := by
  cases d with
  | str t => rw [eq_of_beq h]
  | _ => cases h
theorem isS_isStr {s : Str} {d : D} (h : isSt d = false) : isS s d = false := by cases d <;> first | rfl | cases h
theorem is_number_eq {d : D} (h : d.okD = true) : p_is_number [d] = pure (.bl (isI d)) := by
  refine eq_of_T fun st => ?_
  rw [p_is_number, t_run, p_is_number_b, t_ret1]
  simp [isi_int h, isi_bool h]
  cases d <;> simp [isI, isB]
theorem dep_wordsT {zs : List Str} (hz : ∀ z ∈ zs, PyData.strOk z = true) : Dep 64 (.tup (zs.map D.str)) := by
  simp
  exact fun z h => dep_str (hz z h)
theorem dep_wordsL {zs : List Str} (hz : ∀ z ∈ zs, PyData.strOk z = true) : Dep 64 (.lst (zs.map D.str)) := by
  simp
  exact fun z h => dep_str (hz z h)
theorem among_eq {zs : List Str} {d : D} (h : Dep 64 d) (hz : ∀ z ∈ zs, PyData.strOk z = true) : p_is_among [.tup (zs.map D.str), d] = pure (.bl (zs.any fun z => isS z d)) := by
  refine eq_of_T fun st => ?_
  rw [p_is_among, t_run, p_is_among_b, t_ret1]
  simp only [dAnd, d1, d2]
  simp [isi_str h.ok, in_of h (dep_wordsT hz), Function.comp_def]
  cases hs : isSt d with
  | true => simp
  | false =>
    simp
    exact fun z _ => isS_isStr hs
theorem amongL_eq {zs : List Str} {d : D} (h : Dep 64 d) (hz : ∀ z ∈ zs, PyData.strOk z = true) : p_is_among [.lst (zs.map D.str), d] = pure (.bl (zs.any fun z => isS z d)) := by
  refine eq_of_T fun st => ?_
  rw [p_is_among, t_run, p_is_among_b, t_ret1]
  simp only [dAnd, d1, d2]
  simp [isi_str h.ok, in_ofL h (dep_wordsL hz), Function.comp_def]
  cases hs : isSt d with
  | true => simp
  | false =>
    simp
    exact fun z _ => isS_isStr hs
theorem is_point_eq {d : D} (h : Dep 60 d) : p_is_point [d] = pure (.bl (isPtB d)) := by
  refine eq_of_T fun st => ?_
  have h64 : Dep 64 d := h.mono (by decide)
  rw [p_is_point, t_run, p_is_point_b, t_ifs]
  cases d with
  | tup ds =>
    have am : ∀ a, Dep 64 a → p_is_among [g_THINGS, a] = pure (.bl (th a)) := fun a ha => by
      have := among_eq (zs := (["held", "place", "next"] : List Str)) ha (by simp)
      simpa [th] using this
    simp only [dBOr, dBNot, bVal, d1, d2]
    simp [isi_tuple h.ok, eq_of h64, isTu]
    match ds, h, h64 with
    | [], _, _ => simp [isNil, isPtB, t_ret]
    | [a], h, _ =>
      have ha : Dep 64 a := (h.items (d := a) (by simp)).mono (by decide)
      simp [isNil, t_ifs, t_ret, t_ret1, q_s ha, isPtB]
    | [a, b], h, _ =>
      have ha : Dep 64 a := (h.items (d := a) (by simp)).mono (by decide)
      have hb : Dep 64 b := (h.items (d := b) (by simp)).mono (by decide)
      simp [isNil, t_ifs, t_ret, t_ret1, q_s ha, isPtB, am a ha, is_number_eq hb.ok]
      refine ⟨fun e => by simp [e], fun e => ?_⟩
      simp [e]
      cases th a with
      | false => simp
      | true =>
        cases b with
        | int v =>
          simp [isI, rng]
          by_cases h0 : 0 ≤ v
          · simp [h0]; omega
          · simp [h0]
        | _ => simp [isI, rng]
    | a :: b :: c :: r, h, _ =>
      have ha : Dep 64 a := (h.items (d := a) (by simp)).mono (by decide)
      have e1 : ((r.length : Int) + 1 + 1 + 1 == 1) = false := by simp; omega
      have e2 : ((r.length : Int) + 1 + 1 + 1 == 2) = false := by simp; omega
      have e0 := at_zero (a := a) (r := b :: c :: r)
      simp [isNil, t_ifs, t_ret, t_ret1, q_s ha, isPtB, e0, e1, e2]
  | _ =>
    simp only [dBOr, dBNot, bVal, d1, d2]
    simp [isi_tuple h.ok, isTu, isPtB, t_ret]
theorem in_jn {a : D} (ha : Dep 64 a) : opIn false a (.tup [.str "and", .str "or"]) = pure (.bl (jn a)) := by
  rw [in_of ha (by simp)]
  simp [jn]
theorem is_comparison_eq {d : D} (h : Dep 60 d) : p_is_comparison [d] = pure (.bl (isCmpB d)) := by
  refine eq_of_T fun st => ?_
  have h64 : Dep 64 d := h.mono (by decide)
  rw [p_is_comparison, t_run, p_is_comparison_b, t_ifs]
  have am : ∀ a, Dep 64 a → p_is_among [.lst (g_TURNED.map fun q => keyV q.1), a] = pure (.bl (wd a)) := fun a ha => by
    have := amongL_eq (zs := (["below", "above", "not below", "not above"] : List Str)) ha (by simp)
    simpa [wd, keyV] using this
  cases d with
  | tup ds =>
    simp only [dBOr, dBNot, bVal, d1, d2]
    simp [isi_tuple h.ok, isTu, dKlist]
    match ds, h with
    | [], _ => simp [isCmpB, t_ret]
    | [_], _ => simp [isCmpB, t_ret]
    | [_, _], _ => simp [isCmpB, t_ret]
    | [a, b, c], h =>
      have ha : Dep 64 a := (h.items (d := a) (by simp)).mono (by decide)
      have hb : Dep 60 b := (h.items (d := b) (by simp)).mono (by decide)
      have hc : Dep 60 c := (h.items (d := c) (by simp)).mono (by decide)
      have am' := am a ha
      simp [keyV] at am'
      simp [isCmpB, keyV, am', t_ret, t_ret1, is_point_eq hb, is_point_eq hc]
      cases wd a <;> cases isPtB b <;> cases isPtB c <;> simp
    | _ :: _ :: _ :: _ :: r, _ =>
      simp [isCmpB, t_ret]
      intro e
      omega
  | _ =>
    simp only [dBOr, dBNot, bVal, d1, d2]
    simp [isi_tuple h.ok, isTu, isCmpB, t_ret]
theorem blsD_map : ∀ bs : List Bool, blsD (bs.map D.bl) = some bs
  | [] => rfl
  | b :: bs => by
    have := blsD_map bs
    show (blsD (bs.map D.bl)).map (b :: ·) = _
    rw [this]; rfl
theorem all_l {bs : List Bool} : biAll (.lst (bs.map D.bl)) = pure (.bl (bs.all id)) := by
  show allL _ = _
  unfold allL
  rw [blsD_map]
theorem lc_bools {t : Tg} {f : Den} {ρ : MP.Env} {g : D → Bool} {ds : List D} (h : ∀ d ∈ ds, ∃ ρ1, t.bind d ρ = some ρ1 ∧ f ρ1 = pure (.bl (g d))) : lcL t bTrue f ρ ds = pure ((ds.map g).map D.bl) := by
  have := lc_map (t := t) (c := bTrue) (f := f) (ρ := ρ) (p := fun _ => true) (g := fun d => .bl (g d)) (ds := ds) fun d hd => by
    obtain ⟨ρ1, h1, h2⟩ := h d hd
    exact ⟨ρ1, h1, rfl, fun _ => h2⟩
  rw [this, List.filter_eq_self.mpr (by simp), List.map_map]
  rfl
theorem cut1 {α : Type} {a : α} {r : List α} : cutL (a :: r) (some 1) none = r := by
  unfold cutL HT.sIx
  simp
theorem cond_none : ∀ {ds : List D}, ds.length ≠ 3 → ds.length ≠ 4 → isCondB (.tup ds) = false
  | [], _, _ => rfl
  | [_], _, _ => rfl
  | [_, _], _, _ => rfl
  | [_, _, _], h, _ => absurd rfl h
  | [_, _, _, _], _, h => absurd rfl h
  | _ :: _ :: _ :: _ :: _ :: _, _, _ => rfl
theorem is_good_condition_eq {d : D} (h : Dep 60 d) : p_is_good_condition [d] = pure (.bl (isCondB d)) := by
  refine eq_of_T fun st => ?_
  have h64 : Dep 64 d := h.mono (by decide)
  have am : ∀ a, Dep 64 a → p_is_among [g_JOINTS, a] = pure (.bl (jn a)) := fun a ha => by
    have := among_eq (zs := (["and", "or"] : List Str)) ha (by simp)
    simpa [jn] using this
  rw [p_is_good_condition, t_run, p_is_good_condition_b, t_ifs]
  cases d with
  | tup ds =>
    simp only [dBOr, dBNot, bVal, d1, d2]
    have hin : ∀ n : Nat, opIn true (.int n) (.tup [.int 3, .int 4]) = pure (.bl (!(n == 3 || n == 4))) := fun n => by
      rw [in_of dep_int (by simp)]
      have e3 : ((3 : Int) == (n : Int)) = (n == 3) := by rw [Bool.eq_iff_iff]; simp; omega
      have e4 : ((4 : Int) == (n : Int)) = (n == 4) := by rw [Bool.eq_iff_iff]; simp; omega
      simp [e3, e4]
    simp [isi_tuple h.ok, isTu, hin]
    refine ⟨fun h3 h4 => ?_, fun h34 => ?_⟩
    · simp [t_ret, cond_none h3 h4]
    · have go : ∀ (a : D) (r : List D), Dep 60 (.tup (a :: r)) → r.length < 1000 → (jn a = true → isCondB (.tup (a :: r)) = r.all isCmpB) → (jn a = false → isCondB (.tup (a :: r)) = isCmpB (.tup (a :: r))) → T
        (dSeq
          (dIfS (bVal (dCall (arity 2 p_is_among) (dCons (dC g_JOINTS) (dCons (d2 opIx (dVar 0) (dC (D.int 0))) dNil))))
            (dRet
              (dCall (on1 biAll)
                (dCons
                  (dLc (iVal (dSl (dVar 0) (oSome (dC (D.int 1))) oNone)) [1] (Tg.nm 1) bTrue
                    (dCall (arity 1 p_is_comparison) (dCons (dVar 1) dNil)))
                  dNil)))
            dSkip)
          (dRet (dCall (arity 1 p_is_comparison) (dCons (dVar 0) dNil))) [some (D.tup (a :: r)), none])
        st (RetQ fun d s => d = D.bl (isCondB (D.tup (a :: r))) ∧ s = st) := fun a r h hr h1 h2 => by
        have ha : Dep 64 a := (h.items (d := a) (by simp)).mono (by decide)
        have am' := am a ha
        simp only [g_JOINTS] at am'
        rw [t_ifs]
        simp [at_zero, am']
        refine ⟨fun e => ?_, fun e => ?_⟩
        · simp [t_ret, cut1, wipeE]
          refine ⟨by omega, ?_⟩
          rw [lc_bools (g := isCmpB) fun d hd => ⟨_, rfl, by simpa using is_comparison_eq ((h.items (d := d) (by simp [hd])).mono (by decide))⟩]
          simp
          rw [← List.map_map, all_l]
          simp [h1 e]
        · simp [t_ret1, is_comparison_eq h, h2 e]
      match ds, h, h34 with
      | [a, b, c], h, _ => exact go a [b, c] h (by simp) (fun e => by simp [isCondB, e]) (fun e => by simp [isCondB, isCmpB, e])
      | [a, b, c, d], h, _ => exact go a [b, c, d] h (by simp) (fun e => by simp [isCondB, e]) (fun e => by simp [isCondB, isCmpB, e])
      | [], _, h34 => simp at h34
      | [_], _, h34 => simp at h34
      | [_, _], _, h34 => simp at h34
      | _ :: _ :: _ :: _ :: _ :: r, _, h34 => simp at h34
  | _ =>
    simp only [dBOr, dBNot, bVal, d1, d2]
    simp [isi_tuple h.ok, isTu, isCondB, t_ret]
theorem wd_jn {a : D} (h : wd a = true) : jn a = false := by
  simp [wd] at h
  rcases h with h | h | h | h <;> rw [isS_str h] <;> decide +kernel
theorem is_good_rule_eq {d : D} (h : Dep 60 d) : p_is_good_rule [d] = pure (.bl (isRuleB d)) := by
  refine eq_of_T fun st => ?_
  have h64 : Dep 64 d := h.mono (by decide)
  rw [p_is_good_rule, t_run, p_is_good_rule_b, t_ret1]
  cases d with
  | tup ds =>
    simp only [dAnd, d1, d2]
    simp [isi_tuple h.ok, isTu]
    match ds, h with
    | [], _ => simp [isRuleB]
    | [_], _ => simp [isRuleB]
    | [a, b], h =>
      have ha : Dep 60 a := (h.items (d := a) (by simp)).mono (by decide)
      have hb : Dep 60 b := (h.items (d := b) (by simp)).mono (by decide)
      simp [isRuleB, wipeE]
      rw [lc_bools (g := isCondB) fun d hd => ⟨_, rfl, by
        have : Dep 60 d := by
          simp at hd
          rcases hd with rfl | rfl
          · exact ha
          · exact hb
        simpa using is_good_condition_eq this⟩]
      simp
      have := all_l (bs := [isCondB a, isCondB b])
      simp at this
      simp [this]
    | _ :: _ :: _ :: r, _ =>
      simp [isRuleB]
      intro e
      omega
  | _ =>
    simp only [dAnd, d1, d2]
    simp [isi_tuple h.ok, isTu, isRuleB]
theorem isPt_dep {p : D} (h : IsPt p) : Dep 1 p := by
  rcases h with rfl | ⟨s, v, hs, h0, h1, rfl⟩
  · simp
  · rcases hs with rfl | rfl | rfl <;> simp
theorem isPt_B {p : D} (h : IsPt p) : isPtB p = true := by
  rcases h with rfl | ⟨s, v, hs, h0, h1, rfl⟩
  · simp [isPtB, isS]
  · rcases hs with rfl | rfl | rfl <;> simp [isPtB, isS, th, isI, rng, h0, h1] <;> decide +kernel
theorem isWd_ok {s : Str} (h : IsWd s) : PyData.strOk s = true := by rcases h with rfl | rfl | rfl | rfl <;> simp
theorem isWd_B {s : Str} (h : IsWd s) : wd (.str s) = true := by rcases h with rfl | rfl | rfl | rfl <;> decide +kernel
theorem isCmp_dep {p : D} (h : IsCmp p) : Dep 2 p := by
  obtain ⟨s, a, b, hs, ha, hb, rfl⟩ := h
  exact dep_tup.mpr (by simp [isWd_ok hs, isPt_dep ha, isPt_dep hb])
theorem isCmp_B {p : D} (h : IsCmp p) : isCmpB p = true := by
  obtain ⟨s, a, b, hs, ha, hb, rfl⟩ := h
  simp [isCmpB, isWd_B hs, isPt_B ha, isPt_B hb]
theorem isCond_dep {p : D} (h : IsCond p) : Dep 3 p := by
  rcases h with h | ⟨s, cs, hs, h0, h1, hc, rfl⟩
  · exact (isCmp_dep h).mono (by decide)
  · refine dep_tup.mpr ?_
    have : PyData.strOk s = true := by rcases hs with rfl | rfl <;> simp
    simp [this]
    exact fun a ha => isCmp_dep (hc a ha)
theorem jn_s {s : Str} (hs : s = "and" ∨ s = "or") : jn (.str s) = true := by rcases hs with rfl | rfl <;> decide +kernel
theorem isCond_B {p : D} (h : IsCond p) : isCondB p = true := by
  rcases h with h | ⟨s, cs, hs, h0, h1, hc, rfl⟩
  · have := isCmp_B h
    obtain ⟨s, a, b, hs, ha, hb, rfl⟩ := h
    simp [isCmpB] at this
    simp [isCondB, wd_jn this.1, this]
  · match cs, h0, h1, hc with
    | [a, b], _, _, hc => simp [isCondB, jn_s hs, isCmp_B (hc a (by simp)), isCmp_B (hc b (by simp))]
    | [a, b, c], _, _, hc => simp [isCondB, jn_s hs, isCmp_B (hc a (by simp)), isCmp_B (hc b (by simp)), isCmp_B (hc c (by simp))]
    | [], h0, _, _ => simp at h0
    | [_], h0, _, _ => simp at h0
    | _ :: _ :: _ :: _ :: _, _, h1, _ => simp at h1
theorem isRule_dep {p : D} (h : IsRule p) : Dep 4 p := by
  obtain ⟨a, b, ha, hb, rfl⟩ := h
  exact dep_tup.mpr (by simp [isCond_dep ha, isCond_dep hb])
theorem isRule_B {p : D} (h : IsRule p) : isRuleB p = true := by
  obtain ⟨a, b, ha, hb, rfl⟩ := h
  simp [isRuleB, isCond_B ha, isCond_B hb]
/-! ### parts -/
def partsD : D → List D
  | .tup (.str s :: cs) => if s = "and" ∨ s = "or" then cs else [.tup (.str s :: cs)]
  | d => [d]
theorem wd_not {s : Str} (h : IsWd s) : ¬(s = "and" ∨ s = "or") := by rcases h with rfl | rfl | rfl | rfl <;> decide +kernel
theorem partsD_cmp {p : D} (h : IsCmp p) : partsD p = [p] := by
  obtain ⟨s, a, b, hs, ha, hb, rfl⟩ := h
  simp only [partsD]
  rw [if_neg (wd_not hs)]
theorem parts_cmp {c : D} (h : IsCond c) : ∀ p ∈ partsD c, IsCmp p := by
  rcases h with h | ⟨s, cs, hs, h0, h1, hc, rfl⟩
  · rw [partsD_cmp h]; simpa using h
  · simp only [partsD]; rw [if_pos hs]; exact hc
theorem parts_len {c : D} (h : IsCond c) : (partsD c).length ≤ 3 := by
  rcases h with h | ⟨s, cs, hs, h0, h1, hc, rfl⟩
  · rw [partsD_cmp h]; simp
  · simp only [partsD]; rw [if_pos hs]; exact h1
theorem cond_hd {c : D} (h : IsCond c) : ∃ (s : Str) (r : List D), c = .tup (.str s :: r) ∧ PyData.strOk s = true ∧ partsD c = (if jn (.str s) = true then r else [c]) := by
  rcases h with h | ⟨s, cs, hs, h0, h1, hc, rfl⟩
  · rw [partsD_cmp h]
    obtain ⟨s, a, b, hs, ha, hb, rfl⟩ := h
    exact ⟨s, _, rfl, isWd_ok hs, by rw [wd_jn (isWd_B hs)]; simp⟩
  · exact ⟨s, cs, rfl, by rcases hs with rfl | rfl <;> simp, by simp only [partsD]; rw [if_pos hs, if_pos (jn_s hs)]⟩
theorem parts_of_eq {c : D} (h : IsCond c) : p_parts_of [c] = pure (.lst (partsD c)) := by
  obtain ⟨s, r, rfl, hs, hp⟩ := cond_hd h
  refine eq_of_T fun st => ?_
  rw [p_parts_of, t_run, p_parts_of_b, t_ret1]
  have := in_jn (dep_str hs (k := 64))
  simp [at_zero, g_JOINTS, this, cut1, hp]
  cases jn (.str s) <;> simp
theorem l_parts_eq {c : D} (h : IsCond c) : l_parts [c] = pure (.lst (partsD c)) := by
  obtain ⟨s, r, rfl, hs, hp⟩ := cond_hd h
  refine eq_of_T fun st => ?_
  rw [l_parts, t_run, l_parts_b, t_ret1]
  have := in_jn (dep_str hs (k := 64))
  simp [at_zero, this, cut1, hp]
  cases jn (.str s) <;> simp
theorem joined_eq {j : D} {ps : List D} (hp : ps ≠ []) (hl : ps.length < 10000) : p_joined [j, .lst ps] = pure (if 1 < ps.length then .tup (j :: ps) else ps.headD .non) := by
  refine eq_of_T fun st => ?_
  rw [p_joined, t_run, p_joined_b, t_ret1]
  simp
  refine ⟨fun e => ⟨by omega, fun e2 => absurd e (by omega)⟩, fun e => ?_⟩
  match ps, hp with
  | a :: r, _ =>
    have : r = [] := List.length_eq_zero_iff.mp (by simp at e; omega)
    subst this
    simp
def Ext (st s : Store) : Prop := ∃ e, s = st ++ e
theorem Src.ext {st s : Store} {n : Nat} (h : Src st n) (e : Ext st s) : Src s n := by
  obtain ⟨e, rfl⟩ := e
  obtain ⟨a, b, h1, h2⟩ := h
  exact ⟨a, b, by rw [List.getElem?_append_left (List.getElem?_eq_some_iff.mp h1).1]; exact h1, h2⟩
theorem Fr.ext {st s : Store} {n : Nat} (e : Ext st s) : Fr n st s := by
  obtain ⟨e, rfl⟩ := e
  exact ⟨by simp, fun i hi _ => List.getElem?_append_left hi⟩
/-! ### odd values, spoilt values -/
def leaf : D → Prop
  | .non => True
  | .bl _ => True
  | .int _ => True
  | .str s => PyData.strOk s = true
  | _ => False
def Pl (L : Nat) : Nat → D → Prop
  | 0, d => leaf d
  | k + 1, d => leaf d ∨ ∃ ds, (d = .tup ds ∨ d = .lst ds) ∧ ds.length ≤ L ∧ ∀ x ∈ ds, Pl L k x
theorem Pl.leaf {L : Nat} : ∀ {k : Nat} {d : D}, leaf d → Pl L k d
  | 0, _, h => h
  | _ + 1, _, h => .inl h
theorem Pl.mono {L M : Nat} (hL : L ≤ M) : ∀ {k : Nat} {d : D}, Pl L k d → Pl M (k + 1) d ∧ Pl M k d
  | 0, d, h => ⟨.inl h, h⟩
  | k + 1, d, h => by
    rcases h with h | ⟨ds, h1, h2, h3⟩
    · exact ⟨.inl h, .inl h⟩
    · exact ⟨.inr ⟨ds, h1, by omega, fun x hx => (Pl.mono hL (h3 x hx)).1⟩, .inr ⟨ds, h1, by omega, fun x hx => (Pl.mono hL (h3 x hx)).2⟩⟩
theorem Pl.up {L M k j : Nat} {d : D} (h : Pl L k d) (hL : L ≤ M) (hk : k ≤ j) : Pl M j d := by
  induction hk with
  | refl => exact (Pl.mono hL h).2
  | step _ ih => exact (Pl.mono (Nat.le_refl _) ih).1
/-! ### rules as values -/
abbrev ruC (x : D) : Cell := .ins "Rule" ["base"] [x]
theorem t_base {st : Store} {n : Nat} {x : D} {Q : D → Store → Prop} (h : st[n]? = some (ruC x)) : T (fldOf "Rule" "base" (.ref n)) st Q = Q x st := t_fld h (by simp [List.lookup])
theorem put_0n : putN "base" [] = [("base" : Str)] := rfl
theorem put_0d {y : D} : putD "base" y [] [] = [y] := rfl
theorem rule_init {a b : D} {st : Store} {n : Nat} (ha : IsCond a) (hb : IsCond b) (h : st[n]? = some (.ins "Rule" [] [])) : T (p_Rule_init [.ref n, a, b]) st (fun d s => d = .non ∧ s = st.set n (ruC (.tup [a, b]))) := by
  have hr : IsRule (.tup [a, b]) := ⟨a, b, ha, hb, rfl⟩
  rw [p_Rule_init, t_run, p_Rule_init_b, t_ifs]
  simp -implicitDefEqProofs [dBNot, is_good_rule_eq ((isRule_dep hr).mono (by decide)), isRule_B hr]
  rw [t_fset1]
  simp -implicitDefEqProofs
  rw [t_setF h (by decide), put_0n, put_0d]
theorem rule_new0 {a b : D} {st : Store} (h : T (p_Rule_init [.ref st.length, a, b]) (st ++ [(Cell.ins "Rule" [] [])]) (fun d s => d = .non ∧ s = (st ++ [(Cell.ins "Rule" [] [])]).set st.length (ruC (.tup [a, b])))) : T (mkO "Rule" p_Rule_init [a, b]) st (fun d s => d = .ref st.length ∧ s = st ++ [ruC (.tup [a, b])]) := by
  apply t_mkO
  refine T.mono h fun d s hd => ?_
  obtain ⟨rfl, rfl⟩ := hd
  refine ⟨rfl, rfl, ?_⟩
  rw [List.set_append_right _ _ (Nat.le_refl _)]
  simp
theorem rule_at0 {st : Store} : (st ++ [(Cell.ins "Rule" [] [])])[st.length]? = some (Cell.ins "Rule" [] []) := by simp
theorem rule_new {a b : D} {st : Store} (ha : IsCond a) (hb : IsCond b) : T (mkO "Rule" p_Rule_init [a, b]) st (fun d s => d = .ref st.length ∧ s = st ++ [ruC (.tup [a, b])]) := rule_new0 (rule_init ha hb rule_at0)
theorem rule_source {x : D} {st : Store} {n : Nat} (h : st[n]? = some (ruC x)) : T (p_Rule_source [.ref n]) st (fun d s => d = x ∧ s = st) := by
  rw [p_Rule_source, t_run, p_Rule_source_b, t_ret1]
  simp -implicitDefEqProofs
  rw [t_base h]
  exact ⟨rfl, rfl⟩
theorem t_source {f : Den} {ρ : MP.Env} {st : Store} {Q : D → Store → Prop} (h : T (f ρ) st (fun d s => ∃ n x, d = .ref n ∧ s[n]? = some (ruC x) ∧ Q x s)) : T (dProp "Rule" p_Rule_source f ρ) st Q := by
  unfold dProp
  rw [t_bind]
  refine h.mono fun d s hd => ?_
  obtain ⟨n, x, rfl, hn, hq⟩ := hd
  rw [t_bind, t_insC1 hn, t_noX]
  refine (rule_source hn).mono fun d s2 hd => ?_
  obtain ⟨rfl, rfl⟩ := hd
  exact hq
/-! ### where rows are, what holds there -/
/-- a great number, never unfolded -/
@[irreducible] def BB : Int := 2 ^ 40000
structure Sp where
  q : Int
  h : Int
  hh : Int
  p : Int
  ph : Int
  n : Int
  nh : Int
abbrev Sp.ks : List Key := [.inr "pointer", .inr "held", .inr "place", .inr "next"]
abbrev Sp.vs (s : Sp) : List D := [.int s.q, .tup [.int s.h, .int s.hh], .tup [.int s.p, .int s.ph], .tup [.int s.n, .int s.nh]]
abbrev Sp.d (s : Sp) : D := .dic Sp.ks s.vs
/-! ### .. as the law has it -/
structure LSp (st : Store) (n : Nat) (s : Sp) : Prop where
  ex : ∃ (ks : List Key) (vs : List D), st[n]? = some (.dic ks vs) ∧ dget ks vs (.inr "held") = some (.tup [.int s.h, .int (s.h + s.hh)]) ∧ dget ks vs (.inr "place") = some (.tup [.int s.p, .int (s.p + s.ph)]) ∧ dget ks vs (.inr "next") = some (.tup [.int s.n, .int (s.n + s.nh)])
@[simp] theorem dicOf_d {ks : List Key} {ds : List D} : dicOf (.dic ks ds) = pure (ks, ds) := rfl
@[simp] theorem getK_s {z : D} {w : Str} {p : List Key × List D} : getK z (.str w) p = pure ((dget p.1 p.2 (.inr w)).getD z) := rfl
theorem LSp.set {st : Store} {n m : Nat} {s : Sp} {c : Cell} (h : LSp st n s) (hn : m ≠ n) : LSp (st.set m c) n s := by
  obtain ⟨ks, vs, g0, g⟩ := h.ex
  exact ⟨ks, vs, by rw [List.getElem?_set_ne hn]; exact g0, g⟩
theorem LSp.ext {st st' : Store} {n : Nat} {s : Sp} (h : LSp st n s) (e : Ext st st') : LSp st' n s := by
  obtain ⟨ks, vs, g0, g⟩ := h.ex
  obtain ⟨e, rfl⟩ := e
  exact ⟨ks, vs, by rw [List.getElem?_append_left (List.getElem?_eq_some_iff.mp g0).1]; exact g0, g⟩
@[simp] theorem cond_int {c : Bool} {x y : Int} : (cond c (D.int x) (D.int y)) = D.int (cond c x y) := by cases c <;> rfl
theorem Ext.get {st st' : Store} {n : Nat} {c : Cell} (e : Ext st st') (h : st[n]? = some c) : st'[n]? = some c := by
  obtain ⟨e, rfl⟩ := e
  rw [List.getElem?_append_left (List.getElem?_eq_some_iff.mp h).1]; exact h
/-- what lies below n stays -/
def Low (n : Nat) (st st' : Store) : Prop := n ≤ st'.length ∧ ∀ i, i < n → st'[i]? = st[i]?
theorem Low.refl {n : Nat} {st : Store} (h : n ≤ st.length) : Low n st st := ⟨h, fun _ _ => rfl⟩
theorem Low.trans {n : Nat} {a b c : Store} (h : Low n a b) (k : Low n b c) : Low n a c := ⟨k.1, fun i hi => (k.2 i hi).trans (h.2 i hi)⟩
theorem Low.ext {n : Nat} {st st' : Store} (h : n ≤ st.length) (e : Ext st st') : Low n st st' := by
  obtain ⟨e, rfl⟩ := e
  exact ⟨by simp; omega, fun i hi => List.getElem?_append_left (by omega)⟩
theorem Low.set {n m : Nat} {st : Store} {c : Cell} (h : n ≤ st.length) (hm : n ≤ m) : Low n st (st.set m c) := ⟨by simpa using h, fun i hi => List.getElem?_set_ne (by omega)⟩
theorem Low.src {st st' : Store} {n : Nat} (l : Low st.length st st') (h : Src st n) : Src st' n := by
  obtain ⟨a, b, h1, h2⟩ := h
  exact ⟨a, b, by rw [l.2 n (List.getElem?_eq_some_iff.mp h1).1]; exact h1, h2⟩
/-! ### fractions for the unknowns -/
abbrev Fr2 := Int × Int
/-! ### systems of inequalities: what the defs compute -/
def Sz (k : Nat) (x : Int) : Prop := x.natAbs ≤ 2 ^ k
theorem Sz.mono {j k : Nat} {x : Int} (h : Sz j x) (q : j ≤ k) : Sz k x := Nat.le_trans h (Nat.pow_le_pow_right (by decide) q)
theorem Sz.neg {k : Nat} {x : Int} (h : Sz k x) : Sz k (-x) := by
  unfold Sz at *
  rw [Int.natAbs_neg]; exact h
/-! maps and filters -/
theorem lc_all {α : Type} {t : Tg} {f : Den} {ρ : MP.Env} {e g : α → D} : ∀ {xs : List α}, (∀ x ∈ xs, ∃ ρ1, t.bind (e x) ρ = some ρ1 ∧ f ρ1 = pure (g x)) → lcL t bTrue f ρ (xs.map e) = pure (xs.map g)
  | [], _ => rfl
  | x :: xs, h => by
    obtain ⟨ρ1, h1, h2⟩ := h x List.mem_cons_self
    have ih := lc_all (t := t) (f := f) (ρ := ρ) (e := e) (g := g) (xs := xs) fun y hy => h y (List.mem_cons_of_mem _ hy)
    rw [List.map_cons]
    unfold lcL
    rw [h1]
    simp [optB, bTrue, h2, ih]
theorem lc_fil {α : Type} {t : Tg} {c : DenB} {f : Den} {ρ : MP.Env} {e : α → D} {p : α → Bool} : ∀ {xs : List α}, (∀ x ∈ xs, ∃ ρ1, t.bind (e x) ρ = some ρ1 ∧ c ρ1 = pure (p x) ∧ f ρ1 = pure (e x)) → lcL t c f ρ (xs.map e) = pure ((xs.filter p).map e)
  | [], _ => rfl
  | x :: xs, h => by
    obtain ⟨ρ1, h1, h2, h3⟩ := h x List.mem_cons_self
    have ih := lc_fil (t := t) (c := c) (f := f) (ρ := ρ) (e := e) (p := p) (xs := xs) fun y hy => h y (List.mem_cons_of_mem _ hy)
    rw [List.map_cons]
    unfold lcL
    rw [h1]
    cases hp : p x <;> simp [optB, h2, h3, ih, hp]
@[simp] theorem zipL_ll {a b : List D} : zipL [.lst a, .lst b] = pure ((a.zip b).map fun p => D.tup [p.1, p.2]) := rfl
@[simp] theorem zipL_tt {a b : List D} : zipL [.tup a, .tup b] = pure ((a.zip b).map fun p => D.tup [p.1, p.2]) := rfl
@[simp] theorem zipL_tl {a b : List D} : zipL [.tup a, .lst b] = pure ((a.zip b).map fun p => D.tup [p.1, p.2]) := rfl
@[simp] theorem zipL_lt {a b : List D} : zipL [.lst a, .tup b] = pure ((a.zip b).map fun p => D.tup [p.1, p.2]) := rfl
def unitL (n at_ : Nat) (f : Int) : List Int := (List.range n).map fun i => if i = at_ then f else 0
@[simp] theorem unitL_len {n at_ : Nat} {f : Int} : (unitL n at_ f).length = n := by simp [unitL]
theorem Low.le {m n : Nat} {a b : Store} (h : Low m a b) (q : n ≤ m) : Low n a b := ⟨Nat.le_trans q h.1, fun i hi => h.2 i (Nat.lt_of_lt_of_le hi q)⟩
theorem Sz.one {k : Nat} : Sz k 1 := by unfold Sz; exact Nat.one_le_two_pow
theorem Sz.zero {k : Nat} : Sz k 0 := by unfold Sz; exact Nat.zero_le _
def frD (k : Fr2) : D := .tup [.int k.1, .int k.2]
def optF : Option Fr2 → D
  | none => .non
  | some k => frD k
@[simp] theorem isN_t {xs : List D} : opIsN false (.tup xs) .non = pure (.bl false) := rfl
@[simp] theorem isN_n : opIsN false .non .non = pure (.bl true) := rfl
@[simp] theorem optF_n : optF none = .non := rfl
@[simp] theorem optF_s {k : Fr2} : optF (some k) = .tup [.int k.1, .int k.2] := rfl
theorem at_lst {α : Type} {xs : List α} {x : α} : atI (xs ++ [x]) (-1) = some x := by
  unfold atI ixN
  rw [if_neg (by omega), if_pos (by simp; omega)]
  have : ((-1 : Int) + ((xs ++ [x]).length : Int)).toNat = xs.length := by simp; omega
  show (xs ++ [x])[((-1 : Int) + ((xs ++ [x]).length : Int)).toNat]? = some x
  rw [this]; simp
def rep0 (n : Nat) : List Int := List.replicate n 0
@[simp] theorem rep0_len {n : Nat} : (rep0 n).length = n := List.length_replicate
@[simp] theorem is_pointer_pointer : isS "pointer" (.str "pointer") = true := by decide +kernel
@[simp] theorem is_held_pointer : isS "held" (.str "pointer") = false := by decide +kernel
@[simp] theorem is_place_pointer : isS "place" (.str "pointer") = false := by decide +kernel
@[simp] theorem is_next_pointer : isS "next" (.str "pointer") = false := by decide +kernel
@[simp] theorem is_pointer_held : isS "pointer" (.str "held") = false := by decide +kernel
@[simp] theorem is_held_held : isS "held" (.str "held") = true := by decide +kernel
@[simp] theorem is_place_held : isS "place" (.str "held") = false := by decide +kernel
@[simp] theorem is_next_held : isS "next" (.str "held") = false := by decide +kernel
@[simp] theorem is_pointer_place : isS "pointer" (.str "place") = false := by decide +kernel
@[simp] theorem is_held_place : isS "held" (.str "place") = false := by decide +kernel
@[simp] theorem is_place_place : isS "place" (.str "place") = true := by decide +kernel
@[simp] theorem is_next_place : isS "next" (.str "place") = false := by decide +kernel
@[simp] theorem is_pointer_next : isS "pointer" (.str "next") = false := by decide +kernel
@[simp] theorem is_held_next : isS "held" (.str "next") = false := by decide +kernel
@[simp] theorem is_place_next : isS "place" (.str "next") = false := by decide +kernel
@[simp] theorem is_next_next : isS "next" (.str "next") = true := by decide +kernel
@[simp] theorem sb_1 : (("below" : Str) == ("above" : Str)) = false := by decide +kernel
@[simp] theorem sb_2 : (("below" : Str) == ("not below" : Str)) = false := by decide +kernel
@[simp] theorem sb_3 : (("below" : Str) == ("not above" : Str)) = false := by decide +kernel
@[simp] theorem sb_4 : (("above" : Str) == ("below" : Str)) = false := by decide +kernel
@[simp] theorem sb_5 : (("above" : Str) == ("not below" : Str)) = false := by decide +kernel
@[simp] theorem sb_6 : (("above" : Str) == ("not above" : Str)) = false := by decide +kernel
@[simp] theorem sb_7 : (("not below" : Str) == ("below" : Str)) = false := by decide +kernel
@[simp] theorem sb_8 : (("not below" : Str) == ("above" : Str)) = false := by decide +kernel
@[simp] theorem sb_9 : (("not below" : Str) == ("not above" : Str)) = false := by decide +kernel
@[simp] theorem sb_10 : (("not above" : Str) == ("below" : Str)) = false := by decide +kernel
@[simp] theorem sb_11 : (("not above" : Str) == ("above" : Str)) = false := by decide +kernel
@[simp] theorem sb_12 : (("not above" : Str) == ("not below" : Str)) = false := by decide +kernel
theorem isNN_non : opIsN true .non .non = pure (.bl false) := rfl
/-! ### a rule without one of its comparisons -/
def hdD : D → D
  | .tup (x :: _) => x
  | _ => .non
theorem joint_hd {c : D} (h : IsCond c) : p_joint_of [c] = pure (if jn (hdD c) = true then hdD c else .non) := by
  obtain ⟨s, r, rfl, hs, hp⟩ := cond_hd h
  refine eq_of_T fun st => ?_
  rw [p_joint_of, t_run, p_joint_of_b, t_ret1]
  have := in_jn (dep_str hs (k := 64))
  simp [at_zero, g_JOINTS, this, hdD]
  by_cases hj : jn (.str s) = true <;> simp [hj]
/-! ### texts -/
def wordS : D → Str
  | .str s => s
  | .int i => Str.ofString (toString i)
  | _ => Str.empty
def ptW : D → List Str
  | .tup ds => ds.map wordS
  | _ => []
def cmpW : D → List Str
  | .tup [.str w, a, b] => ptW a ++ [w] ++ ptW b
  | _ => []
theorem jl (z : Str) (l : List Str) : (Txt.join z l).length ≤ (l.map (·.length)).sum + l.length * z.length := by
  have e : Txt.join z l = Str.join z l := PySem.StrLaws.glued_eq_join z l
  rw [e]
  exact PySem.StrLaws.join_length_le z l
theorem str_app (a b : Str) : (a ++ b).length = a.length + b.length := Array.size_append
theorem join_l {z : Str} {ss : List Str} (h : (ss.map (·.length)).sum + ss.length * z.length ≤ 100000) : mJoin (.str z) [.lst (ss.map D.str)] = pure (.str (Txt.join z ss)) := by
  show joinL z (ss.map D.str) = _
  unfold joinL
  rw [strsD_map]
  have : decide ((ss.map (·.length)).sum + ss.length * z.length ≤ big) = true := decide_eq_true (Nat.le_trans h (by decide))
  simp only
  rw [this]
  rfl
theorem str_len9 {x : D} (h : IsPt x) : ∀ w ∈ ptW x, w.length ≤ 9 := by
  rcases h with rfl | ⟨s, v, hs, h0, h1, rfl⟩
  · decide
  · have hv : v = 0 ∨ v = 1 ∨ v = 2 ∨ v = 3 ∨ v = 4 := by omega
    rcases hs with rfl | rfl | rfl <;> rcases hv with rfl | rfl | rfl | rfl | rfl <;> decide +kernel
theorem ptW_len {x : D} (h : IsPt x) : (ptW x).length ≤ 2 := by
  rcases h with rfl | ⟨s, v, hs, h0, h1, rfl⟩
  · decide
  · simp [ptW]
theorem point_words_eq {x : D} (h : IsPt x) : p_point_words [x] = pure (.lst ((ptW x).map D.str)) := by
  refine eq_of_T fun st => ?_
  rw [p_point_words, t_run, p_point_words_b, t_ret1]
  have e : ∀ (ds : List D) (ρ : MP.Env), 1 < ρ.length → (∀ d ∈ ds, biStr d = pure (.str (wordS d))) → lcL (.nm 1) bTrue (dCall (on1 biStr) (dCons (dVar 1) (dNil))) ρ (ds.map id) = pure (ds.map fun d => D.str (wordS d)) := fun ds ρ hρ h => lc_all fun d hd => ⟨_, rfl, by
    have e3 : (ρ.set 1 (some (id d)))[1]? = some (some d) := by rw [List.getElem?_set_self hρ]; rfl
    simp at e3
    simp [dVar, e3, h d hd]⟩
  rcases h with rfl | ⟨s, v, hs, h0, h1, rfl⟩
  · have e1 := e [.str "pointer"] (wipeE [some (.tup [.str "pointer"]), none] [1]) (by simp [wipeE]) (fun d hd => by simp at hd; subst hd; rfl)
    simp at e1 ⊢
    rw [e1]
    simp [ptW]
  · have e1 := e [.str s, .int v] (wipeE [some (.tup [.str s, .int v]), none] [1]) (by simp [wipeE]) (fun d hd => by
      simp at hd
      rcases hd with rfl | rfl
      · rfl
      · show guardM (decide (v.natAbs.log2 < 1920)) (pure (.str (Str.ofString (toString v)))) = _
        have : decide (v.natAbs.log2 < 1920) = true := decide_eq_true (Nat.lt_of_lt_of_le (lg h0 (by omega)) (by decide))
        rw [this]; rfl)
    simp at e1 ⊢
    rw [e1]
    simp [ptW]
theorem wd_len {w : Str} (h : IsWd w) : w.length ≤ 9 := by rcases h with rfl | rfl | rfl | rfl <;> decide +kernel
theorem cmpW_len {c : D} (h : IsCmp c) : (cmpW c).length ≤ 5 ∧ ∀ w ∈ cmpW c, w.length ≤ 9 := by
  obtain ⟨s, p, r, hs, hp, hr, rfl⟩ := h
  have h1 := ptW_len hp
  have h2 := ptW_len hr
  refine ⟨by simp [cmpW]; omega, fun w hw => ?_⟩
  simp only [cmpW, List.append_assoc, List.mem_append, List.mem_singleton] at hw
  rcases hw with hw | rfl | hw
  · exact str_len9 hp w hw
  · exact wd_len hs
  · exact str_len9 hr w hw
theorem comparison_words_eq {c : D} (h : IsCmp c) : p_comparison_words [c] = pure (.lst ((cmpW c).map D.str)) := by
  obtain ⟨s, p, r, hs, hp, hr, rfl⟩ := h
  have h1 := ptW_len hp
  have h2 := ptW_len hr
  have e1 := point_words_eq hp
  have e2 := point_words_eq hr
  refine eq_of_T fun st => ?_
  rw [p_comparison_words, t_run, p_comparison_words_b, t_tg]
  simp
  rw [t_ret1]
  simp [e1, e2, cmpW]
  omega
theorem sumS_le {l : List Str} {k : Nat} (h : ∀ w ∈ l, w.length ≤ k) : (l.map (·.length)).sum ≤ l.length * k := by
  induction l with
  | nil => simp
  | cons x r ih =>
    have h1 := h x List.mem_cons_self
    have h2 := ih fun w hw => h w (List.mem_cons_of_mem _ hw)
    simp only [List.map_cons, List.sum_cons, List.length_cons]
    have : (r.length + 1) * k = r.length * k + k := Nat.succ_mul _ _
    omega
def cmpT (c : D) : Str := Txt.join " " (cmpW c)
theorem cmpT_len {c : D} (h : IsCmp c) : (cmpT c).length ≤ 50 := by
  obtain ⟨h1, h2⟩ := cmpW_len h
  have h3 := jl " " (cmpW c)
  have h4 := sumS_le h2
  have e : (" " : Str).length = 1 := rfl
  rw [e] at h3
  unfold cmpT
  omega
def sepS (c : D) : Str := if jn (hdD c) = true then Str.empty ++ " " ++ wordS (hdD c) ++ " " else ""
def lineS (w : Str) (c : D) : Str := w ++ " " ++ Txt.join (sepS c) ((partsD c).map cmpT)
theorem sep_len {c : D} (h : IsCond c) : (sepS c).length ≤ 10 := by
  unfold sepS
  split
  · rename_i hj
    unfold jn at hj
    rcases (Bool.or_eq_true _ _).mp hj with k | k
    · rw [isS_str k]; decide +kernel
    · rw [isS_str k]; decide +kernel
  · decide +kernel
theorem parts_sum {c : D} (h : IsCond c) : (((partsD c).map cmpT).map (·.length)).sum + ((partsD c).map cmpT).length * (sepS c).length ≤ 200 := by
  have h1 := parts_len h
  have h2 := sumS_le (l := (partsD c).map cmpT) (k := 50) fun w hw => by
    obtain ⟨x, hx, rfl⟩ := List.mem_map.mp hw
    exact cmpT_len (parts_cmp h x hx)
  have h3 := sep_len h
  have h4 : ((partsD c).map cmpT).length * (sepS c).length ≤ 3 * 10 := Nat.mul_le_mul (by simpa using h1) h3
  have h5 : ((partsD c).map cmpT).length * 50 ≤ 3 * 50 := Nat.mul_le_mul (by simpa using h1) (Nat.le_refl _)
  omega
theorem line_len {c : D} {w : Str} (h : IsCond c) (hw : w.length ≤ 10) : (lineS w c).length ≤ 300 := by
  have h1 := parts_sum h
  have h2 := jl (sepS c) ((partsD c).map cmpT)
  unfold lineS
  rw [str_app, str_app]
  have e : (" " : Str).length = 1 := rfl
  omega
theorem condition_line_eq {c : D} {w : Str} (h : IsCond c) (hw : w.length ≤ 10) : p_condition_line [.str w, c] = pure (.str (lineS w c)) := by
  have hj := joint_hd h
  have hp := parts_of_eq h
  have hs := parts_sum h
  have hsl := sep_len h
  have hjl := jl (sepS c) ((partsD c).map cmpT)
  have hjo := join_l (z := sepS c) (ss := (partsD c).map cmpT) (by omega)
  have e := fun (ρ : MP.Env) (hρ : 4 < ρ.length) => lc_all (t := .nm 4) (f := dMeth "str" mJoin (dC (.str " ")) (dCons (dCall (arity 1 p_comparison_words) (dCons (dVar 4) (dNil))) (dNil))) (ρ := ρ) (e := id) (g := fun x => D.str (cmpT x)) (xs := partsD c) fun x hx => ⟨_, rfl, by
    have e3 : (ρ.set 4 (some (id x)))[4]? = some (some x) := by rw [List.getElem?_set_self hρ]; rfl
    have hc := parts_cmp h x hx
    obtain ⟨h1, h2⟩ := cmpW_len hc
    have h4 := sumS_le h2
    have k := join_l (z := " ") (ss := cmpW x) (by have e : (" " : Str).length = 1 := rfl; rw [e]; omega)
    simp at e3
    simp [e3, comparison_words_eq hc]
    have t : isTy "str" (.str " ") = pure () := rfl
    rw [t, k]
    rfl⟩
  simp only [List.map_id] at e
  have e1 : (" " : Str).length = 1 := rfl
  have l0 : Str.empty.length = 0 := rfl
  have tt : ∀ z : Str, isTy "str" (.str z) = pure () := fun _ => rfl
  have lm : ∀ l : List D, D.lst (l.map fun x => D.str (cmpT x)) = .lst ((l.map cmpT).map D.str) := fun l => by rw [List.map_map]; rfl
  have hl3 := parts_len h
  have hfin : (w ++ (" " : Str)).length + (Txt.join (sepS c) ((partsD c).map cmpT)).length ≤ 16000000 := by
    rw [str_app, e1]; omega
  have hjo2 := hjo
  simp only [List.map_map] at hjo2
  refine eq_of_T fun st => ?_
  by_cases hk : jn (hdD c) = true
  · obtain ⟨z, hz, hzl⟩ : ∃ z, hdD c = .str z ∧ z.length ≤ 3 := by
      have hk2 := hk
      unfold jn at hk2
      rcases (Bool.or_eq_true _ _).mp hk2 with k | k
      · exact ⟨_, isS_str k, by decide⟩
      · exact ⟨_, isS_str k, by decide⟩
    have nn : opIsN true (.str z) .non = pure (.bl true) := rfl
    have es : sepS c = Str.empty ++ " " ++ z ++ " " := by unfold sepS; rw [if_pos hk, hz]; rfl
    rw [if_pos hk, hz] at hj
    rw [p_condition_line, t_run, p_condition_line_b, t_asg]
    simp [hj]
    rw [t_asg]
    simp [hp]
    refine ⟨by omega, ?_⟩
    rw [e _ (by simp [wipeE])]
    simp
    rw [t_ret1]
    have k1 : (Str.empty ++ (" " : Str)).length ≤ 16000000 := by decide
    have k2 : (Str.empty ++ (" " : Str) ++ z).length ≤ 16000000 := by rw [str_app, str_app, e1, l0]; omega
    have k3 : (Str.empty ++ (" " : Str) ++ z ++ " ").length ≤ 16000000 := by rw [str_app, str_app, str_app, e1, l0]; omega
    simp [nn, tt, k1, k2, k3, lm, ← es]
    refine ⟨by rw [e1]; omega, by omega, by omega, ?_⟩
    rw [hjo2]
    simp
    exact ⟨hfin, rfl⟩
  · have es : sepS c = "" := by unfold sepS; rw [if_neg hk]
    rw [if_neg hk] at hj
    rw [p_condition_line, t_run, p_condition_line_b, t_asg]
    simp [hj]
    rw [t_asg]
    simp [hp]
    refine ⟨by omega, ?_⟩
    rw [e _ (by simp [wipeE])]
    simp
    rw [t_ret1]
    simp [isNN_non, tt, lm, ← es]
    refine ⟨by rw [e1]; omega, ?_⟩
    rw [hjo2]
    simp
    exact ⟨hfin, rfl⟩

theorem tt_s (z : Str) : isTy "str" (.str z) = pure () := rfl
def textS : D → Str
  | .tup [a, b] => Txt.join "\n" [lineS "down" a, lineS "up" b]
  | _ => Str.empty
theorem jn_cmp {c : D} (h : IsCmp c) : jn (hdD c) = false := by
  obtain ⟨s, p, r, hs, hp, hr, rfl⟩ := h
  exact wd_jn (isWd_B hs)
/-! ### == of rules -/
theorem pt_inj {x y : D} (hx : IsPt x) (hy : IsPt y) (h : deq x y = true) : x = y := by
  rcases hx with rfl | ⟨s, v, hs, _, _, rfl⟩ <;> rcases hy with rfl | ⟨t, u, ht, _, _, rfl⟩
  · rfl
  · simp [pys, PyData.eqvAll] at h
  · simp [pys, PyData.eqvAll] at h
  · simp [isS] at h
    rw [h.1, h.2]
/-! ### a single change changes the text -/
def ptsAll : List D := .tup [.str "pointer"] :: (["held", "place", "next"] : List Str).flatMap fun s => ([0, 1, 2, 3, 4] : List Int).map fun v => .tup [.str s, .int v]
def wdsAll : List Str := ["below", "above", "not below", "not above"]
theorem pts_mem {x : D} (h : IsPt x) : x ∈ ptsAll := by
  rcases h with rfl | ⟨s, v, hs, h0, h1, rfl⟩
  · exact List.mem_cons_self
  · refine List.mem_cons_of_mem _ (List.mem_flatMap.mpr ⟨s, by simpa using hs, List.mem_map.mpr ⟨v, ?_, rfl⟩⟩)
    have : v = 0 ∨ v = 1 ∨ v = 2 ∨ v = 3 ∨ v = 4 := by omega
    simpa using this
theorem wds_mem {w : Str} (h : IsWd w) : w ∈ wdsAll := by
  rcases h with rfl | rfl | rfl | rfl <;> simp [wdsAll]
theorem tl_app (a b : Str) : (a ++ b).cps.toList = a.cps.toList ++ b.cps.toList := Array.toList_append
theorem tj (z : Str) (l : List Str) : Txt.join z l = Str.join z l := PySem.StrLaws.glued_eq_join z l
theorem multi {c : D} (h : IsCond c) : (1 < (partsD c).length ∧ jn (hdD c) = true) ∨ ((partsD c).length = 1 ∧ jn (hdD c) = false) := by
  rcases h with h | ⟨s, cs, hs, h0, h1, hc, rfl⟩
  · exact .inr ⟨by rw [partsD_cmp h]; rfl, jn_cmp h⟩
  · refine .inl ⟨?_, jn_s hs⟩
    have hp : partsD (.tup (.str s :: cs)) = cs := by simp only [partsD]; rw [if_pos hs]
    rw [hp]; omega
theorem pt_items {a : D} (h : IsPt a) : ∃ as : List D, a = .tup as ∧ as.length ≤ 2 ∧ ptW a = as.map wordS ∧ ∀ d ∈ as, biStr d = pure (.str (wordS d)) := by
  rcases h with rfl | ⟨s, v, hs, h0, h1, rfl⟩
  · exact ⟨_, rfl, by simp, rfl, fun d hd => by simp at hd; subst hd; rfl⟩
  · refine ⟨_, rfl, by simp, rfl, fun d hd => ?_⟩
    simp at hd
    rcases hd with rfl | rfl
    · rfl
    · show guardM (decide (v.natAbs.log2 < 1920)) (pure (.str (Str.ofString (toString v)))) = _
      have : decide (v.natAbs.log2 < 1920) = true := decide_eq_true (Nat.lt_of_lt_of_le (lg h0 (by omega)) (by decide))
      rw [this]; rfl
abbrev txB : DenS := (dExpr (dMeth "list" mAppend (dVar 4) (dCons (dMeth "str" mJoin (dC (.str " ")) (dCons (dLc (iVal (d2 opAdd (d2 opAdd (d2 opIx (dVar 5) (dC (.int 1))) (dSl (dVar 5) (oNone) (oSome (dC (.int 1))))) (d2 opIx (dVar 5) (dC (.int 2))))) [7] (.nm 7) (bTrue) (dCall (on1 biStr) (dCons (dVar 7) (dNil)))) (dNil))) (dNil))))
theorem tx_step {p : D} {n : Nat} {acc : List Str} {x0 x1 x2 x3 x6 x7 : Option D} {st : Store} (hp : IsCmp p) (hm : st[n]? = some (.lst (acc.map D.str))) (hl : acc.length ≤ 1000) :
    T (txB [x0, x1, x2, x3, some (.ref n), some p, x6, x7]) st (fun r s => r = .nx [x0, x1, x2, x3, some (.ref n), some p, x6, x7] ∧ s = st.set n (.lst ((acc ++ [cmpT p]).map D.str))) := by
  have hcw := cmpW_len hp
  have hsl := sumS_le hcw.2
  have hjn := join_l (z := " ") (ss := cmpW p) (by have e : (" " : Str).length = 1 := rfl; rw [e]; omega)
  obtain ⟨w, a, b, hw, ha, hb, rfl⟩ := hp
  obtain ⟨as, rfl, la, pa, ia⟩ := pt_items ha
  obtain ⟨bs, rfl, lb, pb, ib⟩ := pt_items hb
  have hcm : (cmpW (.tup [.str w, .tup as, .tup bs])).map D.str = (as ++ (.str w :: bs)).map fun d => D.str (wordS d) := by
    show ((ptW (.tup as) ++ [w] ++ ptW (.tup bs)).map D.str) = _
    rw [pa, pb, List.append_assoc]
    simp only [List.map_append, List.map_map, List.singleton_append, List.map_cons]
    rfl
  have hcu : cutL [D.str w, .tup as, .tup bs] none (some 1) = [D.str w] := rfl
  have k := fun (ρ : MP.Env) (h7 : 7 < ρ.length) => lc_all (t := .nm 7) (f := dCall (on1 biStr) (dCons (dVar 7) (dNil))) (ρ := ρ) (e := id) (g := fun d => D.str (wordS d)) (xs := as ++ (.str w :: bs)) fun x hx => ⟨_, rfl, by
    have hx' : biStr x = pure (.str (wordS x)) := by
      rcases List.mem_append.mp hx with hx | hx
      · exact ia x hx
      · rcases List.mem_cons.mp hx with rfl | hx
        · rfl
        · exact ib x hx
    simp [h7, hx']⟩
  simp only [List.map_id] at k
  rw [t_exp1]
  simp [at_one, at_two, hm, hcu]
  refine ⟨by omega, by omega, by omega, ?_⟩
  rw [k _ (by simp [wipeE])]
  rw [← hcm]
  simp only [t_pure, t_bind]
  simp [tt_s, hjn, hm]
  refine ⟨by omega, ?_⟩
  rfl
theorem tx_loop {n : Nat} {x0 x1 x2 x3 x6 x7 : Option D} : ∀ (ps : List D) (acc : List Str) (x5 : Option D) (st : Store), (∀ p ∈ ps, IsCmp p) → st[n]? = some (.lst (acc.map D.str)) → acc.length + ps.length ≤ 1000 →
    T (forL (fun d ρ => gOf (.nm 5) d ρ >>= txB) ps [x0, x1, x2, x3, some (.ref n), x5, x6, x7]) st (fun r s => (∃ y5, r = .nx [x0, x1, x2, x3, some (.ref n), y5, x6, x7]) ∧ s[n]? = some (.lst ((acc ++ ps.map cmpT).map D.str)) ∧ Low n st s)
  | [], acc, x5, st, _, hm, _ => ⟨⟨x5, rfl⟩, by simpa using hm, Low.refl (Nat.le_of_lt (List.getElem?_eq_some_iff.mp hm).1)⟩
  | p :: ps, acc, x5, st, h, hm, hl => by
    simp only [List.length_cons] at hl
    have hms := (List.getElem?_eq_some_iff.mp hm).1
    unfold forL
    rw [t_bind]
    simp only [gOf_nm, pure_bind, List.set]
    refine (tx_step (h p List.mem_cons_self) hm (by omega)).mono fun r s hr => ?_
    obtain ⟨rfl, rfl⟩ := hr
    simp only
    refine (tx_loop ps (acc ++ [cmpT p]) _ (st.set n (.lst ((acc ++ [cmpT p]).map D.str))) (fun q hq => h q (List.mem_cons_of_mem _ hq)) (set_get hm) (by rw [List.length_append]; simp; omega)).mono fun r s hr => ?_
    obtain ⟨⟨y5, rfl⟩, hm2, lw⟩ := hr
    refine ⟨⟨y5, rfl⟩, by rw [hm2]; simp, ?_⟩
    exact (Low.set (Nat.le_of_lt hms) (Nat.le_refl _)).trans lw
abbrev lnB : DenS := (dSeq (dAsg (dOwn (dNil)) (gSet 4)) <|
  dSeq (dFor (iVal (dCall (arity 1 l_parts) (dCons (dVar 3) (dNil)))) (gOf (.nm 5)) txB) <|
  dSeq (dAsg (dIf (bVal (d2 opGt (dCall (on1 biLen) (dCons (dVar 4) (dNil))) (dC (.int 1)))) (d2 opAdd (d2 opAdd (dC (.str " ")) (d2 opIx (dVar 3) (dC (.int 0)))) (dC (.str " "))) (dC (.str ""))) (gSet 6)) <|
  dExpr (dMeth "list" mAppend (dVar 1) (dCons (d2 opAdd (d2 opAdd (dVar 2) (dC (.str " "))) (dMeth "str" mJoin (dVar 6) (dCons (dVar 4) (dNil)))) (dNil))))
theorem ln_step {c : D} {w : Str} {n : Nat} {acc : List Str} {x0 x4 x5 x6 x7 : Option D} {st : Store} (h : IsCond c) (hw : w.length ≤ 10) (hm : st[n]? = some (.lst (acc.map D.str))) (hl : acc.length ≤ 1000) :
    T (lnB [x0, some (.ref n), some (.str w), some c, x4, x5, x6, x7]) st (fun r s => (∃ y4 y5 y6, r = .nx [x0, some (.ref n), some (.str w), some c, y4, y5, y6, x7]) ∧ s[n]? = some (.lst ((acc ++ [lineS w c]).map D.str)) ∧ Low n st s) := by
  have h3 := parts_len h
  have hs := parts_sum h
  have hjl := jl (sepS c) ((partsD c).map cmpT)
  have hjo := join_l (z := sepS c) (ss := (partsD c).map cmpT) (by omega)
  obtain ⟨s0, r0, ec, hs0, hpp⟩ := cond_hd h
  have hx : opIx c (.int 0) = pure (hdD c) := by rw [ec]; simp [at_zero, hdD]
  have hms := (List.getElem?_eq_some_iff.mp hm).1
  have e1 : (" " : Str).length = 1 := rfl
  have hfin : (w ++ (" " : Str)).length + (Txt.join (sepS c) ((partsD c).map cmpT)).length ≤ 16000000 := by
    rw [str_app, e1]; omega
  have hin := fun (x1 x2 x3 x5 x6 x7 : Option D) => tx_loop (n := st.length) (x0 := x0) (x1 := x1) (x2 := x2) (x3 := x3) (x6 := x6) (x7 := x7) (partsD c) [] x5 (st ++ [.lst []]) (parts_cmp h) (by simp) (by simp; omega)
  have l0 : Low st.length st (st ++ [Cell.lst []]) := Low.ext (Nat.le_refl _) ⟨_, rfl⟩
  rw [t_asg]
  simp
  rw [t_for]
  simp [l_parts_eq h]
  refine (hin _ _ _ _ _ _).mono fun r s hr => ?_
  obtain ⟨⟨y5, rfl⟩, hc4, lw⟩ := hr
  simp only [List.nil_append] at hc4
  have lw' := l0.trans lw
  have hmn : s[n]? = some (.lst (acc.map D.str)) := by rw [lw'.2 n hms]; exact hm
  simp only
  have tail : ∀ z : Str, z = sepS c → T (dExpr (dMeth "list" mAppend (dVar 1) (dCons (d2 opAdd (d2 opAdd (dVar 2) (dC (.str " "))) (dMeth "str" mJoin (dVar 6) (dCons (dVar 4) (dNil)))) (dNil))) [x0, some (.ref n), some (.str w), some c, some (.ref st.length), y5, some (.str z), x7]) s (fun r s => (∃ y4 y5 y6, r = .nx [x0, some (.ref n), some (.str w), some c, y4, y5, y6, x7]) ∧ s[n]? = some (.lst ((acc ++ [lineS w c]).map D.str)) ∧ Low n st s) := fun z hz => by
    subst hz
    rw [t_exp1]
    have hjm : T (mJoin (.str (sepS c)) [.ref st.length]) s (fun d s' => d = .str (Txt.join (sepS c) ((partsD c).map cmpT)) ∧ s' = s) := by
      show T (lstOf (.ref st.length) >>= joinL (sepS c)) s _
      rw [t_bind, t_lstr, hc4]
      have : joinL (sepS c) (((partsD c).map cmpT).map D.str) = pure (.str (Txt.join (sepS c) ((partsD c).map cmpT))) := hjo
      simp only [lcl_s, t_pure, this]
      first | exact ⟨rfl, rfl⟩ | exact ⟨trivial, rfl⟩ | trivial
    simp [hmn, tt_s, e1]
    refine ⟨by omega, ?_⟩
    refine hjm.mono fun d s' hd => ?_
    obtain ⟨rfl, rfl⟩ := hd
    simp [hmn]
    refine ⟨hfin, by omega, ?_, ?_⟩
    · rw [set_get hmn]
      simp [lineS]
    · exact (lw'.le (Nat.le_of_lt hms)).trans (Low.set (by have := lw'.1; omega) (Nat.le_refl _))
  simp only [List.map_append, List.map_cons, List.map_nil] at tail
  rw [t_asg]
  simp [hc4]
  rcases multi h with ⟨m1, m2⟩ | ⟨m1, m2⟩
  · have hhd : hdD c = .str s0 := by rw [ec]; rfl
    have hj0 : jn (.str s0) = true := by rw [ec] at m2; exact m2
    have l0' : s0.length ≤ 3 := by
      unfold jn at hj0
      rcases (Bool.or_eq_true _ _).mp hj0 with k | k
      · have := isS_str k; injection this with this; rw [this]; decide
      · have := isS_str k; injection this with this; rw [this]; decide
    refine ⟨fun _ => ?_, fun e => absurd e (by omega)⟩
    rw [hx, hhd]
    simp [e1, str_app]
    refine ⟨by omega, by omega, ?_⟩
    refine tail _ ?_
    unfold sepS
    rw [if_pos m2, hhd]
    show _ = Str.empty ++ " " ++ s0 ++ " "
    rw [Str.empty_append]
  · refine ⟨fun e => absurd e (by omega), fun _ => ?_⟩
    refine tail _ ?_
    unfold sepS
    rw [m2]
    rfl
theorem l_text_gen {x : D} {st : Store} (h : IsRule x) : T (l_text [x]) st (fun d s => d = .str (textS x) ∧ Low st.length st s) := by
  obtain ⟨a, b, ha, hb, rfl⟩ := h
  have h1 := line_len (w := "down") ha (by decide +kernel)
  have h2 := line_len (w := "up") hb (by decide +kernel)
  have hjo := join_l (z := "\n") (ss := [lineS "down" a, lineS "up" b]) (by have e : ("\n" : Str).length = 1 := rfl; rw [e]; simp; omega)
  have l0 : Low st.length st (st ++ [Cell.lst []]) := Low.ext (Nat.le_refl _) ⟨_, rfl⟩
  rw [l_text, t_run, l_text_b, t_asg]
  simp
  rw [t_for]
  simp
  unfold forL
  rw [t_bind]
  have eb : ∀ (w : Str) (c : D) (x1 x2 x3 x4 x5 x6 x7 : Option D), gOf (.tup [.nm 2, .nm 3]) (.tup [.str w, c]) [some (.tup [a, b]), x1, x2, x3, x4, x5, x6, x7] = pure [some (.tup [a, b]), x1, some (.str w), some c, x4, x5, x6, x7] := fun w c x1 x2 x3 x4 x5 x6 x7 => by
    unfold gOf
    rw [tgb2]; rfl
  rw [eb]
  simp only [pure_bind]
  refine (ln_step (acc := []) ha (by decide +kernel) (by simp) (by simp)).mono fun r s1 hr => ?_
  obtain ⟨⟨y4, y5, y6, rfl⟩, hm1, lw1⟩ := hr
  simp only
  unfold forL
  rw [t_bind, eb]
  simp only [pure_bind]
  refine (ln_step hb (by decide +kernel) hm1 (by simp)).mono fun r s2 hr => ?_
  obtain ⟨⟨z4, z5, z6, rfl⟩, hm2, lw2⟩ := hr
  simp only
  unfold forL
  simp only [t_pure]
  rw [t_ret1]
  have hjm : T (mJoin (.str "\n") [.ref st.length]) s2 (fun d s' => d = .str (textS (.tup [a, b])) ∧ s' = s2) := by
    show T (lstOf (.ref st.length) >>= joinL "\n") s2 _
    rw [t_bind, t_lstr, hm2]
    have : joinL "\n" (([] ++ [lineS "down" a] ++ [lineS "up" b]).map D.str) = pure (.str (Txt.join "\n" [lineS "down" a, lineS "up" b])) := hjo
    simp only [lcl_s, t_pure, this]
    first | exact ⟨rfl, rfl⟩ | exact ⟨trivial, rfl⟩ | trivial
  simp [tt_s]
  refine hjm.mono fun d s' hd => ?_
  obtain ⟨rfl, rfl⟩ := hd
  exact ⟨rfl, (l0.trans lw1).trans lw2⟩

/-! ### texts are of good signs -/
theorem ok_app {a b : Str} (ha : PyData.strOk a = true) (hb : PyData.strOk b = true) : PyData.strOk (a ++ b) = true := by
  unfold PyData.strOk at *
  show (a.cps ++ b.cps).all _ = true
  rw [Array.all_append, ha, hb]; rfl
theorem ok_joinS {z : Str} (hz : PyData.strOk z = true) : ∀ {l : List Str}, (∀ w ∈ l, PyData.strOk w = true) → PyData.strOk (Str.join z l) = true
  | [], _ => by unfold Str.join; decide +kernel
  | [a], h => by
    unfold Str.join
    simpa using h
  | a :: b :: r, h => by
    unfold Str.join
    exact ok_app (ok_app (h a (by simp)) hz) (ok_joinS hz fun w hw => h w (by simp at hw ⊢; exact .inr hw))
theorem ok_join {z : Str} (hz : PyData.strOk z = true) {l : List Str} (h : ∀ w ∈ l, PyData.strOk w = true) : PyData.strOk (Txt.join z l) = true := by
  rw [show Txt.join z l = Str.join z l from PySem.StrLaws.glued_eq_join z l]
  exact ok_joinS hz h
theorem ok_pt {p : D} (h : IsPt p) : ∀ w ∈ ptW p, PyData.strOk w = true := by
  intro x hx
  rcases h with rfl | ⟨w, v, hw, h0, h1, rfl⟩
  · simp [ptW, wordS] at hx; subst hx; decide +kernel
  · simp only [ptW, List.map, List.mem_cons, List.not_mem_nil, or_false] at hx
    rcases hx with rfl | rfl
    · rcases hw with rfl | rfl | rfl <;> decide +kernel
    · have : v = 0 ∨ v = 1 ∨ v = 2 ∨ v = 3 ∨ v = 4 := by omega
      rcases this with rfl | rfl | rfl | rfl | rfl <;> decide +kernel
theorem ok_cmp {c : D} (h : IsCmp c) : PyData.strOk (cmpT c) = true := by
  obtain ⟨w, a, b, hw, ha, hb, rfl⟩ := h
  refine ok_join (by decide +kernel) fun x hx => ?_
  simp only [cmpW, List.append_assoc, List.mem_append, List.mem_singleton] at hx
  rcases hx with hx | rfl | hx
  · exact ok_pt ha x hx
  · rcases hw with rfl | rfl | rfl | rfl <;> decide +kernel
  · exact ok_pt hb x hx
theorem ok_sep {c : D} : PyData.strOk (sepS c) = true := by
  unfold sepS
  split
  · rename_i hj
    unfold jn at hj
    rcases (Bool.or_eq_true _ _).mp hj with k | k <;> rw [isS_str k] <;> decide +kernel
  · decide +kernel
theorem ok_line {w : Str} {c : D} (h : IsCond c) (hw : PyData.strOk w = true) : PyData.strOk (lineS w c) = true :=
  ok_app (ok_app hw (by decide +kernel)) (ok_join ok_sep fun x hx => by
    obtain ⟨p, hp, rfl⟩ := List.mem_map.mp hx
    exact ok_cmp (parts_cmp h p hp))
theorem text_ok {a b : D} (ha : IsCond a) (hb : IsCond b) : PyData.strOk (textS (.tup [a, b])) = true :=
  ok_join (by decide +kernel) fun x hx => by
    simp at hx
    rcases hx with rfl | rfl
    · exact ok_line ha (by decide +kernel)
    · exact ok_line hb (by decide +kernel)

/-! ### unlike rules have unlike texts -/
abbrev tl (s : Str) : List Nat := s.cps.toList
theorem tl_ap (a b : Str) : tl (a ++ b) = tl a ++ tl b := tl_app a b
def ptT (p : D) : Str := Txt.join " " (ptW p)
theorem pre_of {x y r t : List Nat} (h : x ++ r = y ++ t) : x.isPrefixOf y = true ∨ y.isPrefixOf x = true := by
  have a : x <+: y ++ t := ⟨r, h⟩
  have b : y <+: y ++ t := ⟨t, rfl⟩
  rcases List.prefix_or_prefix_of_prefix a b with k | k
  · exact .inl (List.isPrefixOf_iff_prefix.mpr k)
  · exact .inr (List.isPrefixOf_iff_prefix.mpr k)
theorem pt_pre : (ptsAll.all fun p => ptsAll.all fun q => !(tl (ptT p)).isPrefixOf (tl (ptT q)) || deq p q) = true := by decide +kernel
theorem wd_pre : (wdsAll.all fun p => wdsAll.all fun q => !(tl p).isPrefixOf (tl q) || (p == q)) = true := by decide +kernel
theorem ptC {p q : D} {r t : List Nat} (hp : IsPt p) (hq : IsPt q) (h : tl (ptT p) ++ r = tl (ptT q) ++ t) : p = q ∧ r = t := by
  have e : p = q := by
    rcases pre_of h with k | k
    · have := List.all_eq_true.mp (List.all_eq_true.mp pt_pre p (pts_mem hp)) q (pts_mem hq)
      rw [k] at this
      exact pt_inj hp hq (by simpa using this)
    · have := List.all_eq_true.mp (List.all_eq_true.mp pt_pre q (pts_mem hq)) p (pts_mem hp)
      rw [k] at this
      exact (pt_inj hq hp (by simpa using this)).symm
  subst e
  exact ⟨rfl, List.append_cancel_left h⟩
theorem wdC {p q : Str} {r t : List Nat} (hp : IsWd p) (hq : IsWd q) (h : tl p ++ r = tl q ++ t) : p = q ∧ r = t := by
  have e : p = q := by
    rcases pre_of h with k | k
    · have := List.all_eq_true.mp (List.all_eq_true.mp wd_pre p (wds_mem hp)) q (wds_mem hq)
      rw [k] at this
      simpa using this
    · have := List.all_eq_true.mp (List.all_eq_true.mp wd_pre q (wds_mem hq)) p (wds_mem hp)
      rw [k] at this
      exact (show q = p by simpa using this).symm
  subst e
  exact ⟨rfl, List.append_cancel_left h⟩
theorem cmp_tl : (wdsAll.all fun w => ptsAll.all fun p => ptsAll.all fun r => tl (cmpT (.tup [.str w, p, r])) == tl (ptT p) ++ 32 :: (tl w ++ 32 :: tl (ptT r))) = true := by decide +kernel
theorem cmpC {c d : D} {r t : List Nat} (hc : IsCmp c) (hd : IsCmp d) (h : tl (cmpT c) ++ r = tl (cmpT d) ++ t) : c = d ∧ r = t := by
  obtain ⟨w, p, q, hw, hp, hq, rfl⟩ := hc
  obtain ⟨w2, p2, q2, hw2, hp2, hq2, rfl⟩ := hd
  have e1 : tl (cmpT (.tup [.str w, p, q])) = tl (ptT p) ++ 32 :: (tl w ++ 32 :: tl (ptT q)) := eq_of_beq (List.all_eq_true.mp (List.all_eq_true.mp (List.all_eq_true.mp cmp_tl w (wds_mem hw)) p (pts_mem hp)) q (pts_mem hq))
  have e2 : tl (cmpT (.tup [.str w2, p2, q2])) = tl (ptT p2) ++ 32 :: (tl w2 ++ 32 :: tl (ptT q2)) := eq_of_beq (List.all_eq_true.mp (List.all_eq_true.mp (List.all_eq_true.mp cmp_tl w2 (wds_mem hw2)) p2 (pts_mem hp2)) q2 (pts_mem hq2))
  rw [e1, e2, List.append_assoc, List.append_assoc] at h
  obtain ⟨rfl, h1⟩ := ptC hp hp2 h
  have h2 := (List.cons.inj (show 32 :: (tl w ++ 32 :: tl (ptT q) ++ r) = 32 :: (tl w2 ++ 32 :: tl (ptT q2) ++ t) from h1)).2
  rw [List.append_assoc, List.append_assoc] at h2
  obtain ⟨rfl, h3⟩ := wdC hw hw2 h2
  have h4 := (List.cons.inj (show 32 :: (tl (ptT q) ++ r) = 32 :: (tl (ptT q2) ++ t) from h3)).2
  obtain ⟨rfl, h5⟩ := ptC hq hq2 h4
  exact ⟨rfl, h5⟩
def chainT (sp : List Nat) (cs : List D) : List Nat := cs.flatMap fun c => sp ++ tl (cmpT c)
theorem chainC {sp : List Nat} (hs : sp.head? = some 32) : ∀ {cs ds : List D} {r t : List Nat}, (∀ c ∈ cs, IsCmp c) → (∀ c ∈ ds, IsCmp c) → r.head? ≠ some 32 → t.head? ≠ some 32 → chainT sp cs ++ r = chainT sp ds ++ t → cs = ds ∧ r = t
  | [], [], _, _, _, _, _, _, h => ⟨rfl, h⟩
  | [], d :: ds, r, t, _, _, hr, _, h => by
    refine absurd ?_ hr
    have h' : r = chainT sp (d :: ds) ++ t := h
    rw [h']
    unfold chainT
    rw [List.flatMap_cons, List.append_assoc, List.append_assoc, List.head?_append, hs]
    rfl
  | c :: cs, [], r, t, _, _, _, ht, h => by
    refine absurd ?_ ht
    have h' : chainT sp (c :: cs) ++ r = t := h
    rw [← h']
    unfold chainT
    rw [List.flatMap_cons, List.append_assoc, List.append_assoc, List.head?_append, hs]
    rfl
  | c :: cs, d :: ds, r, t, hc, hd, hr, ht, h => by
    unfold chainT at h
    rw [List.flatMap_cons, List.flatMap_cons, List.append_assoc, List.append_assoc, List.append_assoc, List.append_assoc] at h
    have h1 := List.append_cancel_left h
    obtain ⟨rfl, h2⟩ := cmpC (hc c List.mem_cons_self) (hd d List.mem_cons_self) h1
    obtain ⟨rfl, e⟩ := chainC hs (fun x hx => hc x (List.mem_cons_of_mem _ hx)) (fun x hx => hd x (List.mem_cons_of_mem _ hx)) hr ht (show chainT sp cs ++ r = chainT sp ds ++ t from h2)
    exact ⟨rfl, e⟩
def PA (c : D) : List Nat := tl (Txt.join (sepS c) ((partsD c).map cmpT))
theorem join_chain {z : Str} : ∀ (c : D) (cs : List D), tl (Txt.join z ((c :: cs).map cmpT)) = tl (cmpT c) ++ chainT (tl z) cs
  | c, [] => by
    rw [tj]
    show tl (cmpT c) = tl (cmpT c) ++ []
    rw [List.append_nil]
  | c, d :: cs => by
    have ih := join_chain (z := z) d cs
    rw [tj] at ih ⊢
    show tl (cmpT c ++ z ++ Str.join z ((d :: cs).map cmpT)) = _
    rw [tl_ap, tl_ap, ih]
    simp [chainT, List.append_assoc]
theorem sep_and {cs : List D} : tl (sepS (.tup (.str "and" :: cs))) = [32, 97, 110, 100, 32] := by
  show tl (if jn (.str "and") = true then Str.empty ++ " " ++ wordS (.str "and") ++ " " else "") = _
  rw [if_pos (jn_s (.inl rfl))]
  decide +kernel
theorem sep_or {cs : List D} : tl (sepS (.tup (.str "or" :: cs))) = [32, 111, 114, 32] := by
  show tl (if jn (.str "or") = true then Str.empty ++ " " ++ wordS (.str "or") ++ " " else "") = _
  rw [if_pos (jn_s (.inr rfl))]
  decide +kernel
/-- how the text of a condition looks -/
theorem PA_form {c : D} (h : IsCond c) : ∃ sp d ds, PA c = tl (cmpT d) ++ chainT sp ds ∧ sp.head? = some 32 ∧ IsCmp d ∧ (∀ x ∈ ds, IsCmp x) ∧ ((ds = [] ∧ c = d) ∨ (ds ≠ [] ∧ ((sp = [32, 97, 110, 100, 32] ∧ c = .tup (.str "and" :: d :: ds)) ∨ (sp = [32, 111, 114, 32] ∧ c = .tup (.str "or" :: d :: ds))))) := by
  rcases h with h | ⟨s, cs, hs, h0, h1, hc, rfl⟩
  · refine ⟨[32], c, [], ?_, rfl, h, fun x hx => by simp at hx, .inl ⟨rfl, rfl⟩⟩
    unfold PA
    rw [partsD_cmp h, join_chain]
    simp [chainT]
  · have hp : partsD (.tup (.str s :: cs)) = cs := by simp only [partsD]; rw [if_pos hs]
    match cs, h0, hc, hp with
    | d :: e :: ds, _, hc, hp =>
      refine ⟨tl (sepS (.tup (.str s :: d :: e :: ds))), d, e :: ds, ?_, ?_, hc d (by simp), fun x hx => hc x (List.mem_cons_of_mem _ hx), .inr ⟨by simp, ?_⟩⟩
      · unfold PA
        rw [hp, join_chain]
      · rcases hs with rfl | rfl
        · rw [sep_and]; rfl
        · rw [sep_or]; rfl
      · rcases hs with rfl | rfl
        · exact .inl ⟨sep_and, rfl⟩
        · exact .inr ⟨sep_or, rfl⟩
theorem condC {c d : D} {r t : List Nat} (hc : IsCond c) (hd : IsCond d) (hr : r.head? ≠ some 32) (ht : t.head? ≠ some 32) (h : PA c ++ r = PA d ++ t) : c = d ∧ r = t := by
  obtain ⟨sp, x, xs, e1, s1, hx, hxs, k1⟩ := PA_form hc
  obtain ⟨sq, y, ys, e2, s2, hy, hys, k2⟩ := PA_form hd
  rw [e1, e2, List.append_assoc, List.append_assoc] at h
  obtain ⟨rfl, h0⟩ := cmpC hx hy h
  replace h := h0
  have hd1 : ∀ {sp : List Nat} {xs : List D} {u : List Nat}, sp.head? = some 32 → xs ≠ [] → (chainT sp xs ++ u).head? = some 32 := fun {sp xs u} hs hn => by
    match xs, hn with
    | a :: as, _ =>
      unfold chainT
      rw [List.flatMap_cons, List.append_assoc, List.append_assoc, List.head?_append, hs]
      rfl
  rcases k1 with ⟨rfl, rfl⟩ | ⟨n1, k1⟩
  · rcases k2 with ⟨rfl, rfl⟩ | ⟨n2, k2⟩
    · exact ⟨rfl, h⟩
    · exact absurd (by rw [show r = chainT sq ys ++ t from h]; exact hd1 s2 n2) hr
  · rcases k2 with ⟨rfl, rfl⟩ | ⟨n2, k2⟩
    · exact absurd (by rw [← (show chainT sp xs ++ r = t from h)]; exact hd1 s1 n1) ht
    · have same : sp = sq := by
        have e : (chainT sp xs ++ r)[1]? = (chainT sq ys ++ t)[1]? := by rw [h]
        match xs, ys, n1, n2 with
        | a :: as, b :: bs, _, _ =>
          rcases k1 with ⟨rfl, _⟩ | ⟨rfl, _⟩ <;> rcases k2 with ⟨rfl, _⟩ | ⟨rfl, _⟩
          · rfl
          · simp [chainT] at e
          · simp [chainT] at e
          · rfl
      subst same
      obtain ⟨rfl, e⟩ := chainC s1 hxs hys hr ht h
      refine ⟨?_, e⟩
      rcases k1 with ⟨rfl, rfl⟩ | ⟨rfl, rfl⟩ <;> rcases k2 with ⟨q, rfl⟩ | ⟨q, rfl⟩
      · rfl
      · simp at q
      · simp at q
      · rfl
theorem line_tl {w : Str} {c : D} : tl (lineS w c) = tl w ++ 32 :: PA c := by
  unfold lineS
  rw [tl_ap, tl_ap, List.append_assoc]
  rfl
theorem text_inj {x y : D} (hx : IsRule x) (hy : IsRule y) (h : textS x = textS y) : x = y := by
  obtain ⟨a, b, ha, hb, rfl⟩ := hx
  obtain ⟨c, d, hc, hd, rfl⟩ := hy
  have e : ∀ a b : D, tl (textS (.tup [a, b])) = tl "down" ++ 32 :: (PA a ++ 10 :: (tl "up" ++ 32 :: PA b)) := fun a b => by
    show tl (Txt.join "\n" [lineS "down" a, lineS "up" b]) = _
    rw [tj]
    show tl (lineS "down" a ++ "\n" ++ lineS "up" b) = _
    rw [tl_ap, tl_ap, line_tl, line_tl, List.append_assoc, List.append_assoc]
    rfl
  have h2 := congrArg tl h
  rw [e, e] at h2
  have h3 := (List.cons.inj (List.append_cancel_left h2)).2
  obtain ⟨rfl, h4⟩ := condC ha hc (by simp) (by simp) h3
  have h5 := (List.cons.inj (List.append_cancel_left (List.cons.inj h4).2)).2
  obtain ⟨rfl, _⟩ := condC (r := []) (t := []) hb hd (by simp) (by simp) (by rw [List.append_nil, List.append_nil]; exact h5)
  rfl

theorem src_app {st : Store} {n : Nat} {c : Cell} (h : Src st n) : Src (st ++ [c]) n := by
  obtain ⟨a, b, h1, h2⟩ := h
  exact ⟨a, b, by rw [List.getElem?_append_left (List.getElem?_eq_some_iff.mp h1).1]; exact h1, h2⟩
/-! texts of rules are read -/
/-! ### splitting what was joined -/
def joinN (c : Nat) : List (List Nat) → List Nat
  | [] => []
  | [a] => a
  | a :: b :: r => a ++ c :: joinN c (b :: r)
theorem cut_eq {c : Nat} : ∀ {a b x y : List Nat}, c ∉ a → c ∉ b → a ++ c :: x = b ++ c :: y → a = b ∧ x = y
  | [], [], x, y, _, _, h => by simpa using h
  | [], k :: b, x, y, _, hb, h => by
    simp at h
    exact absurd (by rw [h.1]; simp) hb
  | k :: a, [], x, y, ha, _, h => by
    simp at h
    exact absurd (by rw [h.1]; simp) ha
  | k :: a, l :: b, x, y, ha, hb, h => by
    simp at h
    obtain ⟨rfl, h⟩ := h
    obtain ⟨rfl, rfl⟩ := cut_eq (fun q => ha (List.mem_cons_of_mem _ q)) (fun q => hb (List.mem_cons_of_mem _ q)) h
    exact ⟨rfl, rfl⟩
theorem joinN_inj {c : Nat} : ∀ {as bs : List (List Nat)}, as ≠ [] → bs ≠ [] → (∀ a ∈ as, c ∉ a) → (∀ b ∈ bs, c ∉ b) → joinN c as = joinN c bs → as = bs
  | [], _, h, _, _, _, _ => absurd rfl h
  | _, [], _, h, _, _, _ => absurd rfl h
  | [a], [b], _, _, _, _, h => by simp only [joinN] at h; rw [h]
  | [a], b :: b2 :: bs, _, _, ha, _, h => by
    simp only [joinN] at h
    exact absurd (by rw [h]; simp) (ha a (by simp))
  | a :: a2 :: as, [b], _, _, _, hb, h => by
    simp only [joinN] at h
    exact absurd (by rw [← h]; simp) (hb b (by simp))
  | a :: a2 :: as, b :: b2 :: bs, _, _, ha, hb, h => by
    simp only [joinN] at h
    obtain ⟨e1, e2⟩ := cut_eq (ha a (by simp)) (hb b (by simp)) h
    rw [e1, joinN_inj (as := a2 :: as) (bs := b2 :: bs) (by simp) (by simp) (fun x hx => ha x (List.mem_cons_of_mem _ hx)) (fun x hx => hb x (List.mem_cons_of_mem _ hx)) e2]
abbrev cpL (s : Str) : List Nat := s.cps.toList
theorem cpL_app (a b : Str) : cpL (a ++ b) = cpL a ++ cpL b := by
  show (a.cps ++ b.cps).toList = _
  simp
theorem cpL_inj {a b : Str} (h : cpL a = cpL b) : a = b := Str.ext' (Array.toList_inj.mp h)
theorem joinS_cons {z a b : Str} {r : List Str} : Str.join z (a :: b :: r) = a ++ z ++ Str.join z (b :: r) := by
  rw [Str.join]
  simp
theorem joinS_one {z a : Str} : Str.join z [a] = a := by simp [Str.join]
theorem joinS_N {c : Nat} : ∀ {ws : List Str}, cpL (Str.join ⟨#[c]⟩ ws) = joinN c (ws.map cpL)
  | [] => by simp [Str.join, joinN]; rfl
  | [a] => by rw [joinS_one]; rfl
  | a :: b :: r => by
    rw [joinS_cons, cpL_app, cpL_app, joinS_N (ws := b :: r)]
    show cpL a ++ [c] ++ joinN c (cpL b :: List.map cpL r) = cpL a ++ c :: joinN c (cpL b :: List.map cpL r)
    simp
theorem tjoin {z : Str} {ws : List Str} : Txt.join z ws = Str.join z ws := PySem.StrLaws.glued_eq_join z ws
theorem split_joined {c : Nat} {ws : List Str} (hn : ws ≠ []) (h : ∀ w ∈ ws, c ∉ cpL w) : Txt.split (Txt.join ⟨#[c]⟩ ws) ⟨#[c]⟩ = ws := by
  rw [tjoin]
  have h1 := PySem.StrLaws.join_split (Str.join ⟨#[c]⟩ ws) ⟨#[c]⟩
  have h2 := PySem.StrLaws.split_free (Str.join ⟨#[c]⟩ ws) c
  have h3 := PyProof.Rows.split_pos (Str.join ⟨#[c]⟩ ws) ⟨#[c]⟩
  generalize Txt.split (Str.join ⟨#[c]⟩ ws) ⟨#[c]⟩ = vs at *
  have h4 := congrArg cpL h1
  rw [joinS_N, joinS_N] at h4
  have h5 := joinN_inj (c := c) (as := vs.map cpL) (bs := ws.map cpL) (fun e => by simp at e; rw [e] at h3; simp at h3) (fun e => hn (by simpa using e)) (fun a ha => by
    obtain ⟨w, hw, rfl⟩ := List.mem_map.mp ha
    exact h2 w hw) (fun a ha => by
    obtain ⟨w, hw, rfl⟩ := List.mem_map.mp ha
    exact h w hw) h4
  exact List.map_inj_right (fun _ _ q => cpL_inj q) |>.mp h5
theorem appS_assoc {a b c : Str} : a ++ b ++ c = a ++ (b ++ c) := cpL_inj (by rw [cpL_app, cpL_app, cpL_app, cpL_app, List.append_assoc])
theorem tjoin_one {z a : Str} : Txt.join z [a] = a := by rw [tjoin, joinS_one]
theorem tjoin_cons {z a b : Str} {r : List Str} : Txt.join z (a :: b :: r) = a ++ z ++ Txt.join z (b :: r) := by rw [tjoin, tjoin, joinS_cons]
theorem tjoin_cons' {z a : Str} {l : List Str} (h : l ≠ []) : Txt.join z (a :: l) = a ++ z ++ Txt.join z l := by
  cases l with
  | nil => exact absurd rfl h
  | cons b r => exact tjoin_cons
theorem tjoin_app {z : Str} : ∀ {as bs : List Str}, as ≠ [] → bs ≠ [] → Txt.join z (as ++ bs) = Txt.join z as ++ z ++ Txt.join z bs
  | [], _, h, _ => absurd rfl h
  | [a], bs, _, hb => by
    rw [tjoin_one]
    exact tjoin_cons' hb
  | a :: a2 :: as, bs, _, hb => by
    have ih := tjoin_app (z := z) (as := a2 :: as) (bs := bs) (by simp) hb
    show Txt.join z (a :: a2 :: (as ++ bs)) = _
    rw [tjoin_cons, tjoin_cons]
    rw [show a2 :: (as ++ bs) = (a2 :: as) ++ bs from rfl, ih]
    simp only [appS_assoc]
/-! the words of a condition -/
abbrev vocS : List Str := ["pointer", "held", "place", "next", "not", "below", "above", "0", "1", "2", "3", "4"]
theorem voc_free : ∀ w ∈ vocS, 32 ∉ cpL w ∧ 10 ∉ cpL w ∧ w.length ≤ 7 ∧ PyData.strOk w = true ∧ ("and" == w) = false ∧ ("or" == w) = false ∧ (w == "and") = false ∧ (w == "or") = false := by decide +kernel
def wdF (w : Str) : List Str := if w = "not below" then ["not", "below"] else if w = "not above" then ["not", "above"] else [w]
def cmpF : D → List Str
  | .tup [.str w, a, b] => ptW a ++ wdF w ++ ptW b
  | _ => []
theorem wdF_join {w : Str} (h : IsWd w) : Txt.join " " (wdF w) = w ∧ wdF w ≠ [] ∧ ∀ x ∈ wdF w, x ∈ vocS := by
  rcases h with rfl | rfl | rfl | rfl <;> decide +kernel
theorem ptW_voc {p : D} (h : IsPt p) : ptW p ≠ [] ∧ (∀ x ∈ ptW p, x ∈ vocS) ∧ (ptW p).length ≤ 2 := by
  rcases h with rfl | ⟨w, v, hw, h0, h1, rfl⟩
  · simp only [ptW, List.map, wordS]; decide +kernel
  · have : v = 0 ∨ v = 1 ∨ v = 2 ∨ v = 3 ∨ v = 4 := by omega
    simp only [ptW, List.map, wordS]
    rcases hw with rfl | rfl | rfl <;> rcases this with rfl | rfl | rfl | rfl | rfl <;> decide +kernel
theorem cmpF_join {c : D} (h : IsCmp c) : Txt.join " " (cmpF c) = cmpT c ∧ cmpF c ≠ [] ∧ (∀ x ∈ cmpF c, x ∈ vocS) ∧ (cmpF c).length ≤ 6 := by
  obtain ⟨w, a, b, hw, ha, hb, rfl⟩ := h
  obtain ⟨w1, w2, w3⟩ := wdF_join hw
  obtain ⟨a1, a2, a3⟩ := ptW_voc ha
  obtain ⟨b1, b2, b3⟩ := ptW_voc hb
  have w4 : (wdF w).length ≤ 2 := by rcases hw with rfl | rfl | rfl | rfl <;> decide +kernel
  simp only [cmpF, cmpT, cmpW]
  refine ⟨?_, by simp [a1], fun x hx => ?_, by simp only [List.length_append]; omega⟩
  · rw [tjoin_app (by simp [a1]) b1, tjoin_app a1 w2, tjoin_app (by simp [a1]) b1, tjoin_app a1 (by simp), w1, tjoin_one]
  · rcases List.mem_append.mp hx with hx | hx
    · rcases List.mem_append.mp hx with hx | hx
      · exact a2 x hx
      · exact w3 x hx
    · exact b2 x hx
def flatP (s : Str) : List (List Str) → List Str
  | [] => []
  | [x] => x
  | x :: y :: r => x ++ s :: flatP s (y :: r)
theorem flatP_ne {s : Str} : ∀ {l : List (List Str)}, l ≠ [] → (∀ x ∈ l, x ≠ []) → flatP s l ≠ []
  | [], h, _ => absurd rfl h
  | [x], _, k => k x (by simp)
  | x :: y :: r, _, k => by simp [flatP]
theorem flatP_join {s : Str} : ∀ {cs : List D}, (∀ c ∈ cs, IsCmp c) → cs ≠ [] → Txt.join " " (flatP s (cs.map cmpF)) = Txt.join (" " ++ s ++ " ") (cs.map cmpT)
  | [], _, h => absurd rfl h
  | [c], hc, _ => by
    simp only [List.map, flatP]
    rw [tjoin_one]
    exact (cmpF_join (hc c (by simp))).1
  | c :: d :: r, hc, _ => by
    have ih := flatP_join (s := s) (cs := d :: r) (fun x hx => hc x (List.mem_cons_of_mem _ hx)) (by simp)
    have hne : flatP s ((d :: r).map cmpF) ≠ [] := flatP_ne (by simp) fun x hx => by
      obtain ⟨y, hy, rfl⟩ := List.mem_map.mp hx
      exact (cmpF_join (hc y (List.mem_cons_of_mem _ hy))).2.1
    have hcj := cmpF_join (hc c (by simp))
    show Txt.join " " (cmpF c ++ s :: flatP s ((d :: r).map cmpF)) = Txt.join (" " ++ s ++ " ") (cmpT c :: cmpT d :: r.map cmpT)
    rw [tjoin_app hcj.2.1 (by simp), tjoin_cons' hne, ih, hcj.1, tjoin_cons]
    simp only [appS_assoc, List.map_cons]
/-- the words of a condition: w is the word ahead of it -/
def jtS (c : D) : Str := wordS (hdD c)
def flatC (c : D) : List Str := flatP (jtS c) ((partsD c).map cmpF)
theorem flatP_mem {s : Str} : ∀ {l : List (List Str)} {x : Str}, x ∈ flatP s l → (x = s ∧ 2 ≤ l.length) ∨ ∃ y ∈ l, x ∈ y
  | [], x, h => by simp [flatP] at h
  | [y], x, h => .inr ⟨y, by simp, h⟩
  | y :: z :: r, x, h => by
    simp only [flatP, List.mem_append, List.mem_cons] at h
    rcases h with h | rfl | h
    · exact .inr ⟨y, by simp, h⟩
    · exact .inl ⟨rfl, by simp⟩
    · rcases flatP_mem (l := z :: r) h with ⟨rfl, h⟩ | ⟨y', hy, hx⟩
      · exact .inl ⟨rfl, by simp⟩
      · exact .inr ⟨y', List.mem_cons_of_mem _ hy, hx⟩
theorem flatP_has {s : Str} : ∀ {l : List (List Str)}, 2 ≤ l.length → s ∈ flatP s l
  | [], h => by simp at h
  | [y], h => by simp at h
  | y :: z :: r, _ => by simp [flatP]
theorem flatP_len {s : Str} {k : Nat} : ∀ {l : List (List Str)}, (∀ x ∈ l, x.length ≤ k) → (flatP s l).length ≤ l.length * (k + 1)
  | [], _ => by simp [flatP]
  | [y], h => by have := h y (by simp); simp [flatP]; omega
  | y :: z :: r, h => by
    have h1 := h y (by simp)
    have ih := flatP_len (s := s) (l := z :: r) (fun x hx => h x (List.mem_cons_of_mem _ hx))
    simp only [flatP, List.length_append, List.length_cons] at ih ⊢
    have e : (r.length + 1 + 1) * (k + 1) = (r.length + 1) * (k + 1) + (k + 1) := Nat.succ_mul _ _
    omega
/-- a condition is one comparison, or parts with a joint -/
theorem cond_two {c : D} (h : IsCond c) : (IsCmp c ∧ partsD c = [c] ∧ flatC c = cmpF c) ∨ (∃ (s : Str) (cs : List D), (s = "and" ∨ s = "or") ∧ 2 ≤ cs.length ∧ cs.length ≤ 3 ∧ (∀ c ∈ cs, IsCmp c) ∧ c = .tup (.str s :: cs) ∧ partsD c = cs ∧ jtS c = s ∧ flatC c = flatP s (cs.map cmpF)) := by
  rcases h with h | ⟨s, cs, hs, h0, h1, hc, rfl⟩
  · refine .inl ⟨h, partsD_cmp h, ?_⟩
    unfold flatC
    rw [partsD_cmp h]
    rfl
  · have hp : partsD (.tup (.str s :: cs)) = cs := by simp only [partsD]; rw [if_pos hs]
    have hj : jtS (.tup (.str s :: cs)) = s := rfl
    refine .inr ⟨s, cs, hs, h0, h1, hc, rfl, hp, hj, ?_⟩
    unfold flatC
    rw [hp, hj]
theorem line_words {w : Str} {c : D} (h : IsCond c) : lineS w c = Txt.join " " (w :: flatC c) := by
  rcases cond_two h with ⟨h1, h2, h3⟩ | ⟨s, cs, hs, h0, h1, hc, rfl, hp, hj, hf⟩
  · unfold lineS
    rw [h2, h3, tjoin_cons' (cmpF_join h1).2.1, (cmpF_join h1).1]
    simp only [List.map]
    rw [tjoin_one]
  · have hne : cs ≠ [] := fun e => by rw [e] at h0; simp at h0
    have hfn : flatP s (cs.map cmpF) ≠ [] := flatP_ne (by simpa using hne) fun x hx => by
      obtain ⟨y, hy, rfl⟩ := List.mem_map.mp hx
      exact (cmpF_join (hc y hy)).2.1
    unfold lineS
    rw [hp, hf, tjoin_cons' hfn, flatP_join hc hne]
    have : sepS (.tup (.str s :: cs)) = " " ++ s ++ " " := by
      unfold sepS
      rw [if_pos (by show jn (.str s) = true; rcases hs with rfl | rfl <;> decide +kernel)]
      show Str.empty ++ " " ++ s ++ " " = _
      rcases hs with rfl | rfl <;> decide +kernel
    rw [this]
theorem flat_voc {c : D} (h : IsCond c) : (∀ x ∈ flatC c, x ∈ vocS ∨ ((x = "and" ∨ x = "or") ∧ x = jtS c ∧ ¬ IsCmp c)) ∧ flatC c ≠ [] ∧ (flatC c).length ≤ 21 := by
  rcases cond_two h with ⟨h1, h2, h3⟩ | ⟨s, cs, hs, h0, h1, hc, rfl, hp, hj, hf⟩
  · rw [h3]
    obtain ⟨_, k1, k2, k3⟩ := cmpF_join h1
    exact ⟨fun x hx => .inl (k2 x hx), k1, by omega⟩
  · rw [hf]
    refine ⟨fun x hx => ?_, flatP_ne (fun e => by simp at e; rw [e] at h0; simp at h0) (fun x hx => ?_), ?_⟩
    · rcases flatP_mem hx with ⟨rfl, _⟩ | ⟨y, hy, hx⟩
      · refine .inr ⟨hs, hj.symm, fun k => ?_⟩
        obtain ⟨w, a, b, hw, _, _, e⟩ := k
        injection e with e
        injection e with e _
        injection e with e
        rw [e] at hs
        rcases hw with rfl | rfl | rfl | rfl <;> revert hs <;> decide +kernel
      · obtain ⟨d, hd, rfl⟩ := List.mem_map.mp hy
        exact .inl ((cmpF_join (hc d hd)).2.2.1 x hx)
    · obtain ⟨y, hy, rfl⟩ := List.mem_map.mp hx
      exact (cmpF_join (hc y hy)).2.1
    · have := flatP_len (s := s) (k := 6) (l := cs.map cmpF) fun x hx => by
        obtain ⟨y, hy, rfl⟩ := List.mem_map.mp hx
        exact (cmpF_join (hc y hy)).2.2.2
      rw [List.length_map] at this
      omega
theorem flat_ok {c : D} (h : IsCond c) {w : Str} (hw : w = "down" ∨ w = "up") : ∀ x ∈ w :: flatC c, 32 ∉ cpL x ∧ 10 ∉ cpL x ∧ PyData.strOk x = true := by
  intro x hx
  rcases List.mem_cons.mp hx with rfl | hx
  · rcases hw with rfl | rfl <;> decide +kernel
  · rcases (flat_voc h).1 x hx with k | ⟨rfl | rfl, _⟩
    · obtain ⟨k1, k2, _, k4, _⟩ := voc_free x k
      exact ⟨k1, k2, k4⟩
    · decide +kernel
    · decide +kernel
theorem split_line {c : D} (h : IsCond c) {w : Str} (hw : w = "down" ∨ w = "up") : Txt.split (lineS w c) " " = w :: flatC c := by
  rw [line_words h]
  exact split_joined (c := 32) (by simp) fun x hx => (flat_ok h hw x hx).1
theorem joinN_mem {c k : Nat} : ∀ {l : List (List Nat)}, k ∈ joinN c l → k = c ∨ ∃ x ∈ l, k ∈ x
  | [], h => by simp [joinN] at h
  | [a], h => .inr ⟨a, by simp, h⟩
  | a :: b :: r, h => by
    simp only [joinN, List.mem_append, List.mem_cons] at h
    rcases h with h | rfl | h
    · exact .inr ⟨a, by simp, h⟩
    · exact .inl rfl
    · rcases joinN_mem (l := b :: r) h with rfl | ⟨x, hx, k⟩
      · exact .inl rfl
      · exact .inr ⟨x, List.mem_cons_of_mem _ hx, k⟩
theorem line_free {c : D} (h : IsCond c) {w : Str} (hw : w = "down" ∨ w = "up") : 10 ∉ cpL (lineS w c) := by
  rw [line_words h, tjoin]
  intro k
  have k2 : (10 : Nat) ∈ joinN 32 ((w :: flatC c).map cpL) := by rw [← joinS_N]; exact k
  rcases joinN_mem k2 with e | ⟨x, hx, k⟩
  · cases e
  · obtain ⟨y, hy, rfl⟩ := List.mem_map.mp hx
    exact (flat_ok h hw y hy).2.1 k
theorem split_text {a b : D} (ha : IsCond a) (hb : IsCond b) : Txt.split (textS (.tup [a, b])) "\n" = [lineS "down" a, lineS "up" b] := by
  show Txt.split (Txt.join "\n" _) "\n" = _
  refine split_joined (c := 10) (by simp) fun x hx => ?_
  simp at hx
  rcases hx with rfl | rfl
  · exact line_free ha (.inl rfl)
  · exact line_free hb (.inr rfl)
/-! ### a rule told by its text -/
def allPt : List D := .tup [.str "pointer"] :: (["held", "place", "next"] : List Str).flatMap fun w => ([0, 1, 2, 3, 4] : List Int).map fun v => .tup [.str w, .int v]
def allCmp : List D := (["below", "above", "not below", "not above"] : List Str).flatMap fun w => allPt.flatMap fun a => allPt.map fun b => .tup [.str w, a, b]
theorem pt_all {p : D} (h : IsPt p) : p ∈ allPt := by
  rcases h with rfl | ⟨w, v, hw, h0, h1, rfl⟩
  · exact List.mem_cons_self
  · refine List.mem_cons_of_mem _ (List.mem_flatMap.mpr ⟨w, ?_, List.mem_map.mpr ⟨v, ?_, rfl⟩⟩)
    · rcases hw with rfl | rfl | rfl <;> simp
    · simp; omega
theorem cmp_all {p : D} (h : IsCmp p) : p ∈ allCmp := by
  obtain ⟨w, a, b, hw, ha, hb, rfl⟩ := h
  refine List.mem_flatMap.mpr ⟨w, ?_, List.mem_flatMap.mpr ⟨a, pt_all ha, List.mem_map.mpr ⟨b, pt_all hb, rfl⟩⟩⟩
  rcases hw with rfl | rfl | rfl | rfl <;> simp
theorem cin_all : (fun st : Store => allCmp.map fun p => p_comparison_in [.lst ((cmpF p).map D.str)] st) = fun st => allCmp.map fun p => (pure p : M D) st := by kernel_rfl
theorem cin_eq {p : D} (h : IsCmp p) : p_comparison_in [.lst ((cmpF p).map D.str)] = pure p := by
  funext st
  have h1 := congrFun cin_all st
  exact List.map_inj_left.mp h1 p (cmp_all h)

def strD2 (l : List Str) : D := .lst (l.map D.str)
theorem cutL_lastN {α : Type} {xs : List α} {x : α} : cutL (xs ++ [x]) none (some (-1)) = xs := by
  unfold cutL
  have e1 : HT.sIx (xs ++ [x]).length 0 none = 0 := rfl
  have e2 : HT.sIx (xs ++ [x]).length (xs ++ [x]).length (some (-1)) = xs.length := by
    show (if (-1 : Int) < 0 then ((-1 : Int) + ((xs ++ [x]).length : Int)).toNat else min (-1 : Int).toNat (xs ++ [x]).length) = _
    rw [if_pos (by decide), List.length_append, List.length_singleton]
    omega
  rw [e1, e2]
  simp
def spF (j : D) : List (List Str) → List Str → List Str → List (List Str)
  | f, l, [] => f ++ [l]
  | f, l, w :: r => if deq (.str w) j then spF j (f ++ [l]) [] r else spF j f (l ++ [w]) r
theorem wrd_eq {w : Str} {j : D} (hw : PyData.strOk w = true) (hj : Dep 64 j) : opEq false (.str w) j = pure (.bl (deq (.str w) j)) := by
  rw [eq_of (dep_str hw) hj]
  simp
abbrev spB : DenS := dAsg (dIf (bVal (d2 (opEq false) (dVar 3) (dVar 1))) (d2 opAdd (dVar 2) (dLst (dCons (dLst (dNil)) (dNil)))) (d2 opAdd (dSl (dVar 2) (oNone) (oSome (d1 opNeg (dC (.int 1))))) (dLst (dCons (d2 opAdd (d2 opIx (dVar 2) (d1 opNeg (dC (.int 1)))) (dLst (dCons (dVar 3) (dNil)))) (dNil))))) (gSet 2)
theorem split_loop {j : D} (hj : Dep 64 j) {x0 : Option D} : ∀ (ws : List Str) (f : List (List Str)) (l : List Str) (x3 : Option D) (st : Store), (∀ w ∈ ws, PyData.strOk w = true) → f.length + ws.length ≤ 10000 → l.length + ws.length ≤ 10000 →
    T (forL (fun d ρ => spB (ρ.set 3 (some d))) (ws.map D.str) [x0, some j, some (.lst (f.map strD2 ++ [strD2 l])), x3]) st (fun r s => s = st ∧ ∃ y3, r = .nx [x0, some j, some (.lst ((spF j f l ws).map strD2)), y3])
  | [], f, l, x3, st, _, _, _ => ⟨rfl, x3, by simp [spF]⟩
  | w :: ws, f, l, x3, st, hw, h1, h2 => by
    rw [List.map_cons]
    unfold forL
    rw [t_bind]
    simp only [List.set]
    have hq := wrd_eq (hw w List.mem_cons_self) hj
    simp only [List.length_cons] at h1 h2
    rw [t_asg1]
    have hstr : strD2 l = .lst (l.map D.str) := rfl
    have hstr2 : strD2 (l ++ [w]) = .lst (l.map D.str ++ [.str w]) := by simp [strD2]
    have e0 : D.lst [] = strD2 [] := rfl
    cases hd : deq (.str w) j with
    | true =>
      simp -implicitDefEqProofs [hq, hd]
      refine ⟨by omega, ?_⟩
      have e : D.lst (List.map strD2 f ++ [strD2 l, D.lst []]) = D.lst (List.map strD2 (f ++ [l]) ++ [strD2 []]) := by simp [strD2]
      rw [e]
      refine (split_loop hj ws (f ++ [l]) [] _ st (fun x hx => hw x (List.mem_cons_of_mem _ hx)) (by simp; omega) (by simp; omega)).mono fun r s hr => ?_
      obtain ⟨rfl, y3, rfl⟩ := hr
      simp [spF, hd]
    | false =>
      simp -implicitDefEqProofs [hq, hd, cutL_lastN, at_lst, hstr]
      refine ⟨by omega, by omega, ?_⟩
      rw [← hstr2, show List.map strD2 f ++ [strD2 (l ++ [w])] = List.map strD2 f ++ [strD2 (l ++ [w])] from rfl]
      refine (split_loop hj ws f (l ++ [w]) _ st (fun x hx => hw x (List.mem_cons_of_mem _ hx)) (by omega) (by simp; omega)).mono fun r s hr => ?_
      obtain ⟨rfl, y3, rfl⟩ := hr
      simp [spF, hd]
theorem spF_none {f : List (List Str)} : ∀ {ws l : List Str}, spF .non f l ws = f ++ [l ++ ws]
  | [], l => by simp [spF]
  | w :: ws, l => by
    have hd : deq (.str w) .non = false := rfl
    simp only [spF, hd]
    rw [if_neg (by simp), spF_none (ws := ws)]
    simp
theorem deq_ss {a b : Str} : deq (.str a) (.str b) = (a == b) := rfl
theorem spF_free {s : Str} {f : List (List Str)} {r : List Str} : ∀ {x l : List Str}, (∀ w ∈ x, (w == s) = false) → spF (.str s) f l (x ++ r) = spF (.str s) f (l ++ x) r
  | [], l, _ => by simp
  | w :: x, l, h => by
    show (if deq (.str w) (.str s) = true then _ else spF (.str s) f (l ++ [w]) (x ++ r)) = _
    rw [deq_ss, h w (by simp), if_neg (by simp), spF_free (x := x) (fun v hv => h v (List.mem_cons_of_mem _ hv))]
    simp
theorem spF_flat {s : Str} : ∀ {xs : List (List Str)} {f : List (List Str)}, xs ≠ [] → (∀ x ∈ xs, ∀ w ∈ x, (w == s) = false) → spF (.str s) f [] (flatP s xs) = f ++ xs
  | [], _, h, _ => absurd rfl h
  | [x], f, _, h => by
    have := spF_free (s := s) (f := f) (r := []) (x := x) (l := []) (h x (by simp))
    simp only [List.append_nil, List.nil_append] at this
    simp only [flatP]
    rw [this]
    rfl
  | x :: y :: r, f, _, h => by
    have e : flatP s (x :: y :: r) = x ++ (s :: flatP s (y :: r)) := rfl
    rw [e, spF_free (h x (by simp)), List.nil_append]
    show (if deq (.str s) (.str s) = true then _ else _) = _
    rw [deq_ss, if_pos (by simp), spF_flat (xs := y :: r) (by simp) fun z hz => h z (List.mem_cons_of_mem _ hz)]
    simp
theorem split_at_run {j : D} {ws : List Str} (hj : Dep 64 j) (hw : ∀ w ∈ ws, PyData.strOk w = true) (hl : ws.length ≤ 9000) : p_split_at [strD2 ws, j] = pure (.lst ((spF j [] [] ws).map strD2)) := by
  refine eq_of_T fun st => ?_
  rw [p_split_at, t_run, p_split_at_b, t_asg]
  simp -implicitDefEqProofs
  rw [t_for]
  have hs : strD2 ws = .lst (ws.map D.str) := rfl
  rw [hs]
  simp -implicitDefEqProofs
  refine (split_loop hj ws [] [] _ st hw (by simp; omega) (by simp; omega)).mono fun r s hr => ?_
  obtain ⟨rfl, y3, rfl⟩ := hr
  simp -implicitDefEqProofs [t_ret1]
theorem some_eq {L w : Str} {ws : List Str} {x4 x5 x6 x7 : Option D} {x3 : Option D} (hd : Dep 64 (.lst (ws.map D.str))) : lcL (.nm 3) (bVal (d2 (opIn false) (dVar 3) (dVar 2))) (dVar 3) [some (.str L), some (.str w), some (.lst (ws.map D.str)), x3, x4, x5, x6, x7] [.str "and", .str "or"] = pure (([D.str "and", D.str "or"].filter fun d => (ws.map D.str).any fun z => deq z d).map id) := by
  refine lc_map fun d hd' => ?_
  have hds : Dep 64 d := by
    simp at hd'
    rcases hd' with rfl | rfl
    · exact dep_str (by decide +kernel)
    · exact dep_str (by decide +kernel)
  have hin := in_ofL (neg := false) hds hd
  refine ⟨_, rfl, ?_, fun _ => rfl⟩
  refine eq_of_T fun st => ?_
  simp -implicitDefEqProofs [hin]
theorem any_str {ws : List Str} {s : Str} : ((ws.map D.str).any fun z => deq z (.str s)) = ws.any fun z => z == s := by
  rw [List.any_map]; rfl
theorem eq_str {x : Str} (h : PyData.strOk x = true) : opEq false (.str x) (.str x) = pure (.bl true) := by
  have e := wrd_eq h (dep_str h (k := 64))
  rw [e, deq_ss]
  simp
theorem condition_in_run {c : D} {w : Str} {J : D} {S : List D} (h : IsCond c) (hw : w = "down" ∨ w = "up") (hJ : Dep 60 J)
    (hS : ([D.str "and", D.str "or"].filter fun d => ((w :: flatC c).map D.str).any fun z => deq z d).map id = S)
    (hSJ : (S = [] ∧ J = .non) ∨ S = [J]) (hsp : spF J [] [] (flatC c) = (partsD c).map cmpF) (hjn : p_joined [J, .lst (partsD c)] = pure c) :
    p_condition_in [.str (lineS w c), .str w] = pure c := by
  have hok := flat_ok h hw
  have hwl : w.length ≤ 10 := by rcases hw with rfl | rfl <;> decide +kernel
  have hfl := (flat_voc h).2.2
  have hws := split_line h hw
  have hll := line_len (w := w) h hwl
  have hdw : Dep 64 (.lst ((w :: flatC c).map D.str)) := dep_lst.mpr fun d hd => by
    obtain ⟨x, hx, rfl⟩ := List.mem_map.mp hd
    exact dep_str (hok x hx).2.2
  have hsm := fun x3 x4 x5 x6 x7 => some_eq (L := lineS w c) (w := w) (ws := w :: flatC c) (x3 := x3) (x4 := x4) (x5 := x5) (x6 := x6) (x7 := x7) hdw
  rw [hS] at hsm
  have hsp' := split_at_run (ws := flatC c) (hJ.mono (by decide)) (fun x hx => (hok x (List.mem_cons_of_mem _ hx)).2.2) (by omega)
  rw [hsp] at hsp'
  have hsplit : mSplit (.str (lineS w c)) [.str " "] = pure (.lst ((w :: flatC c).map D.str)) := by
    show guardM (!((" " : Str).length == 0) && decide ((lineS w c).length + 2 ≤ big)) (pure (D.lst ((Txt.split (lineS w c) " ").map D.str))) = _
    rw [hws, show (!((" " : Str).length == 0) && decide ((lineS w c).length + 2 ≤ big)) = true from by
      rw [Bool.and_eq_true]; exact ⟨rfl, decide_eq_true (show _ ≤ 16000000 by omega)⟩]
    rfl
  have hline := condition_line_eq h hwl
  have hq := eq_str (x := lineS w c) (ok_line h (by rcases hw with rfl | rfl <;> decide +kernel))
  have hcut : cutL ((w :: flatC c).map D.str) (some 1) none = (flatC c).map D.str := by simp [cutL, HT.sIx]; exact List.take_of_length_le (by simp)
  have hp := parts_cmp h
  have hlp : lcL (.nm 7) bTrue (dCall (arity 1 p_comparison_in) (dCons (dVar 7) (dNil))) [some (.str (lineS w c)), some (.str w), some (.lst ((w :: flatC c).map D.str)), some J, some (.lst S), none, none, none] (((partsD c).map cmpF).map strD2) = pure (partsD c) := by
    rw [List.map_map]
    refine (lc_all (e := strD2 ∘ cmpF) (g := id) (xs := partsD c) fun p hp' => ⟨_, rfl, ?_⟩).trans (by rw [List.map_id])
    refine eq_of_T fun st => ?_
    have := cin_eq (hp p hp')
    have e : (strD2 ∘ cmpF) p = .lst ((cmpF p).map D.str) := rfl
    rw [e]
    simp -implicitDefEqProofs [this]
  have hnon : opIn false .non (.lst (partsD c)) = pure (.bl false) := by
    rw [in_ofL dep_non (dep_lst.mpr fun p hp' => ((isCond_dep (.inl (hp p hp'))).mono (by decide)))]
    congr 2
    simp only [Bool.false_eq_true, if_false]
    refine List.any_eq_false.mpr fun p hp' => ?_
    obtain ⟨s, a, b, _, _, _, rfl⟩ := hp p hp'
    show ¬ (deq (.tup _) .non = true)
    exact fun e => by cases e
  have hgd := is_good_condition_eq ((isCond_dep h).mono (by decide : (3 : Nat) ≤ 60))
  have hgB := isCond_B h
  generalize lineS w c = L at *
  have hne : opEq true (.lst S) (.lst []) = pure (.bl (!(S.isEmpty))) := by
    have hdS : Dep 64 (.lst S) := by
      rcases hSJ with ⟨rfl, _⟩ | rfl
      · exact dep_lst.mpr (by simp)
      · exact dep_lst.mpr (by simpa using hJ.mono (by decide))
    rw [eq_of hdS (dep_lst.mpr (by simp))]
    rcases hSJ with ⟨rfl, _⟩ | rfl <;> rfl
  have hsp2 : p_split_at [.lst ((flatC c).map D.str), J] = pure (.lst (((partsD c).map cmpF).map strD2)) := hsp'
  have hPl : (((partsD c).map cmpF).map strD2).length ≤ 3 := by simpa using parts_len h
  clear hsp' hws hok hdw hsp hS
  generalize (w :: flatC c).map D.str = W at *
  generalize (flatC c).map D.str = F at *
  generalize ((partsD c).map cmpF).map strD2 = P at *
  generalize partsD c = R at *
  have hJ3 : ∀ st' : Store, T (dIf (bVal (d2 (opEq true) (dVar 4) (dLst dNil))) (d2 opIx (dVar 4) (dC (.int 0))) (dC .non) [some (.str L), some (.str w), some (.lst W), none, some (.lst S), none, none, none]) st' (fun d s => d = J ∧ s = st') := by
    intro st'
    rcases hSJ with ⟨rfl, rfl⟩ | rfl
    · simp -implicitDefEqProofs [hne]
    · simp -implicitDefEqProofs [hne, at_zero]
  refine eq_of_T fun st => ?_
  rw [p_condition_in, t_run, p_condition_in_b, t_asg]
  simp -implicitDefEqProofs [tt_s, hsplit]
  rw [t_asg]
  simp -implicitDefEqProofs [hsm, wipeE]
  rw [t_asg]
  refine (hJ3 st).mono fun d s hd => ?_
  obtain ⟨rfl, rfl⟩ := hd
  simp -implicitDefEqProofs
  rw [t_asg]
  simp -implicitDefEqProofs [hcut, hsp2, hlp, wipeE]
  refine ⟨by omega, ?_⟩
  rw [t_ifs]
  simp -implicitDefEqProofs [hnon]
  rw [t_asg]
  simp -implicitDefEqProofs [hjn]
  rw [t_ret1]
  simp -implicitDefEqProofs [hgd, hgB, hline, hq]
theorem condition_in_eq {c : D} {w : Str} (h : IsCond c) (hw : w = "down" ∨ w = "up") : p_condition_in [.str (lineS w c), .str w] = pure c := by
  have hv := (flat_voc h).1
  have hwv : (w == "and") = false ∧ (w == "or") = false := by rcases hw with rfl | rfl <;> decide +kernel
  have hcF : ∀ {p : D}, IsCmp p → ∀ x ∈ cmpF p, (x == "and") = false ∧ (x == "or") = false := fun hp x hx => by
    obtain ⟨_, _, _, _, _, _, k1, k2⟩ := voc_free x ((cmpF_join hp).2.2.1 x hx)
    exact ⟨k1, k2⟩
  rcases cond_two h with ⟨h1, h2, h3⟩ | ⟨s, cs, hs, h0, hl, hc, e, hp, hj, hf⟩
  · refine condition_in_run (J := .non) (S := []) h hw dep_non ?_ (.inl ⟨rfl, rfl⟩) ?_ ?_
    · have a1 : ((w :: flatC c).any fun z => z == "and") = false := List.any_eq_false.mpr fun x hx => by
        rcases List.mem_cons.mp hx with rfl | hx
        · rw [hwv.1]; simp
        · rw [h3] at hx; rw [(hcF h1 x hx).1]; simp
      have a2 : ((w :: flatC c).any fun z => z == "or") = false := List.any_eq_false.mpr fun x hx => by
        rcases List.mem_cons.mp hx with rfl | hx
        · rw [hwv.2]; simp
        · rw [h3] at hx; rw [(hcF h1 x hx).2]; simp
      rw [List.map_id, List.filter_cons, any_str, a1, List.filter_cons, any_str, a2]
      rfl
    · rw [h3, h2, spF_none]; rfl
    · rw [h2, joined_eq (by simp) (by simp)]; simp
  · have hcs : cs ≠ [] := fun e => by rw [e] at h0; simp at h0
    have hfr : ∀ t : Str, (t = "and" ∨ t = "or") → ∀ x ∈ cs.map cmpF, ∀ y ∈ x, (y == t) = false := fun t ht x hx y hy => by
      obtain ⟨p, hp', rfl⟩ := List.mem_map.mp hx
      obtain ⟨k1, k2⟩ := hcF (hc p hp') y hy
      rcases ht with rfl | rfl
      · exact k1
      · exact k2
    have hsd : PyData.strOk s = true := by rcases hs with rfl | rfl <;> decide +kernel
    have a1 : ∀ t : Str, (t = "and" ∨ t = "or") → ((w :: flatC c).any fun z => z == t) = (s == t) := fun t ht => by
      by_cases q : s = t
      · subst q
        rw [show (s == s) = true by simp]
        refine List.any_eq_true.mpr ⟨s, List.mem_cons_of_mem _ ?_, by simp⟩
        rw [hf]
        exact flatP_has (by simpa using h0)
      · rw [show (s == t) = false by simpa using q]
        refine List.any_eq_false.mpr fun x hx => ?_
        rcases List.mem_cons.mp hx with rfl | hx
        · rcases ht with rfl | rfl
          · rw [hwv.1]; simp
          · rw [hwv.2]; simp
        · rw [hf] at hx
          rcases flatP_mem hx with ⟨rfl, _⟩ | ⟨y, hy, hxy⟩
          · simpa using q
          · rw [hfr t ht y hy x hxy]; simp
    refine condition_in_run (J := .str s) (S := [.str s]) h hw (dep_str hsd) ?_ (.inr rfl) ?_ ?_
    · rw [List.map_id, List.filter_cons, any_str, a1 "and" (.inl rfl), List.filter_cons, any_str, a1 "or" (.inr rfl)]
      rcases hs with rfl | rfl
      · rw [if_pos (by decide +kernel), if_neg (by decide +kernel)]; rfl
      · rw [if_neg (by decide +kernel), if_pos (by decide +kernel)]; rfl
    · rw [hf, hp, spF_flat (by simpa using hcs) (hfr s hs)]; rfl
    · rw [hp, joined_eq hcs (by omega), if_pos (by omega), e]
/-! ### what raises, and the rules of in, == against plain values -/
theorem x_bind1 {α β : Type} {m : M α} {f : α → M β} {st s : Store} {e : Exn} (h : m st = .exn e s) : (m >>= f) st = .exn e s := by rw [bind_def, h]
theorem x_bind2 {α β : Type} {m : M α} {f : α → M β} {st s : Store} {a : α} (h : m st = .ok a s) : (m >>= f) st = f a s := by rw [bind_def, h]
theorem lc_T {st : Store} {t : Tg} {c : DenB} {f : Den} {ρ : MP.Env} {p : D → Bool} {g : D → D} : ∀ {ds : List D}, (∀ d ∈ ds, ∃ ρ1, t.bind d ρ = some ρ1 ∧ T (c ρ1) st (fun b s => b = p d ∧ s = st) ∧ (p d = true → T (f ρ1) st (fun x s => x = g d ∧ s = st))) → T (lcL t c f ρ ds) st (fun r s => r = (ds.filter p).map g ∧ s = st)
  | [], _ => ⟨rfl, rfl⟩
  | d :: ds, h => by
    obtain ⟨ρ1, h1, h2, h3⟩ := h d List.mem_cons_self
    have ih := lc_T (ds := ds) fun x hx => h x (List.mem_cons_of_mem _ hx)
    unfold lcL
    rw [h1]
    simp only [optB, t_bind, t_noX]
    refine h2.mono fun b s hb => ?_
    obtain ⟨rfl, rfl⟩ := hb
    cases hp : p d with
    | true =>
      simp only [cond_true, t_bind, t_noX]
      refine (h3 hp).mono fun x s hx => ?_
      obtain ⟨rfl, rfl⟩ := hx
      refine ih.mono fun r s hr => ?_
      obtain ⟨rfl, rfl⟩ := hr
      simp [List.filter_cons, hp]
    | false =>
      simp only [cond_false]
      refine ih.mono fun r s hr => ?_
      obtain ⟨rfl, rfl⟩ := hr
      simp [List.filter_cons, hp]
/-! items: the top of a row -/
abbrev hgt (hs : List Int) (i : Int) : Int := (atI hs i).getD 0
/-! ### splitting at a text of several signs -/
def atB (x y : Str) (hi m : Nat) : Bool := decide (m + y.length ≤ hi) && Builtin.Str.subAt x y m
def gr (P : Nat → Bool) (w : Nat) : Nat → Nat → Nat → List Nat
  | 0, _, _ => []
  | n + 1, m, free => if free ≤ m ∧ P m = true then m :: gr P w n (m + 1) (m + w) else gr P w n (m + 1) free
theorem fold_gr {x y : Str} {hi limit : Nat} (hy : 1 ≤ y.length) (hl : hi < limit) : ∀ (n m : Nat) (arr : Array Nat) (free : Nat), m + n = hi + 1 → arr.size ≤ free →
    (forIn (List.range' m n) (arr, free) (PySem.StrLaws.occBody x y hi limit)).run.fst.toList = arr.toList ++ gr (atB x y hi) y.length n m free
  | 0, m, arr, free, _, _ => by simp [gr]
  | n + 1, m, arr, free, hm, hs => by
    rw [List.range'_succ, List.forIn_cons]
    unfold PySem.StrLaws.occBody
    by_cases hc : free ≤ m ∧ atB x y hi m = true
    · have h2 := hc.2
      unfold atB at h2
      rw [Bool.and_eq_true, decide_eq_true_eq] at h2
      have c1 : ((arr.size < limit ∧ free ≤ m) ∧ m + y.length ≤ hi) ∧ Builtin.Str.subAt x y m = true := ⟨⟨⟨by omega, hc.1⟩, h2.1⟩, h2.2⟩
      rw [if_pos c1]
      refine (fold_gr hy hl n (m + 1) (arr.push m) (m + y.length) (by omega) (by rw [Array.size_push]; omega)).trans ?_
      rw [gr, if_pos hc, Array.toList_push]
      simp
    · have c2 : ¬ (((arr.size < limit ∧ free ≤ m) ∧ m + y.length ≤ hi) ∧ Builtin.Str.subAt x y m = true) := fun h => hc ⟨h.1.1.2, by
        unfold atB
        rw [Bool.and_eq_true, decide_eq_true_eq]
        exact ⟨h.1.2, h.2⟩⟩
      rw [if_neg c2]
      refine (fold_gr hy hl n (m + 1) arr free (by omega) hs).trans ?_
      rw [gr, if_neg hc]
def SepBy (w : Nat) : Nat → List Nat → Prop
  | _, [] => True
  | lo, p :: r => lo ≤ p ∧ SepBy w (p + w) r
theorem SepBy.ge {w : Nat} : ∀ {lo : Nat} {ps : List Nat}, SepBy w lo ps → ∀ p ∈ ps, lo ≤ p
  | _, [], _, p, hp => by cases hp
  | lo, q :: r, h, p, hp => by
    rcases List.mem_cons.mp hp with rfl | hp
    · exact h.1
    · exact Nat.le_trans h.1 (Nat.le_trans (Nat.le_add_right _ _) (SepBy.ge h.2 p hp))
theorem gr_list {P : Nat → Bool} {w : Nat} (hw : 1 ≤ w) : ∀ (n m free : Nat) (ps : List Nat), SepBy w free ps → (∀ p ∈ ps, m ≤ p ∧ p < m + n) → (∀ i, m ≤ i → i < m + n → free ≤ i → (P i = true ↔ i ∈ ps)) → gr P w n m free = ps
  | 0, m, free, ps, _, h2, _ => by
    cases ps with
    | nil => rfl
    | cons p r => have := h2 p (by simp); omega
  | n + 1, m, free, ps, h1, h2, h3 => by
    rw [gr]
    by_cases hc : free ≤ m ∧ P m = true
    · rw [if_pos hc]
      have hm : m ∈ ps := (h3 m (Nat.le_refl _) (by omega) hc.1).mp hc.2
      cases ps with
      | nil => cases hm
      | cons p r =>
        have hp : p = m := by
          rcases List.mem_cons.mp hm with e | hm
          · exact e.symm
          · have a := SepBy.ge h1.2 m hm
            have b := (h2 p (by simp)).1
            omega
        subst hp
        rw [gr_list hw n (p + 1) (p + w) r h1.2 (fun q hq => by
          have a := SepBy.ge h1.2 q hq
          have b := (h2 q (by simp [hq])).2
          omega) (fun i a b c => by
          rw [h3 i (by omega) (by omega) (by omega), List.mem_cons]
          exact ⟨fun h => h.resolve_left (by omega), .inr⟩)]
    · rw [if_neg hc]
      have hm : m ∉ ps := fun hm => hc ⟨SepBy.ge h1 m hm, (h3 m (Nat.le_refl _) (by omega) (SepBy.ge h1 m hm)).mpr hm⟩
      exact gr_list hw n (m + 1) free ps h1 (fun q hq => by
        have a := h2 q hq
        have b : q ≠ m := fun e => hm (e ▸ hq)
        omega) (fun i a b c => h3 i (by omega) (by omega) c)
theorem kind_pos (x : Str) : 1 ≤ Builtin.Str.strKind x := by
  unfold Builtin.Str.strKind
  split
  · decide
  · split <;> decide
theorem occs_ps {x y : Str} (hy : 1 ≤ y.length) {ps : List Nat} (hp : SepBy y.length 0 ps) (h : ∀ i, atB x y x.length i = true ↔ i ∈ ps) : Builtin.Str.occurrences x y 0 x.length (x.length + 1) = ps := by
  rw [PySem.StrLaws.occ_eq, fold_gr hy (by omega) _ 0 #[] 0 (by omega) (by simp)]
  rw [gr_list hy _ 0 0 ps hp (fun p hp => by
    have := (h p).mpr hp
    unfold atB at this
    rw [Bool.and_eq_true, decide_eq_true_eq] at this
    omega) (fun i _ _ _ => h i)]
  simp
theorem split_ps {x y : Str} (hy : 1 ≤ y.length) (hk : Builtin.Str.strKind y = 1) {ps : List Nat} (hp : SepBy y.length 0 ps) (h : ∀ i, atB x y x.length i = true ↔ i ∈ ps) : Txt.split x y = PySem.StrLaws.partsFrom x y.length 0 ps := by
  have hnil : ps = [] → Txt.split x y = [x] → Txt.split x y = PySem.StrLaws.partsFrom x y.length 0 ps := fun e q => by
    rw [q, e]
    show [x] = [Builtin.Str.strSub x 0 x.length]
    rw [PySem.StrLaws.sub_whole]
  have kx := kind_pos x
  unfold Txt.split
  split
  · rename_i hc
    rw [Bool.or_eq_true, decide_eq_true_eq, decide_eq_true_eq] at hc
    have hps : ps = [] := by
      cases ps with
      | nil => rfl
      | cons p r =>
        have := (h p).mpr (by simp)
        unfold atB at this
        rw [Bool.and_eq_true, decide_eq_true_eq] at this
        omega
    rw [hps]
    show [x] = [Builtin.Str.strSub x 0 x.length]
    rw [PySem.StrLaws.sub_whole]
  · rw [occs_ps hy hp h]
    split
    · rename_i hc
      have hps : ps = [] := by simpa using hc
      rw [hps]
      show [x] = [Builtin.Str.strSub x 0 x.length]
      rw [PySem.StrLaws.sub_whole]
    · rw [PySem.StrLaws.partsBetween_eq]
/-! on lists of signs -/
def occL (S L : List Nat) (i : Nat) : Bool := (L.drop i).take S.length == S
def joinLL (S : List Nat) : List (List Nat) → List Nat
  | [] => []
  | [a] => a
  | a :: b :: r => a ++ (S ++ joinLL S (b :: r))
def posL (w : Nat) : Nat → List (List Nat) → List Nat
  | _, [] => []
  | _, [_] => []
  | off, t :: t' :: r => (off + t.length) :: posL w (off + t.length + w) (t' :: r)
theorem posL_shift {w a : Nat} : ∀ {off : Nat} {ts : List (List Nat)}, posL w (off + a) ts = (posL w off ts).map (· + a)
  | _, [] => rfl
  | _, [_] => rfl
  | off, t :: t' :: r => by
    simp only [posL, List.map_cons]
    rw [show off + a + t.length = off + t.length + a by omega, show off + t.length + a + w = (off + t.length + w) + a by omega, posL_shift]
theorem posL_sep {w : Nat} : ∀ {off : Nat} {ts : List (List Nat)}, SepBy w off (posL w off ts)
  | _, [] => True.intro
  | _, [_] => True.intro
  | off, t :: t' :: r => ⟨by omega, posL_sep⟩
/-- S stands nowhere else around t -/
def Lone (S t : List Nat) : Prop := ∀ i, 1 ≤ i → i < t.length + S.length → occL S (S ++ (t ++ S)) i = false
theorem occL_pre {S A B : List Nat} {i : Nat} (h : i + S.length ≤ A.length) : occL S (A ++ B) i = occL S A i := by
  unfold occL
  rw [List.drop_append_of_le_length (by omega), List.take_append_of_le_length (by rw [List.length_drop]; omega)]
theorem occL_post {S A B : List Nat} {i : Nat} : occL S (A ++ B) (A.length + i) = occL S B i := by
  unfold occL
  rw [List.drop_append, List.drop_eq_nil_of_le (by omega)]
  simp
theorem occL_len {S L : List Nat} {i : Nat} (h0 : S ≠ []) (h : occL S L i = true) : i + S.length ≤ L.length := by
  unfold occL at h
  have e := congrArg List.length (beq_iff_eq.mp h)
  rw [List.length_take, List.length_drop] at e
  have : 0 < S.length := List.length_pos_iff.mpr h0
  omega
theorem occL_zero {S B : List Nat} : occL S (S ++ B) 0 = true := by
  unfold occL
  simp
theorem occ_join {S : List Nat} (h0 : S ≠ []) : ∀ {ts : List (List Nat)}, ts ≠ [] → (∀ t ∈ ts, Lone S t) → ∀ i, 1 ≤ i → (occL S (S ++ joinLL S ts) i = true ↔ i ∈ posL S.length S.length ts)
  | [], h, _, _, _ => absurd rfl h
  | [t], _, hl, i, h1 => by
    simp only [posL, joinLL, List.not_mem_nil, iff_false]
    intro h
    have hb := occL_len h0 h
    rw [List.length_append] at hb
    have hs : 0 < S.length := List.length_pos_iff.mpr h0
    have := hl t (by simp) i h1 (by omega)
    rw [← List.append_assoc, occL_pre (by rw [List.length_append]; omega), h] at this
    cases this
  | t :: t' :: r, _, hl, i, h1 => by
    have e : S ++ joinLL S (t :: t' :: r) = (S ++ t) ++ (S ++ joinLL S (t' :: r)) := by simp [joinLL]
    rw [e]
    simp only [posL, List.mem_cons]
    by_cases hi : i < S.length + t.length
    · have n1 : occL S ((S ++ t) ++ (S ++ joinLL S (t' :: r))) i = false := by
        have := hl t (by simp) i h1 (by omega)
        rw [show (S ++ t) ++ (S ++ joinLL S (t' :: r)) = (S ++ (t ++ S)) ++ joinLL S (t' :: r) by simp, occL_pre (by simp; omega)]
        exact this
      rw [n1]
      refine ⟨fun h => (by cases h), fun h => ?_⟩
      rcases h with h | h
      · omega
      · have := SepBy.ge posL_sep i h
        omega
    · obtain ⟨j, rfl⟩ : ∃ j, i = (S ++ t).length + j := ⟨i - (S ++ t).length, by rw [List.length_append]; omega⟩
      rw [occL_post]
      by_cases hj : j = 0
      · subst hj
        rw [occL_zero]
        simp [List.length_append]
      · rw [occ_join h0 (ts := t' :: r) (by simp) (fun x hx => hl x (by simp at hx ⊢; exact .inr hx)) j (by omega)]
        rw [show S.length + t.length + S.length = S.length + (S.length + t.length) by omega, posL_shift (off := S.length) (a := S.length + t.length), List.mem_map, List.length_append]
        constructor
        · exact fun h => .inr ⟨j, h, by omega⟩
        · rintro (h | ⟨p, hp, e⟩)
          · omega
          · have : p = j := by omega
            exact this ▸ hp
theorem occ_join0 {S : List Nat} (h0 : S ≠ []) {ts : List (List Nat)} (hn : ts ≠ []) (hl : ∀ t ∈ ts, Lone S t) (i : Nat) : occL S (joinLL S ts) i = true ↔ i ∈ posL S.length 0 ts := by
  have hp : 0 < S.length := List.length_pos_iff.mpr h0
  rw [← occL_post (S := S) (A := S) (B := joinLL S ts), occ_join h0 hn hl (S.length + i) (by omega)]
  have : posL S.length S.length ts = (posL S.length 0 ts).map (· + S.length) := by
    have := posL_shift (w := S.length) (a := S.length) (off := 0) (ts := ts)
    rwa [Nat.zero_add] at this
  rw [this, List.mem_map]
  constructor
  · rintro ⟨p, hp, e⟩
    have : p = i := by omega
    exact this ▸ hp
  · exact fun h => ⟨i, h, by omega⟩
theorem cpL_len (x : Str) : (cpL x).length = x.length := by simp [Str.length]
theorem atB_occ {x y : Str} (h0 : cpL y ≠ []) (i : Nat) : atB x y x.length i = occL (cpL y) (cpL x) i := by
  have e : Builtin.Str.subAt x y i = occL (cpL y) (cpL x) i := by
    rw [PySem.StrLaws.subAt_eq]
    unfold occL
    rw [cpL_len]
  unfold atB
  rw [e]
  cases h : occL (cpL y) (cpL x) i with
  | false => simp
  | true =>
    have := occL_len h0 h
    rw [cpL_len, cpL_len] at this
    simp [this]
theorem joinS_LL {y : Str} : ∀ {ts : List Str}, cpL (Str.join y ts) = joinLL (cpL y) (ts.map cpL)
  | [] => by simp [Str.join, joinLL]; rfl
  | [a] => by rw [joinS_one]; rfl
  | a :: b :: r => by
    rw [joinS_cons, cpL_app, cpL_app, joinS_LL (ts := b :: r)]
    simp [joinLL]
theorem parts_posL {x y : Str} : ∀ {ts : List Str} {a : Nat}, ts ≠ [] → a ≤ x.length → (cpL x).drop a = joinLL (cpL y) (ts.map cpL) → PySem.StrLaws.partsFrom x y.length a (posL y.length a (ts.map cpL)) = ts
  | [], _, h, _, _ => absurd rfl h
  | [t], a, _, ha, h => by
    show [Builtin.Str.strSub x a x.length] = [t]
    congr 1
    apply cpL_inj
    show (Builtin.Str.strSub x a x.length).cps.toList = _
    rw [PySem.StrLaws.strSub_toList, ← cpL_len x]
    show ((cpL x).drop a).take _ = _
    rw [h, List.take_of_length_le]
    · rfl
    · rw [← h, List.length_drop]
      exact Nat.le_refl _
  | t :: t' :: r, a, _, ha, h => by
    have h' : (cpL x).drop a = cpL t ++ (cpL y ++ joinLL (cpL y) ((t' :: r).map cpL)) := h
    have hl : (cpL x).length - a = (cpL t).length + ((cpL y).length + (joinLL (cpL y) ((t' :: r).map cpL)).length) := by
      rw [← List.length_drop, h', List.length_append, List.length_append]
    simp only [cpL_len] at hl
    show Builtin.Str.strSub x a (a + (cpL t).length) :: PySem.StrLaws.partsFrom x y.length (a + (cpL t).length + y.length) (posL y.length (a + (cpL t).length + y.length) ((t' :: r).map cpL)) = t :: t' :: r
    rw [cpL_len]
    have e2 := parts_posL (x := x) (y := y) (ts := t' :: r) (a := a + t.length + y.length) (by simp) (by omega) (by
      rw [show a + t.length + y.length = a + ((cpL t).length + (cpL y).length) by rw [cpL_len, cpL_len]; omega, ← List.drop_drop, h', ← List.append_assoc, ← List.length_append, List.drop_left])
    rw [e2]
    congr 1
    apply cpL_inj
    show (Builtin.Str.strSub x a (a + t.length)).cps.toList = _
    rw [PySem.StrLaws.strSub_toList]
    show ((cpL x).drop a).take _ = _
    rw [h', show a + t.length - a = (cpL t).length by rw [cpL_len]; omega, List.take_left]
/-- splitting gives back what was joined -/
theorem split_joinS {y : Str} (h0 : cpL y ≠ []) (hk : Builtin.Str.strKind y = 1) {ts : List Str} (hn : ts ≠ []) (hl : ∀ t ∈ ts, Lone (cpL y) (cpL t)) : Txt.split (Str.join y ts) y = ts := by
  have hp : 0 < (cpL y).length := List.length_pos_iff.mpr h0
  have hy : 1 ≤ y.length := by rw [← cpL_len]; exact hp
  rw [split_ps hy hk (ps := posL y.length 0 (ts.map cpL)) posL_sep (fun i => by
    rw [atB_occ h0, joinS_LL, ← cpL_len y]
    exact occ_join0 h0 (by simpa using hn) (fun t ht => by
      obtain ⟨u, hu, rfl⟩ := List.mem_map.mp ht
      exact hl u hu) i)]
  exact parts_posL hn (Nat.zero_le _) (by rw [List.drop_zero, joinS_LL])
/-- a text within another -/
def inS (y x : Str) : Bool := !(Builtin.Str.occurrences x y 0 x.length 1).isEmpty
theorem inS_iff {x y : Str} (h0 : cpL y ≠ []) : inS y x = true ↔ ∃ i, occL (cpL y) (cpL x) i = true := by
  unfold inS
  rw [PySem.StrLaws.found_iff]
  constructor
  · rintro ⟨i, h1, h2⟩
    refine ⟨i, ?_⟩
    rw [← atB_occ h0]
    unfold atB
    simp [h1, h2]
  · rintro ⟨i, h⟩
    rw [← atB_occ h0] at h
    unfold atB at h
    rw [Bool.and_eq_true, decide_eq_true_eq] at h
    exact ⟨i, h.1, h.2⟩
theorem inS_join {y : Str} (h0 : cpL y ≠ []) {ts : List Str} (hn : ts ≠ []) (hl : ∀ t ∈ ts, Lone (cpL y) (cpL t)) : inS y (Str.join y ts) = decide (2 ≤ ts.length) := by
  rw [Bool.eq_iff_iff, inS_iff h0, decide_eq_true_eq]
  have key := fun i => occ_join0 h0 (ts := ts.map cpL) (by simpa using hn) (fun t ht => by
      obtain ⟨u, hu, rfl⟩ := List.mem_map.mp ht
      exact hl u hu) i
  rw [joinS_LL]
  constructor
  · rintro ⟨i, h⟩
    have h := (key i).mp h
    match ts, hn with
    | [t], _ => cases h
    | _ :: _ :: _, _ => simp
  · intro h
    match ts, hn with
    | [t], _ => simp at h
    | t :: t' :: r, _ => exact ⟨_, (key _).mpr (by simp only [List.map, posL]; exact List.mem_cons_self)⟩
/-! no "an" -/
def np : List Nat → Bool
  | [] => true
  | [_] => true
  | a :: b :: r => !(a == 97 && b == 110) && np (b :: r)
theorem np_tail {a : Nat} {r : List Nat} (h : np (a :: r) = true) : np r = true := by
  cases r with
  | nil => rfl
  | cons b r => simp only [np, Bool.and_eq_true] at h; exact h.2
theorem np_drop : ∀ {i : Nat} {L : List Nat}, np L = true → np (L.drop i) = true
  | 0, _, h => h
  | i + 1, [], h => rfl
  | i + 1, _ :: r, h => np_drop (i := i) (np_tail h)
theorem np_app : ∀ {A B : List Nat}, np A = true → np B = true → A.getLast? ≠ some 97 → np (A ++ B) = true
  | [], _, _, h, _ => h
  | [a], B, _, h, hl => by
    cases B with
    | nil => rfl
    | cons b r =>
      have : a ≠ 97 := fun e => hl (by rw [e]; rfl)
      show (!(a == 97 && b == 110) && np (b :: r)) = true
      simp [this, h]
  | a :: b :: A, B, ha, h, hl => by
    have h1 := ha
    simp only [np, Bool.and_eq_true] at h1
    show (!(a == 97 && b == 110) && np (b :: (A ++ B))) = true
    rw [h1.1, Bool.true_and]
    exact np_app (A := b :: A) h1.2 h (by simpa using hl)
theorem np_none {L : List Nat} (h : np L = true) (i : Nat) : occL [32, 97, 110, 100, 32] L i = false := by
  cases q : occL [32, 97, 110, 100, 32] L i with
  | false => rfl
  | true =>
    unfold occL at q
    have e := beq_iff_eq.mp q
    have hd := np_drop (i := i) h
    generalize L.drop i = M at e hd
    match M, e with
    | a :: b :: c :: r, e =>
      simp at e
      obtain ⟨rfl, rfl, rfl, _⟩ := e
      simp [np] at hd
theorem np_join {S : List Nat} (hs : np S = true) (hs2 : S.getLast? ≠ some 97) (h0 : S ≠ []) : ∀ {ts : List (List Nat)}, (∀ t ∈ ts, np t = true ∧ t.getLast? ≠ some 97) → np (joinLL S ts) = true
  | [], _ => rfl
  | [t], h => (h t (by simp)).1
  | t :: t' :: r, h => by
    have ih := np_join hs hs2 h0 (ts := t' :: r) fun x hx => h x (List.mem_cons_of_mem _ hx)
    exact np_app (h t (by simp)).1 (np_app hs ih hs2) (h t (by simp)).2
/-! ### the texts of comparisons -/
abbrev midS : List Str := ["below", "above", "not below", "not above"]
abbrev ptsS : List Str := "pointer" :: (["held", "place", "next"] : List Str).flatMap fun w => (["0", "1", "2", "3", "4"] : List Str).map fun v => w ++ " " ++ v
def ptN : List (List Nat) := [[112, 111, 105, 110, 116, 101, 114], [104, 101, 108, 100, 32, 48], [104, 101, 108, 100, 32, 49], [104, 101, 108, 100, 32, 50], [104, 101, 108, 100, 32, 51], [104, 101, 108, 100, 32, 52], [112, 108, 97, 99, 101, 32, 48], [112, 108, 97, 99, 101, 32, 49], [112, 108, 97, 99, 101, 32, 50], [112, 108, 97, 99, 101, 32, 51], [112, 108, 97, 99, 101, 32, 52], [110, 101, 120, 116, 32, 48], [110, 101, 120, 116, 32, 49], [110, 101, 120, 116, 32, 50], [110, 101, 120, 116, 32, 51], [110, 101, 120, 116, 32, 52]]
def midN : List (List Nat) := [[98, 101, 108, 111, 119], [97, 98, 111, 118, 101], [110, 111, 116, 32, 98, 101, 108, 111, 119], [110, 111, 116, 32, 97, 98, 111, 118, 101]]
theorem ptN_eq : ptsS.map cpL = ptN := by decide +kernel
theorem midN_eq : midS.map cpL = midN := by decide +kernel
theorem ptD_eq : ptsAll.map ptT = ptsS := by decide +kernel
theorem midD_eq : wdsAll = midS := by decide +kernel
def IsTx (t : Str) : Prop := ∃ m ∈ midS, ∃ p ∈ ptsS, ∃ q ∈ ptsS, t = p ++ " " ++ m ++ " " ++ q
theorem isPt_ofB {d : D} (h : isPtB d = true) : IsPt d := by
  match d, h with
  | .tup [a], h => rw [isS_str (s := "pointer") h]; exact .inl rfl
  | .tup [a, b], h =>
    simp only [isPtB, Bool.and_eq_true] at h
    obtain ⟨_, h1, h2, h3⟩ := h
    match b, h3 with
    | .int v, h3 =>
      simp only [rng, Bool.and_eq_true, decide_eq_true_eq] at h3
      have hw : ∃ w : Str, a = .str w ∧ (w = "held" ∨ w = "place" ∨ w = "next") := by
        unfold th at h1
        simp only [Bool.or_eq_true] at h1
        rcases h1 with k | k | k
        · exact ⟨_, isS_str k, .inl rfl⟩
        · exact ⟨_, isS_str k, .inr (.inl rfl)⟩
        · exact ⟨_, isS_str k, .inr (.inr rfl)⟩
      obtain ⟨w, rfl, hw⟩ := hw
      exact .inr ⟨w, v, hw, h3.1, h3.2, rfl⟩
theorem isCmp_ofB {d : D} (h : isCmpB d = true) : IsCmp d := by
  match d, h with
  | .tup [a, b, c], h =>
    simp only [isCmpB, Bool.and_eq_true] at h
    obtain ⟨h1, h2, h3⟩ := h
    have hw : ∃ w : Str, a = .str w ∧ IsWd w := by
      unfold wd at h1
      simp only [Bool.or_eq_true] at h1
      rcases h1 with k | k | k | k
      · exact ⟨_, isS_str k, .inl rfl⟩
      · exact ⟨_, isS_str k, .inr (.inl rfl)⟩
      · exact ⟨_, isS_str k, .inr (.inr (.inl rfl))⟩
      · exact ⟨_, isS_str k, .inr (.inr (.inr rfl))⟩
    obtain ⟨w, rfl, hw⟩ := hw
    exact ⟨w, b, c, hw, isPt_ofB h2, isPt_ofB h3, rfl⟩
theorem cmpT_form {w : Str} {p r : D} (hw : w ∈ wdsAll) (hp : p ∈ ptsAll) (hr : r ∈ ptsAll) : cmpT (.tup [.str w, p, r]) = ptT p ++ " " ++ w ++ " " ++ ptT r := by
  have h := List.all_eq_true.mp (List.all_eq_true.mp (List.all_eq_true.mp cmp_tl w hw) p hp) r hr
  apply cpL_inj
  have h := eq_of_beq h
  refine h.trans ?_
  rw [cpL_app, cpL_app, cpL_app, cpL_app]
  show cpL (ptT p) ++ 32 :: (cpL w ++ 32 :: cpL (ptT r)) = cpL (ptT p) ++ [32] ++ cpL w ++ [32] ++ cpL (ptT r)
  simp
theorem tx_of {c : D} (h : IsCmp c) : IsTx (cmpT c) := by
  obtain ⟨w, p, r, hw, hp, hr, rfl⟩ := h
  have hw' : w ∈ wdsAll := by rw [midD_eq]; rcases hw with rfl | rfl | rfl | rfl <;> simp
  refine ⟨w, midD_eq ▸ hw', ptT p, ptD_eq ▸ List.mem_map_of_mem (pts_mem hp), ptT r, ptD_eq ▸ List.mem_map_of_mem (pts_mem hr), cmpT_form hw' (pts_mem hp) (pts_mem hr)⟩
theorem ptsAll_B : ptsAll.all isPtB = true := by decide +kernel
theorem tx_cmp {t : Str} (h : IsTx t) : ∃ c, IsCmp c ∧ cmpT c = t := by
  obtain ⟨m, hm, p, hp, q, hq, rfl⟩ := h
  rw [← ptD_eq] at hp hq
  obtain ⟨p', hp', rfl⟩ := List.mem_map.mp hp
  obtain ⟨q', hq', rfl⟩ := List.mem_map.mp hq
  refine ⟨.tup [.str m, p', q'], ⟨m, p', q', ?_, isPt_ofB (List.all_eq_true.mp ptsAll_B p' hp'), isPt_ofB (List.all_eq_true.mp ptsAll_B q' hq'), rfl⟩, cmpT_form (midD_eq ▸ hm) hp' hq'⟩
  simp at hm
  exact hm
def noOcc (S : List Nat) : Nat → List Nat → Bool
  | 0, _ => true
  | n + 1, L => !(S.isPrefixOf L) && noOcc S n L.tail
theorem noOcc_spec {S : List Nat} : ∀ {n : Nat} {L : List Nat}, noOcc S n L = true → ∀ i, i < n → occL S L i = false
  | 0, _, _, i, hi => by omega
  | n + 1, L, h, i, hi => by
    simp only [noOcc, Bool.and_eq_true] at h
    cases i with
    | zero =>
      cases q : occL S L 0 with
      | false => rfl
      | true =>
        unfold occL at q
        have e := beq_iff_eq.mp q
        rw [List.drop_zero] at e
        have : S <+: L := e ▸ List.take_prefix S.length L
        have h1 := h.1
        rw [List.isPrefixOf_iff_prefix.mpr this] at h1
        cases h1
    | succ i =>
      have := noOcc_spec h.2 i (by omega)
      cases L with
      | nil => unfold occL at this ⊢; simpa using this
      | cons a r => exact this
theorem lone_of {S t : List Nat} (h : noOcc S (t.length + S.length - 1) (S ++ (t ++ S)).tail = true) : Lone S t := fun i h1 h2 => by
  have := noOcc_spec h (i - 1) (by omega)
  cases q : S ++ (t ++ S) with
  | nil =>
    have e := congrArg List.length q
    simp only [List.length_append, List.length_nil] at e
    omega
  | cons a r =>
    rw [q] at this
    obtain ⟨j, rfl⟩ : ∃ j, i = j + 1 := ⟨i - 1, by omega⟩
    exact this
def txFact (t : List Nat) : Bool := noOcc [32, 97, 110, 100, 32] (t.length + 4) ([32, 97, 110, 100, 32] ++ (t ++ [32, 97, 110, 100, 32])).tail && (noOcc [32, 111, 114, 32] (t.length + 3) ([32, 111, 114, 32] ++ (t ++ [32, 111, 114, 32])).tail && (np t && (t.getLast? != some 97)))
theorem lone_all : (midN.all fun m => ptN.all fun p => ptN.all fun q => txFact (p ++ ([32] ++ (m ++ ([32] ++ q))))) = true := by decide +kernel
theorem tx_facts {t : Str} (h : IsTx t) : Lone [32, 97, 110, 100, 32] (cpL t) ∧ Lone [32, 111, 114, 32] (cpL t) ∧ np (cpL t) = true ∧ (cpL t).getLast? ≠ some 97 := by
  obtain ⟨m, hm, p, hp, q, hq, rfl⟩ := h
  have hm' : cpL m ∈ midN := midN_eq ▸ List.mem_map_of_mem hm
  have hp' : cpL p ∈ ptN := ptN_eq ▸ List.mem_map_of_mem hp
  have hq' : cpL q ∈ ptN := ptN_eq ▸ List.mem_map_of_mem hq
  have h := List.all_eq_true.mp (List.all_eq_true.mp (List.all_eq_true.mp lone_all _ hm') _ hp') _ hq'
  have e : cpL (p ++ " " ++ m ++ " " ++ q) = cpL p ++ ([32] ++ (cpL m ++ ([32] ++ cpL q))) := by
    rw [cpL_app, cpL_app, cpL_app, cpL_app]
    show cpL p ++ [32] ++ cpL m ++ [32] ++ cpL q = _
    simp
  rw [← e] at h
  simp only [txFact, Bool.and_eq_true, bne_iff_ne] at h
  exact ⟨lone_of h.1, lone_of h.2.1, h.2.2.1, h.2.2.2⟩
theorem cp_cut1 {z : Str} {n : Nat} : cpL (cutS z none (some (n : Int))) = (cpL z).take n := by
  show (((z.cps.toList.drop (HT.sIx z.length 0 none)).take (HT.sIx z.length z.length (some (n : Int)) - HT.sIx z.length 0 none)).toArray).toList = z.cps.toList.take n
  rw [HT.sIx_nat, HT.sIx_none]
  simp only [List.drop_zero, Nat.sub_zero]
  have hl : z.cps.toList.length = z.length := cpL_len z
  rcases Nat.le_total n z.length with h | h
  · rw [Nat.min_eq_left h]
  · rw [Nat.min_eq_right h, List.take_of_length_le (by omega), List.take_of_length_le (by omega)]
theorem cp_cut2 {z : Str} {n : Nat} : cpL (cutS z (some (n : Int)) none) = (cpL z).drop n := by
  show (((z.cps.toList.drop (HT.sIx z.length 0 (some (n : Int)))).take (HT.sIx z.length z.length none - HT.sIx z.length 0 (some (n : Int)))).toArray).toList = z.cps.toList.drop n
  rw [HT.sIx_nat, HT.sIx_none]
  have hl : z.cps.toList.length = z.length := cpL_len z
  rcases Nat.le_total n z.length with h | h
  · rw [Nat.min_eq_left h]
    exact List.take_of_length_le (by rw [List.length_drop]; omega)
  · rw [Nat.min_eq_right h, List.drop_of_length_le (by omega), List.drop_of_length_le (by omega)]
    simp
theorem cut_join {z : Str} {n : Nat} : cutS z none (some (n : Int)) ++ cutS z (some (n : Int)) none = z := by
  apply cpL_inj
  rw [cpL_app, cp_cut1, cp_cut2, List.take_append_drop]
theorem cut_app1 {a b : Str} : cutS (a ++ b) none (some (a.length : Int)) = a := by
  apply cpL_inj
  rw [cp_cut1, cpL_app, ← cpL_len a, List.take_left]
theorem cut_app2 {a b : Str} : cutS (a ++ b) (some (a.length : Int)) none = b := by
  apply cpL_inj
  rw [cp_cut2, cpL_app, ← cpL_len a, List.drop_left]
abbrev hdS (m p : Str) : Str := p ++ " " ++ m ++ " "
def isTxB (t : Str) : Bool := midS.any fun m => ptsS.any fun p => (cutS t none (some ((hdS m p).length : Int)) == hdS m p) && ptsS.any fun q => q == cutS t (some ((hdS m p).length : Int)) none
theorem isTxB_iff {t : Str} : isTxB t = true ↔ IsTx t := by
  unfold isTxB IsTx
  constructor
  · intro h
    obtain ⟨m, hm, h⟩ := List.any_eq_true.mp h
    obtain ⟨p, hp, h⟩ := List.any_eq_true.mp h
    rw [Bool.and_eq_true] at h
    obtain ⟨q, hq, e⟩ := List.any_eq_true.mp h.2
    refine ⟨m, hm, p, hp, q, hq, ?_⟩
    have e1 := eq_of_beq h.1
    have e2 := eq_of_beq e
    have e3 := cut_join (z := t) (n := (hdS m p).length)
    rw [e1, ← e2] at e3
    exact e3.symm
  · rintro ⟨m, hm, p, hp, q, hq, rfl⟩
    refine List.any_eq_true.mpr ⟨m, hm, List.any_eq_true.mpr ⟨p, hp, ?_⟩⟩
    rw [Bool.and_eq_true]
    exact ⟨beq_iff_eq.mpr (cut_app1 (a := hdS m p) (b := q)), List.any_eq_true.mpr ⟨q, hq, beq_iff_eq.mpr (cut_app2 (a := hdS m p) (b := q)).symm⟩⟩
def lnParts (r : Str) : List Str := if inS " and " r then Txt.split r " and " else Txt.split r " or "
def isLineB (L w : Str) : Bool := (cutS L none (some ((w ++ " ").length : Int)) == w ++ " ") && (decide ((lnParts (cutS L (some ((w ++ " ").length : Int)) none)).length < 4) && (lnParts (cutS L (some ((w ++ " ").length : Int)) none)).all isTxB)
theorem and_cp : cpL " and " = [32, 97, 110, 100, 32] := by decide +kernel
theorem or_cp : cpL " or " = [32, 111, 114, 32] := by decide +kernel
theorem cmps_of : ∀ {ps : List Str}, (∀ t ∈ ps, IsTx t) → ∃ cs : List D, (∀ c ∈ cs, IsCmp c) ∧ cs.map cmpT = ps
  | [], _ => ⟨[], by simp, rfl⟩
  | t :: ps, h => by
    obtain ⟨c, hc, e⟩ := tx_cmp (h t (by simp))
    obtain ⟨cs, hcs, e2⟩ := cmps_of (ps := ps) fun x hx => h x (List.mem_cons_of_mem _ hx)
    exact ⟨c :: cs, fun x hx => (List.mem_cons.mp hx).elim (fun q => q ▸ hc) (hcs x), by rw [List.map_cons, e, e2]⟩
theorem sep_two {s : Str} {cs : List D} (hs : s = "and" ∨ s = "or") : sepS (.tup (.str s :: cs)) = " " ++ s ++ " " := by
  unfold sepS
  rw [if_pos (by show jn (.str s) = true; rcases hs with rfl | rfl <;> decide +kernel)]
  show Str.empty ++ " " ++ s ++ " " = _
  rcases hs with rfl | rfl <;> decide +kernel
theorem line_one {w : Str} {c : D} (h : IsCmp c) : lineS w c = w ++ " " ++ cmpT c := by
  unfold lineS
  rw [partsD_cmp h]
  simp only [List.map]
  rw [tjoin_one]
theorem line_two {w s : Str} {cs : List D} (hs : s = "and" ∨ s = "or") : lineS w (.tup (.str s :: cs)) = w ++ " " ++ Str.join (" " ++ s ++ " ") (cs.map cmpT) := by
  have hp : partsD (.tup (.str s :: cs)) = cs := by simp only [partsD]; rw [if_pos hs]
  unfold lineS
  rw [hp, sep_two hs, tjoin]
theorem mk_line {w s : Str} {ps : List Str} (hs : s = "and" ∨ s = "or") (h1 : 1 ≤ ps.length) (h2 : ps.length < 4) (h : ∀ t ∈ ps, IsTx t) : ∃ c, IsCond c ∧ lineS w c = w ++ " " ++ Str.join (" " ++ s ++ " ") ps := by
  obtain ⟨cs, hc, rfl⟩ := cmps_of h
  rw [List.length_map] at h1 h2
  match cs, h1 with
  | [c], _ => exact ⟨c, .inl (hc c (by simp)), by rw [line_one (hc c (by simp))]; simp only [List.map]; rw [joinS_one]⟩
  | c :: d :: r, _ => exact ⟨_, .inr ⟨s, _, hs, by simp, by omega, hc, rfl⟩, line_two hs⟩
theorem line_iff {L w : Str} : isLineB L w = true ↔ ∃ c, IsCond c ∧ lineS w c = L := by
  have ka : cpL " and " ≠ [] := by rw [and_cp]; simp
  have ko : cpL " or " ≠ [] := by rw [or_cp]; simp
  unfold isLineB
  simp only [Bool.and_eq_true, beq_iff_eq, decide_eq_true_eq, List.all_eq_true]
  constructor
  · rintro ⟨h1, h2, h3⟩
    have hL := cut_join (z := L) (n := (w ++ " ").length)
    rw [h1] at hL
    generalize cutS L (some ((w ++ " ").length : Int)) none = r at *
    have h3 : ∀ t ∈ lnParts r, IsTx t := fun t ht => isTxB_iff.mp (h3 t ht)
    unfold lnParts at h2 h3
    split at h2
    · rename_i q
      rw [if_pos q] at h3
      obtain ⟨c, hc, e⟩ := mk_line (w := w) (s := "and") (.inl rfl) (PyProof.Rows.split_pos _ _) h2 h3
      refine ⟨c, hc, e.trans ?_⟩
      rw [show (" " : Str) ++ "and" ++ " " = " and " by decide +kernel, PySem.StrLaws.join_split]
      exact hL
    · rename_i q
      rw [if_neg q] at h3
      obtain ⟨c, hc, e⟩ := mk_line (w := w) (s := "or") (.inr rfl) (PyProof.Rows.split_pos _ _) h2 h3
      refine ⟨c, hc, e.trans ?_⟩
      rw [show (" " : Str) ++ "or" ++ " " = " or " by decide +kernel, PySem.StrLaws.join_split]
      exact hL
  · rintro ⟨c, hc, rfl⟩
    have two : ∀ (s : Str) (cs : List D), (s = "and" ∨ s = "or") → cs ≠ [] → cs.length ≤ 3 → (∀ c ∈ cs, IsCmp c) → lnParts (Str.join (" " ++ s ++ " ") (cs.map cmpT)) = cs.map cmpT := by
      intro s cs hs hn hl hcs
      have hne : cs.map cmpT ≠ [] := by simpa using hn
      have ft : ∀ t ∈ cs.map cmpT, Lone [32, 97, 110, 100, 32] (cpL t) ∧ Lone [32, 111, 114, 32] (cpL t) ∧ np (cpL t) = true ∧ (cpL t).getLast? ≠ some 97 := fun t ht => by
        obtain ⟨c, hc, rfl⟩ := List.mem_map.mp ht
        exact tx_facts (tx_of (hcs c hc))
      unfold lnParts
      rcases hs with rfl | rfl
      · rw [show (" " : Str) ++ "and" ++ " " = " and " by decide +kernel, inS_join ka hne (fun t ht => by rw [and_cp]; exact (ft t ht).1)]
        by_cases h2 : 2 ≤ (cs.map cmpT).length
        · rw [if_pos (by simpa using h2), split_joinS ka (by decide +kernel) hne (fun t ht => by rw [and_cp]; exact (ft t ht).1)]
        · rw [if_neg (by simpa using h2)]
          match cs, hn with
          | [c], _ =>
            have := split_joinS (y := " or ") ko (by decide +kernel) (ts := [cmpT c]) (by simp) (fun t ht => by rw [or_cp]; exact (ft t (by simpa using ht)).2.1)
            rw [joinS_one] at this
            show Txt.split (Str.join " and " [cmpT c]) " or " = _
            rw [joinS_one]
            exact this
          | _ :: _ :: _, _ => simp at h2
      · rw [show (" " : Str) ++ "or" ++ " " = " or " by decide +kernel]
        have hno : ¬ (inS " and " (Str.join " or " (cs.map cmpT)) = true) := by
          rw [inS_iff ka]
          rintro ⟨i, hi⟩
          rw [joinS_LL, or_cp, and_cp, np_none (np_join (by decide) (by decide) (by simp) fun t ht => by
            obtain ⟨u, hu, rfl⟩ := List.mem_map.mp ht
            exact (ft u hu).2.2) i] at hi
          cases hi
        rw [if_neg hno, split_joinS ko (by decide +kernel) hne (fun t ht => by rw [or_cp]; exact (ft t ht).2.1)]
    have key : ∀ (r : Str) (ps : List Str), lnParts r = ps → ps.length < 4 → (∀ t ∈ ps, IsTx t) → cutS (w ++ " " ++ r) none (some ((w ++ " ").length : Int)) = w ++ " " ∧ (lnParts (cutS (w ++ " " ++ r) (some ((w ++ " ").length : Int)) none)).length < 4 ∧ ∀ t ∈ lnParts (cutS (w ++ " " ++ r) (some ((w ++ " ").length : Int)) none), isTxB t = true := by
      intro r ps e hl ht
      rw [cut_app1, cut_app2, e]
      exact ⟨rfl, hl, fun t h => isTxB_iff.mpr (ht t h)⟩
    rcases hc with h | ⟨s, cs, hs, h0, h1, hcs, rfl⟩
    · rw [line_one h]
      have e := two "and" [c] (.inl rfl) (by simp) (by simp) (by simpa using h)
      simp only [List.map] at e
      rw [joinS_one] at e
      exact key _ _ e (by simp) (by simpa using tx_of h)
    · rw [line_two hs]
      exact key _ _ (two s cs hs (fun e => by rw [e] at h0; simp at h0) h1 hcs) (by rw [List.length_map]; omega) fun t ht => by
        obtain ⟨c, hc, rfl⟩ := List.mem_map.mp ht
        exact tx_of (hcs c hc)
/-! ### the law's readings -/
theorem forL_any {b : D → DenS} {I : MP.Env → Prop} {p : D → Bool} : ∀ {ds : List D} {ρ : MP.Env} {st : Store}, I ρ → (∀ d ∈ ds, ∀ ρ, I ρ → T (b d ρ) st (fun r s => s = st ∧ if p d = true then r = .rt (.bl true) else ∃ ρ', r = .nx ρ' ∧ I ρ')) →
    T (forL b ds ρ) st (fun r s => s = st ∧ if ds.any p = true then r = .rt (.bl true) else ∃ ρ', r = .nx ρ' ∧ I ρ')
  | [], ρ, st, h, _ => ⟨rfl, by rw [if_neg (by simp)]; exact ⟨ρ, rfl, h⟩⟩
  | d :: ds, ρ, st, h, k => by
    unfold forL
    rw [t_bind]
    refine (k d List.mem_cons_self ρ h).mono fun r s hr => ?_
    obtain ⟨rfl, hr⟩ := hr
    cases hp : p d with
    | true =>
      rw [hp, if_pos rfl] at hr
      subst hr
      refine ⟨rfl, ?_⟩
      rw [if_pos (by simp [hp])]
    | false =>
      rw [hp, if_neg (by simp)] at hr
      obtain ⟨ρ', rfl, h'⟩ := hr
      refine (forL_any h' fun x hx => k x (List.mem_cons_of_mem _ hx)).mono fun r s hr => ?_
      rw [List.any_cons, hp, Bool.false_or]
      exact hr
theorem eq_ss {neg : Bool} {a b : Str} (ha : PyData.strOk a = true) (hb : PyData.strOk b = true) : opEq neg (.str a) (.str b) = pure (.bl (if neg then !(a == b) else a == b)) := by
  rw [eq_of (dep_str ha) (dep_str hb), deq_ss]
theorem ok_cut {z : Str} (h : PyData.strOk z = true) (lo hi : Option Int) : PyData.strOk (cutS z lo hi) = true := by
  unfold PyData.strOk at *
  rw [← Array.all_toList] at *
  refine List.all_eq_true.mpr fun c hc => List.all_eq_true.mp h c ?_
  have hc : c ∈ ((z.cps.toList.drop (HT.sIx z.length 0 lo)).take (HT.sIx z.length z.length hi - HT.sIx z.length 0 lo)) := by
    have : (cutS z lo hi).cps.toList = ((z.cps.toList.drop (HT.sIx z.length 0 lo)).take (HT.sIx z.length z.length hi - HT.sIx z.length 0 lo)) := rfl
    rw [this] at hc
    exact hc
  exact List.mem_of_mem_drop (List.mem_of_mem_take hc)
@[simp] theorem sl_ss {z : Str} {lo hi : Option Int} : opSl lo hi (.str z) = guardM (decide (z.length ≤ big)) (pure (.str (cutS z lo hi))) := rfl
@[simp] theorem len_ss {z : Str} : biLen (.str z) = guardM (decide (z.length ≤ big)) (pure (.int z.length)) := rfl
abbrev ptB1 : DenS := dFor (iVal (dTup (dCons (dC (.str "held")) (dCons (dC (.str "place")) (dCons (dC (.str "next")) (dNil)))))) (gOf (.nm 2)) (dAsg (d2 opAdd (dVar 1) (dLc (iRange1 (dCons (dC (.int 5)) (dNil))) [6] (.nm 6) (bTrue) (d2 opAdd (d2 opAdd (dVar 2) (dC (.str " "))) (dCall (on1 biStr) (dCons (dVar 6) (dNil)))))) (gSet 1))
theorem pts_loop {x0 : D} {st : Store} : ptB1 [some x0, some (.lst [.str "pointer"]), none, none, none, none, none] st = .ok (.nx [some x0, some (.lst (ptsS.map D.str)), some (.str "next"), none, none, none, none]) st := by kernel_rfl
theorem pts_ok : ∀ p ∈ ptsS, PyData.strOk p = true ∧ p.length ≤ 20 := by decide +kernel
theorem mid_ok : ∀ p ∈ midS, PyData.strOk p = true ∧ p.length ≤ 20 := by decide +kernel
abbrev ptB2 : DenS := dSeq (dAsg (d2 opAdd (d2 opAdd (d2 opAdd (dVar 4) (dC (.str " "))) (dVar 3)) (dC (.str " "))) (gSet 5)) <|
  dIfS (dBAnd (bVal (d2 (opEq false) (dSl (dVar 0) (oNone) (oSome (dCall (on1 biLen) (dCons (dVar 5) (dNil))))) (dVar 5))) (bVal (d2 (opIn false) (dSl (dVar 0) (oSome (dCall (on1 biLen) (dCons (dVar 5) (dNil)))) (oNone)) (dVar 1)))) (dRet (dC (.bl true))) (dSkip)
abbrev ptEnv (t : Str) (x2 : Option D) (m : Str) (x4 x5 x6 : Option D) : MP.Env := [some (.str t), some (.lst (ptsS.map D.str)), x2, some (.str m), x4, x5, x6]
theorem part_step {t m p : Str} {x2 x5 x6 : Option D} {st : Store} (ht : PyData.strOk t = true) (hl : t.length ≤ 4000) (hm : m ∈ midS) (hp : p ∈ ptsS) :
    T (ptB2 (ptEnv t x2 m (some (.str p)) x5 x6)) st (fun r s => s = st ∧ if ((cutS t none (some ((hdS m p).length : Int)) == hdS m p) && ptsS.any fun q => q == cutS t (some ((hdS m p).length : Int)) none) = true then r = .rt (.bl true) else ∃ y5, r = .nx (ptEnv t x2 m (some (.str p)) y5 x6)) := by
  obtain ⟨m1, m2⟩ := mid_ok m hm
  obtain ⟨p1, p2⟩ := pts_ok p hp
  have e1 : (" " : Str).length = 1 := rfl
  have h1 : PyData.strOk (hdS m p) = true := ok_app (ok_app (ok_app p1 (by decide +kernel)) m1) (by decide +kernel)
  have hq := eq_ss (neg := false) (ok_cut ht none (some ((hdS m p).length : Int))) h1
  have hin : opIn false (.str (cutS t (some ((hdS m p).length : Int)) none)) (.lst (ptsS.map D.str)) = pure (.bl (ptsS.any fun q => q == cutS t (some ((hdS m p).length : Int)) none)) := by
    rw [in_ofL (dep_str (ok_cut ht _ _)) (dep_lst.mpr fun d hd => by
      obtain ⟨x, hx, rfl⟩ := List.mem_map.mp hd
      exact dep_str (pts_ok x hx).1), any_str]
    rfl
  have hlen : (hdS m p).length ≤ 100 := by
    show (p ++ " " ++ m ++ " ").length ≤ 100
    rw [str_app, str_app, str_app]
    omega
  rw [t_asg]
  have hadd : d2 opAdd (d2 opAdd (d2 opAdd (dVar 4) (dC (.str " "))) (dVar 3)) (dC (.str " ")) (ptEnv t x2 m (some (.str p)) x5 x6) = pure (.str (hdS m p)) := by
    refine eq_of_T fun s => ?_
    simp -implicitDefEqProofs [str_app]
    omega
  rw [hadd, t_pure]
  simp only [Bool.false_eq_true, if_false] at hq
  generalize hdS m p = hd at *
  generalize (cutS t none (some (hd.length : Int)) == hd) = A at *
  generalize (ptsS.any fun q => q == cutS t (some (hd.length : Int)) none) = B at *
  unfold ptEnv
  generalize ptsS.map D.str = PT at *
  rw [t_ifs1]
  simp -implicitDefEqProofs [hq]
  refine ⟨by omega, by omega, fun e => ⟨by omega, by omega, ?_⟩, fun e => ?_⟩
  · rw [hin]
    simp -implicitDefEqProofs [t_ret1, e]
  · subst e
    simp
theorem part_inner {t m : Str} {x2 x4 x5 x6 : Option D} {st : Store} (ht : PyData.strOk t = true) (hl : t.length ≤ 4000) (hm : m ∈ midS) :
    T (forL (fun d ρ => gOf (.nm 4) d ρ >>= ptB2) (ptsS.map D.str) (ptEnv t x2 m x4 x5 x6)) st (fun r s => s = st ∧ if (ptsS.any fun p => (cutS t none (some ((hdS m p).length : Int)) == hdS m p) && ptsS.any fun q => q == cutS t (some ((hdS m p).length : Int)) none) = true then r = .rt (.bl true) else ∃ y4 y5, r = .nx (ptEnv t x2 m y4 y5 x6)) := by
  let pD : D → Bool := fun d => match d with
    | .str p => (cutS t none (some ((hdS m p).length : Int)) == hdS m p) && ptsS.any fun q => q == cutS t (some ((hdS m p).length : Int)) none
    | _ => false
  refine (forL_any (I := fun ρ => ∃ y4 y5, ρ = ptEnv t x2 m y4 y5 x6) (p := pD) ⟨x4, x5, rfl⟩ fun d hd ρ hρ => ?_).mono fun r s hr => ?_
  · obtain ⟨p, hp, rfl⟩ := List.mem_map.mp hd
    obtain ⟨y4, y5, rfl⟩ := hρ
    rw [t_bind, gOf_nm, t_pure]
    refine (part_step (x2 := x2) (x5 := y5) (x6 := x6) ht hl hm hp).mono fun r s hr => ?_
    obtain ⟨rfl, hr⟩ := hr
    refine ⟨rfl, ?_⟩
    show if ((cutS t none (some ((hdS m p).length : Int)) == hdS m p) && ptsS.any fun q => q == cutS t (some ((hdS m p).length : Int)) none) = true then _ else _
    split
    · rename_i q
      rw [if_pos q] at hr
      exact hr
    · rename_i q
      rw [if_neg q] at hr
      obtain ⟨y, rfl⟩ := hr
      exact ⟨_, rfl, _, _, rfl⟩
  · obtain ⟨rfl, hr⟩ := hr
    refine ⟨rfl, ?_⟩
    have e : ((ptsS.map D.str).any pD) = (ptsS.any fun p => (cutS t none (some ((hdS m p).length : Int)) == hdS m p) && ptsS.any fun q => q == cutS t (some ((hdS m p).length : Int)) none) := by rw [List.any_map]; rfl
    rw [e] at hr
    split
    · rename_i q
      rw [if_pos q] at hr
      exact hr
    · rename_i q
      rw [if_neg q] at hr
      obtain ⟨_, rfl, y4, y5, rfl⟩ := hr
      exact ⟨_, _, rfl⟩
theorem is_part_eq {t : Str} (ht : PyData.strOk t = true) (hl : t.length ≤ 4000) : l_is_part [.str t] = pure (.bl (isTxB t)) := by
  refine eq_of_T fun st => ?_
  rw [l_is_part, t_run, l_is_part_b, t_asg]
  simp -implicitDefEqProofs
  have h1 := pts_loop (x0 := .str t) (st := st)
  show T (dSeq ptB1 _ _) st _
  unfold dSeq
  rw [t_bind]
  refine T.ok h1 ?_
  show T (dSeq (dFor (iVal (dTup (dCons (dC (.str "below")) (dCons (dC (.str "above")) (dCons (dC (.str "not below")) (dCons (dC (.str "not above")) (dNil))))))) (gOf (.nm 3)) (dFor (iVal (dVar 1)) (gOf (.nm 4)) ptB2)) (dRet (dC (.bl false))) [some (.str t), some (.lst (ptsS.map D.str)), some (.str "next"), none, none, none, none]) st _
  rw [t_for]
  have hit : ∀ ρ : MP.Env, iVal (dTup (dCons (dC (.str "below")) (dCons (dC (.str "above")) (dCons (dC (.str "not below")) (dCons (dC (.str "not above")) dNil))))) ρ = pure (midS.map D.str) := fun ρ => rfl
  rw [hit, t_pure]
  let pD : D → Bool := fun d => match d with
    | .str m => ptsS.any fun p => (cutS t none (some ((hdS m p).length : Int)) == hdS m p) && ptsS.any fun q => q == cutS t (some ((hdS m p).length : Int)) none
    | _ => false
  refine (forL_any (I := fun ρ => ∃ x3 y4 y5, ρ = [some (.str t), some (.lst (ptsS.map D.str)), some (.str "next"), x3, y4, y5, none]) (p := pD) ⟨none, none, none, rfl⟩ fun d hd ρ hρ => ?_).mono fun r s hr => ?_
  · obtain ⟨m, hm, rfl⟩ := List.mem_map.mp hd
    obtain ⟨x3, y4, y5, rfl⟩ := hρ
    rw [t_bind, gOf_nm, t_pure]
    show T (dFor (iVal (dVar 1)) (gOf (.nm 4)) ptB2 (ptEnv t (some (.str "next")) m y4 y5 none)) st _
    rw [t_for1]
    have hi2 : iVal (dVar 1) (ptEnv t (some (.str "next")) m y4 y5 none) = pure (ptsS.map D.str) := rfl
    rw [hi2, t_pure]
    refine (part_inner (x2 := some (.str "next")) (x4 := y4) (x5 := y5) (x6 := none) ht hl hm).mono fun r s hr => ?_
    obtain ⟨rfl, hr⟩ := hr
    refine ⟨rfl, ?_⟩
    show if (ptsS.any fun p => (cutS t none (some ((hdS m p).length : Int)) == hdS m p) && ptsS.any fun q => q == cutS t (some ((hdS m p).length : Int)) none) = true then _ else _
    split
    · rename_i q
      rw [if_pos q] at hr
      exact hr
    · rename_i q
      rw [if_neg q] at hr
      obtain ⟨z4, z5, rfl⟩ := hr
      exact ⟨_, rfl, _, _, _, rfl⟩
  · obtain ⟨rfl, hr⟩ := hr
    have e : ((midS.map D.str).any pD) = isTxB t := by rw [List.any_map]; rfl
    rw [e] at hr
    cases hb : isTxB t with
    | true =>
      rw [hb, if_pos rfl] at hr
      subst hr
      exact ⟨rfl, rfl⟩
    | false =>
      rw [hb, if_neg (by simp)] at hr
      obtain ⟨_, rfl, x3, y4, y5, rfl⟩ := hr
      exact ⟨rfl, rfl⟩
theorem split_ok {t y : Str} (h : PyData.strOk t = true) (hy : 1 ≤ y.length) : (∀ w ∈ Txt.split t y, PyData.strOk w = true ∧ w.length ≤ t.length) ∧ 1 ≤ (Txt.split t y).length ∧ (Txt.split t y).length ≤ t.length + 1 := by
  have h1 := PySem.StrLaws.join_split t y
  have h2 := PyProof.Rows.split_weight t y hy
  refine ⟨fun w hw => ⟨?_, ?_⟩, PyProof.Rows.split_pos t y, by omega⟩
  · have mem : ∀ {ws : List Str} {c : Nat}, w ∈ ws → c ∈ cpL w → c ∈ cpL (Str.join y ws) := by
      intro ws c
      induction ws with
      | nil => intro h; cases h
      | cons a r ih =>
        intro hw hc
        cases r with
        | nil =>
          rw [joinS_one]
          rw [List.mem_singleton.mp hw] at hc
          exact hc
        | cons b r =>
          rw [joinS_cons, cpL_app, cpL_app]
          rcases List.mem_cons.mp hw with rfl | hw
          · simp [hc]
          · exact List.mem_append_right _ (ih hw hc)
    unfold PyData.strOk at *
    rw [← Array.all_toList] at *
    refine List.all_eq_true.mpr fun c hc => List.all_eq_true.mp h c ?_
    have := mem hw hc
    rw [h1] at this
    exact this
  · have h3 : ∀ {l : List Nat} {k : Nat}, k ∈ l → k ≤ l.sum := by
      intro l k
      induction l with
      | nil => intro h; cases h
      | cons a r ih =>
        intro h
        rw [List.sum_cons]
        rcases List.mem_cons.mp h with rfl | h
        · omega
        · have := ih h; omega
    have h4 := h3 (List.mem_map_of_mem (f := (·.length)) hw)
    have h5 := PyProof.Rows.split_pos t y
    omega
theorem tt_split {t y : Str} (hy : 1 ≤ y.length) (hl : t.length ≤ 4000) : mSplit (.str t) [.str y] = pure (.lst ((Txt.split t y).map D.str)) := by
  show guardM (!(y.length == 0) && decide (t.length + 2 ≤ big)) (pure (D.lst ((Txt.split t y).map D.str))) = _
  rw [show (!(y.length == 0) && decide (t.length + 2 ≤ big)) = true from by
    rw [Bool.and_eq_true]; exact ⟨by simp; omega, decide_eq_true (show _ ≤ 16000000 by omega)⟩]
  rfl
theorem lnParts_ok {r : Str} (h : PyData.strOk r = true) : (∀ w ∈ lnParts r, PyData.strOk w = true ∧ w.length ≤ r.length) ∧ (lnParts r).length ≤ r.length + 1 := by
  unfold lnParts
  split
  · have := split_ok (y := " and ") h (by decide +kernel)
    exact ⟨this.1, this.2.2⟩
  · have := split_ok (y := " or ") h (by decide +kernel)
    exact ⟨this.1, this.2.2⟩
theorem is_line_eq {L w : Str} (hL : PyData.strOk L = true) (hl : L.length ≤ 4000) (hw : w = "down" ∨ w = "up") : l_is_line [.str L, .str w] = pure (.bl (isLineB L w)) := by
  have hwo : PyData.strOk w = true ∧ w.length ≤ 10 := by rcases hw with rfl | rfl <;> decide +kernel
  have hws : PyData.strOk (w ++ " ") = true := ok_app hwo.1 (by decide +kernel)
  have e1 : (" " : Str).length = 1 := rfl
  have hwl : (w ++ " ").length = w.length + 1 := by rw [str_app, e1]
  have hn : ((w.length : Int) + 1) = (((w ++ " ").length : Nat) : Int) := by rw [hwl]; omega
  have hq := eq_ss (neg := true) (ok_cut hL none (some (((w ++ " ").length : Nat) : Int))) hws
  have hr := ok_cut hL (some (((w ++ " ").length : Nat) : Int)) none
  have hrl := cutS_length L (some (((w ++ " ").length : Nat) : Int)) none
  unfold isLineB
  generalize hW : w ++ " " = W at *
  generalize hc1 : cutS L none (some (W.length : Int)) = c1 at *
  generalize hc2 : cutS L (some (W.length : Int)) none = r at *
  obtain ⟨p1, p2⟩ := lnParts_ok hr
  have hin : opIn false (.str " and ") (.str r) = pure (.bl (inS " and " r)) := rfl
  have hsp : (dIf (bVal (d2 (opIn false) (dC (.str " and ")) (dVar 2))) (dMeth "str" mSplit (dVar 2) (dCons (dC (.str " and ")) (dNil))) (dMeth "str" mSplit (dVar 2) (dCons (dC (.str " or ")) (dNil)))) [some (.str L), some (.str w), some (.str r), none, none] = pure (.lst ((lnParts r).map D.str)) := by
    refine eq_of_T fun st => ?_
    unfold lnParts
    simp -implicitDefEqProofs [hin, tt_s, tt_split (t := r) (y := " and ") (by decide +kernel) (by omega), tt_split (t := r) (y := " or ") (by decide +kernel) (by omega)]
    cases inS " and " r <;> simp
  refine eq_of_T fun st => ?_
  rw [l_is_line, t_run, l_is_line_b, t_ifs]
  simp -implicitDefEqProofs [hn, hc1, hW, hq, e1]
  refine ⟨by omega, by omega, by omega, fun e => ?_, fun e => ?_⟩
  · rw [t_ret]
    simp -implicitDefEqProofs [e]
  · rw [t_asg]
    simp -implicitDefEqProofs [hn, hc2]
    refine ⟨by omega, by omega, ?_⟩
    rw [t_asg, hsp, t_pure]
    simp -implicitDefEqProofs
    generalize hP : lnParts r = P at *
    have hlc : lcL (.nm 4) (dBNot (bVal (dCall (arity 1 l_is_part) (dCons (dVar 4) (dNil))))) (dVar 4) (wipeE [some (.str L), some (.str w), some (.str r), some (.lst (P.map D.str)), none] [4]) (P.map D.str) = pure (((P.filter fun t => !isTxB t)).map D.str) := by
      refine lc_fil (e := D.str) (p := fun t => !isTxB t) fun x hx => ⟨_, rfl, ?_, rfl⟩
      have h2 := is_part_eq (p1 x hx).1 (by have := (p1 x hx).2; omega)
      refine eq_of_T fun s => ?_
      simp -implicitDefEqProofs [wipeE, h2]
    rw [t_ret1]
    simp -implicitDefEqProofs [hlc]
    have hd : Dep 64 (D.lst (List.map D.str (List.filter (fun t => !isTxB t) P))) := dep_lst.mpr fun d hd => by
      obtain ⟨x, hx, rfl⟩ := List.mem_map.mp hd
      exact dep_str (p1 x (List.mem_filter.mp hx).1).1
    rw [eq_of hd (dep_lst.mpr (by simp))]
    have e3 : deq (D.lst (List.map D.str (List.filter (fun t => !isTxB t) P))) (D.lst []) = P.all isTxB := by
      cases q : List.filter (fun t => !isTxB t) P with
      | nil =>
        rw [List.filter_eq_nil_iff] at q
        have : P.all isTxB = true := List.all_eq_true.mpr fun x hx => by simpa using q x hx
        rw [this]; rfl
      | cons a r =>
        have ha : a ∈ List.filter (fun t => !isTxB t) P := by rw [q]; simp
        obtain ⟨h1, h2⟩ := List.mem_filter.mp ha
        have : P.all isTxB = false := by
          cases q2 : P.all isTxB with
          | false => rfl
          | true =>
            have := List.all_eq_true.mp q2 a h1
            rw [this] at h2
            cases h2
        rw [this]; rfl
    have e4 : (c1 == W) = true := by simpa using e
    rw [e3, e4]
    refine ⟨fun h => ⟨by omega, ?_⟩, fun h _ h2 => by omega⟩
    have : decide (P.length < 4) = true := decide_eq_true (by omega)
    rw [this]
    simp
/-! ### the program's reading of any words -/
def wt (l : List Str) : Nat := (l.map (·.length)).sum + l.length
def WOk (l : List Str) : Prop := (∀ w ∈ l, PyData.strOk w = true) ∧ wt l ≤ 6000
theorem wt_app {a b : List Str} : wt (a ++ b) = wt a + wt b := by unfold wt; simp; omega
theorem wt_take {l : List Str} {n : Nat} : wt (l.take n) ≤ wt l := by
  have := wt_app (a := l.take n) (b := l.drop n)
  rw [List.take_append_drop] at this
  omega
theorem wt_drop {l : List Str} {n : Nat} : wt (l.drop n) ≤ wt l := by
  have := wt_app (a := l.take n) (b := l.drop n)
  rw [List.take_append_drop] at this
  omega
theorem wok_cut {l : List Str} (h : WOk l) (lo hi : Option Int) : WOk (cutL l lo hi) := by
  unfold cutL
  exact ⟨fun w hw => h.1 w (List.mem_of_mem_drop (List.mem_of_mem_take hw)), Nat.le_trans (Nat.le_trans wt_take wt_drop) h.2⟩
theorem cutL_map {α β : Type} {f : α → β} {l : List α} {lo hi : Option Int} : cutL (l.map f) lo hi = (cutL l lo hi).map f := by
  unfold cutL
  rw [List.length_map, List.map_take, List.map_drop]
def ptR (ws : List Str) : D := match ws with
  | [a, b] => if b.length == 1 && inS b "01234" then .tup [.str a, .int ((b.cps.toList.headD 0 : Nat) - 48)] else .tup [.str a, .str b]
  | ws => .tup (ws.map D.str)
theorem ptR_dep {ws : List Str} (h : WOk ws) : Dep 4 (ptR ws) := by
  have g : Dep 4 (.tup (ws.map D.str)) := dep_tup.mpr fun d hd => by
    obtain ⟨x, hx, rfl⟩ := List.mem_map.mp hd
    exact dep_str (h.1 x hx)
  unfold ptR
  split
  · rename_i a b
    split
    · exact dep_tup.mpr fun d hd => by
        simp at hd
        rcases hd with rfl | rfl
        · exact dep_str (h.1 a (by simp))
        · exact dep_int
    · exact g
  · exact g
theorem digit_int {b : Str} (h1 : b.length = 1) (h2 : inS b "01234" = true) : biIntS (.str b) = pure (.int ((b.cps.toList.headD 0 : Nat) - 48)) := by
  obtain ⟨c, rfl⟩ : ∃ c, b = ⟨#[c]⟩ := by
    obtain ⟨cps⟩ := b
    have h1 : cps.size = 1 := h1
    obtain ⟨c, hc⟩ := Array.size_eq_one_iff.mp h1
    exact ⟨c, by rw [hc]⟩
  unfold inS at h2
  rw [PySem.StrLaws.found_one, decide_eq_true_eq] at h2
  have : c = 48 ∨ c = 49 ∨ c = 50 ∨ c = 51 ∨ c = 52 := by
    have e : ("01234" : Str).cps.toList = [48, 49, 50, 51, 52] := by decide +kernel
    rw [e] at h2
    simpa using h2
  rcases this with rfl | rfl | rfl | rfl | rfl <;> kernel_rfl
theorem point_in_run {ws : List Str} (h : WOk ws) : p_point_in [.tup (ws.map D.str)] = pure (ptR ws) := by
  have eqi : ∀ i j : Int, opEq false (.int i) (.int j) = pure (.bl (i == j)) := fun i j => by
    rw [eq_of dep_int dep_int, deq_ii]
    simp
  refine eq_of_T fun st => ?_
  rw [p_point_in, t_run, p_point_in_b, t_ifs]
  by_cases h2 : ws.length = 2
  · match ws, h2 with
    | [a, b], _ =>
      have hwt : b.length ≤ 6000 := by
        have := h.2
        unfold wt at this
        simp at this
        omega
      have hin : opIn false (.str b) g_FIGURES = pure (.bl (inS b "01234")) := rfl
      simp -implicitDefEqProofs [eqi]
      refine ⟨by omega, ?_⟩
      refine ⟨fun h1 => ?_, fun h1 => ?_⟩
      · have h1 : b.length = 1 := by omega
        rw [hin, t_pure]
        simp -implicitDefEqProofs
        refine ⟨fun q => ?_, fun q => ?_⟩
        · rw [t_ret]
          simp -implicitDefEqProofs [at_zero, at_one, digit_int h1 q]
          unfold ptR
          simp [h1, q]
        · rw [t_ret1]
          simp -implicitDefEqProofs
          unfold ptR
          simp [q]
      · have h1 : b.length ≠ 1 := by omega
        rw [t_ret1]
        simp -implicitDefEqProofs
        unfold ptR
        simp [h1]
  · have hr : ptR ws = .tup (ws.map D.str) := by
      unfold ptR
      match ws, h2 with
      | [], _ => rfl
      | [_], _ => rfl
      | [_, _], h2 => exact absurd rfl h2
      | _ :: _ :: _ :: _, _ => rfl
    simp -implicitDefEqProofs [eqi]
    refine ⟨fun e => absurd e (by omega), fun e => ?_⟩
    rw [t_ret1]
    simp -implicitDefEqProofs [hr]
def candR (ws : List Str) (i j : Nat) : D := .tup [.str (Txt.join " " (cutL ws (some (i : Int)) (some (j : Int)))), ptR (cutL ws none (some (i : Int))), ptR (cutL ws (some (j : Int)) none)]
theorem cand_dep {ws : List Str} (h : WOk ws) {i j : Nat} : Dep 6 (candR ws i j) := dep_tup.mpr fun d hd => by
  simp only [List.mem_cons, List.not_mem_nil, or_false] at hd
  rcases hd with rfl | rfl | rfl
  · exact dep_str (ok_join (by decide +kernel) (wok_cut h _ _).1)
  · exact (ptR_dep (wok_cut h _ _)).mono (by decide)
  · exact (ptR_dep (wok_cut h _ _)).mono (by decide)
abbrev cinB : DenS := dSeq (dAsg (dTup (dCons (dMeth "str" mJoin (dC (.str " ")) (dCons (dSl (dVar 0) (oSome (dVar 1)) (oSome (dVar 2))) (dNil))) (dCons (dCall (arity 1 p_point_in) (dCons (dCall (on1 biTuple) (dCons (dSl (dVar 0) (oNone) (oSome (dVar 1))) (dNil))) (dNil))) (dCons (dCall (arity 1 p_point_in) (dCons (dCall (on1 biTuple) (dCons (dSl (dVar 0) (oSome (dVar 2)) (oNone)) (dNil))) (dNil))) (dNil))))) (gSet 3)) <|
  dIfS (bVal (dCall (arity 1 p_is_comparison) (dCons (dVar 3) (dNil)))) (dRet (dVar 3)) (dSkip)
theorem cin_step {ws : List Str} (h : WOk ws) {i j : Nat} {x3 : Option D} {st : Store} : T (cinB [some (.lst (ws.map D.str)), some (.int i), some (.int j), x3]) st (fun r s => s = st ∧ r = if isCmpB (candR ws i j) = true then .rt (candR ws i j) else .nx [some (.lst (ws.map D.str)), some (.int i), some (.int j), some (candR ws i j)]) := by
  have hj : mJoin (.str " ") [.lst ((cutL ws (some (i : Int)) (some (j : Int))).map D.str)] = pure (.str (Txt.join " " (cutL ws (some (i : Int)) (some (j : Int))))) := join_l (by
    have e1 : (" " : Str).length = 1 := rfl
    have := (wok_cut h (some (i : Int)) (some (j : Int))).2
    unfold wt at this
    rw [e1]
    omega)
  have hp1 := point_in_run (wok_cut h none (some (i : Int)))
  have hp2 := point_in_run (wok_cut h (some (j : Int)) none)
  have hcmp := is_comparison_eq ((cand_dep h (i := i) (j := j)).mono (by decide : (6 : Nat) ≤ 60))
  rw [t_asg]
  have hc : (dTup (dCons (dMeth "str" mJoin (dC (.str " ")) (dCons (dSl (dVar 0) (oSome (dVar 1)) (oSome (dVar 2))) (dNil))) (dCons (dCall (arity 1 p_point_in) (dCons (dCall (on1 biTuple) (dCons (dSl (dVar 0) (oNone) (oSome (dVar 1))) (dNil))) (dNil))) (dCons (dCall (arity 1 p_point_in) (dCons (dCall (on1 biTuple) (dCons (dSl (dVar 0) (oSome (dVar 2)) (oNone)) (dNil))) (dNil))) (dNil))))) [some (.lst (ws.map D.str)), some (.int i), some (.int j), x3] = pure (candR ws i j) := by
    refine eq_of_T fun s => ?_
    simp -implicitDefEqProofs [cutL_map, tt_s, hj, hp1, hp2]
    rfl
  rw [hc, t_pure]
  simp only [List.set]
  rw [t_ifs1]
  simp -implicitDefEqProofs [hcmp]
  intro e
  rw [t_ret1]
  simp -implicitDefEqProofs [e]
def cinR (ws : List Str) : D := if isCmpB (candR ws 1 2) = true then candR ws 1 2 else if isCmpB (candR ws 1 3) = true then candR ws 1 3 else if isCmpB (candR ws 2 3) = true then candR ws 2 3 else if isCmpB (candR ws 2 4) = true then candR ws 2 4 else .non
theorem cinR_or (ws : List Str) : cinR ws = .non ∨ IsCmp (cinR ws) := by
  unfold cinR
  split
  · rename_i h; exact .inr (isCmp_ofB h)
  · split
    · rename_i h; exact .inr (isCmp_ofB h)
    · split
      · rename_i h; exact .inr (isCmp_ofB h)
      · split
        · rename_i h; exact .inr (isCmp_ofB h)
        · exact .inl rfl
theorem cin_inner {ws : List Str} (h : WOk ws) {i : Nat} {x2 x3 : Option D} {st : Store} : T (forL (fun d ρ => gOf (.nm 2) d ρ >>= cinB) [.int (i + 1 : Nat), .int (i + 2 : Nat)] [some (.lst (ws.map D.str)), some (.int i), x2, x3]) st (fun r s => s = st ∧ if isCmpB (candR ws i (i + 1)) = true then r = .rt (candR ws i (i + 1)) else if isCmpB (candR ws i (i + 2)) = true then r = .rt (candR ws i (i + 2)) else ∃ y2 y3, r = .nx [some (.lst (ws.map D.str)), some (.int i), y2, y3]) := by
  unfold forL
  rw [t_bind, t_bind, gOf_nm, t_pure]
  refine (cin_step h).mono fun r s hr => ?_
  obtain ⟨rfl, rfl⟩ := hr
  by_cases e1 : isCmpB (candR ws i (i + 1)) = true
  · rw [if_pos e1]
    refine ⟨rfl, ?_⟩
    rw [if_pos e1]
  · rw [if_neg e1]
    simp only [if_neg e1]
    show T (forL _ _ _) _ _
    unfold forL
    rw [t_bind, t_bind, gOf_nm, t_pure]
    refine (cin_step h).mono fun r s hr => ?_
    obtain ⟨rfl, rfl⟩ := hr
    by_cases e2 : isCmpB (candR ws i (i + 2)) = true
    · rw [if_pos e2]
      refine ⟨rfl, ?_⟩
      rw [if_pos e2]
    · rw [if_neg e2]
      refine ⟨rfl, ?_⟩
      rw [if_neg e2]
      exact ⟨_, _, rfl⟩
theorem cin_run {ws : List Str} (h : WOk ws) : p_comparison_in [.lst (ws.map D.str)] = pure (cinR ws) := by
  refine eq_of_T fun st => ?_
  rw [p_comparison_in, t_run, p_comparison_in_b, t_for]
  have hit : ∀ ρ : MP.Env, iVal (dTup (dCons (dC (.int 1)) (dCons (dC (.int 2)) (dNil)))) ρ = pure [.int 1, .int 2] := fun ρ => rfl
  rw [hit, t_pure]
  have hi2 : ∀ (i : Nat) (x2 x3 : Option D), iVal (dTup (dCons (d2 opAdd (dVar 1) (dC (.int 1))) (dCons (d2 opAdd (dVar 1) (dC (.int 2))) (dNil)))) [some (.lst (ws.map D.str)), some (.int i), x2, x3] = pure [.int (i + 1 : Nat), .int (i + 2 : Nat)] := fun i x2 x3 => rfl
  unfold forL
  rw [t_bind, t_bind, gOf_nm, t_pure]
  show T (dFor _ _ cinB [some (.lst (ws.map D.str)), some (.int (1 : Nat)), none, none]) st _
  rw [t_for1, hi2, t_pure]
  refine (cin_inner h (i := 1)).mono fun r s hr => ?_
  obtain ⟨rfl, hr⟩ := hr
  unfold cinR
  split at hr
  · rename_i e1
    subst hr
    rw [if_pos e1]
    exact ⟨rfl, rfl⟩
  · rename_i e1
    rw [if_neg e1]
    split at hr
    · rename_i e2
      subst hr
      rw [if_pos e2]
      exact ⟨rfl, rfl⟩
    · rename_i e2
      rw [if_neg e2]
      obtain ⟨y2, y3, rfl⟩ := hr
      show T (forL _ _ _) _ _
      unfold forL
      rw [t_bind, t_bind, gOf_nm, t_pure]
      show T (dFor _ _ cinB [some (.lst (ws.map D.str)), some (.int (2 : Nat)), y2, y3]) _ _
      rw [t_for1, hi2, t_pure]
      refine (cin_inner h (i := 2)).mono fun r s hr => ?_
      obtain ⟨rfl, hr⟩ := hr
      split at hr
      · rename_i e3
        subst hr
        rw [if_pos e3]
        exact ⟨rfl, rfl⟩
      · rename_i e3
        rw [if_neg e3]
        split at hr
        · rename_i e4
          subst hr
          rw [if_pos e4]
          exact ⟨rfl, rfl⟩
        · rename_i e4
          rw [if_neg e4]
          obtain ⟨y2, y3, rfl⟩ := hr
          exact ⟨rfl, rfl⟩
theorem spF_ok {j : D} {N : Nat} : ∀ {ws : List Str} {f : List (List Str)} {l : List Str}, (∀ w ∈ ws, PyData.strOk w = true) → (∀ w ∈ l, PyData.strOk w = true) → (∀ x ∈ f, (∀ w ∈ x, PyData.strOk w = true) ∧ wt x ≤ N) → wt l + wt ws ≤ N →
    (∀ x ∈ spF j f l ws, (∀ w ∈ x, PyData.strOk w = true) ∧ wt x ≤ N) ∧ spF j f l ws ≠ [] ∧ (spF j f l ws).length ≤ f.length + ws.length + 1
  | [], f, l, _, h2, h3, h4 => ⟨fun x hx => by
      rcases List.mem_append.mp hx with hx | hx
      · exact h3 x hx
      · rw [List.mem_singleton.mp hx]; exact ⟨h2, by omega⟩, by simp [spF], by simp [spF]⟩
  | w :: ws, f, l, h1, h2, h3, h4 => by
    have hwt : wt (w :: ws) = wt [w] + wt ws := wt_app (a := [w]) (b := ws)
    have hw1 : wt (l ++ [w]) = wt l + wt [w] := wt_app
    have h1' : ∀ x ∈ ws, PyData.strOk x = true := fun x hx => h1 x (List.mem_cons_of_mem _ hx)
    have hz : wt [] = 0 := rfl
    simp only [spF]
    split
    · obtain ⟨a, b, c⟩ := spF_ok (j := j) (N := N) (ws := ws) (f := f ++ [l]) (l := []) h1' (by simp) (fun x hx => by
        rcases List.mem_append.mp hx with hx | hx
        · exact h3 x hx
        · rw [List.mem_singleton.mp hx]; exact ⟨h2, by omega⟩) (by omega)
      exact ⟨a, b, by simp at c ⊢; omega⟩
    · obtain ⟨a, b, c⟩ := spF_ok (j := j) (N := N) (ws := ws) (f := f) (l := l ++ [w]) h1' (fun x hx => by
        rcases List.mem_append.mp hx with hx | hx
        · exact h2 x hx
        · rw [List.mem_singleton.mp hx]; exact h1 w (by simp)) h3 (by omega)
      exact ⟨a, b, by simp at c ⊢; omega⟩
theorem parts_any {P : List D} (h : ∀ p ∈ P, p = .non ∨ IsCmp p) : opIn false .non (.lst P) = pure (.bl (P.any isNon)) := by
  rw [in_ofL dep_non (dep_lst.mpr fun p hp => by
    rcases h p hp with rfl | h
    · exact dep_non
    · exact (isCond_dep (.inl h)).mono (by decide))]
  congr 2
  simp only [Bool.false_eq_true, if_false]
  induction P with
  | nil => rfl
  | cons p r ih =>
    rw [List.any_cons, List.any_cons, ih fun q hq => h q (List.mem_cons_of_mem _ hq)]
    congr 1
    rcases h p (by simp) with rfl | ⟨s, a, b, _, _, _, rfl⟩
    · rfl
    · rfl
theorem cond_multi {J : D} {s : Str} {P : List D} (hJ : J = .str s) (hs : s = "and" ∨ s = "or") (hP : ∀ p ∈ P, IsCmp p) (h1 : 1 < P.length) (h : isCondB (.tup (J :: P)) = true) : IsCond (.tup (J :: P)) := by
  subst hJ
  refine .inr ⟨s, P, hs, h1, ?_, hP, rfl⟩
  match P, h with
  | [_, _], _ => simp
  | [_, _, _], _ => simp
theorem cond_any {L w : Str} (hL : PyData.strOk L = true) (hl : L.length ≤ 4000) (hw : w = "down" ∨ w = "up") : ∃ d, p_condition_in [.str L, .str w] = pure d ∧ (d = .non ∨ (IsCond d ∧ lineS w d = L)) := by
  have hwo : PyData.strOk w = true ∧ w.length ≤ 10 := by rcases hw with rfl | rfl <;> decide +kernel
  have e1 : (" " : Str).length = 1 := rfl
  have hsplit := tt_split (t := L) (y := " ") (by rw [e1]; exact Nat.le_refl _) hl
  have hso := split_ok (y := " ") hL (by rw [e1]; exact Nat.le_refl _)
  have hwt : wt (Txt.split L " ") ≤ L.length + 1 := PyProof.Rows.split_weight L " " (by rw [e1]; exact Nat.le_refl _)
  generalize Txt.split L " " = ws at *
  have hW : WOk ws := ⟨fun x hx => (hso.1 x hx).1, by omega⟩
  have hdw : Dep 64 (.lst (ws.map D.str)) := dep_lst.mpr fun d hd => by
    obtain ⟨x, hx, rfl⟩ := List.mem_map.mp hd
    exact dep_str (hW.1 x hx)
  have hsm := fun x3 x4 x5 x6 x7 => some_eq (L := L) (w := w) (ws := ws) (x3 := x3) (x4 := x4) (x5 := x5) (x6 := x6) (x7 := x7) hdw
  have hS : ∀ d ∈ ([D.str "and", D.str "or"].filter fun d => (ws.map D.str).any fun z => deq z d).map id, d = .str "and" ∨ d = .str "or" := fun d hd => by
    rw [List.map_id] at hd
    have := (List.mem_filter.mp hd).1
    simpa using this
  have hSl : (([D.str "and", D.str "or"].filter fun d => (ws.map D.str).any fun z => deq z d).map id).length ≤ 2 := by
    rw [List.map_id]
    exact List.length_filter_le _ _
  generalize ([D.str "and", D.str "or"].filter fun d => (ws.map D.str).any fun z => deq z d).map id = S at *
  obtain ⟨J, hJ, hJd⟩ : ∃ J : D, J = S.headD .non ∧ (J = .non ∨ ∃ s : Str, J = .str s ∧ (s = "and" ∨ s = "or")) := by
    refine ⟨_, rfl, ?_⟩
    cases S with
    | nil => exact .inl rfl
    | cons a r =>
      rcases hS a (by simp) with rfl | rfl
      · exact .inr ⟨_, rfl, .inl rfl⟩
      · exact .inr ⟨_, rfl, .inr rfl⟩
  have hJ64 : Dep 64 J := by
    rcases hJd with rfl | ⟨s, rfl, rfl | rfl⟩
    · exact dep_non
    · exact dep_str (by decide +kernel)
    · exact dep_str (by decide +kernel)
  have hne : opEq true (.lst S) (.lst []) = pure (.bl (!(S.isEmpty))) := by
    have hdS : Dep 64 (.lst S) := dep_lst.mpr fun d hd => by
      rcases hS d hd with rfl | rfl <;> exact dep_str (by decide +kernel)
    rw [eq_of hdS (dep_lst.mpr (by simp))]
    cases S <;> rfl
  have hcut : cutL (ws.map D.str) (some 1) none = (cutL ws (some 1) none).map D.str := cutL_map
  have hW1 := wok_cut hW (some 1) none
  have hn1 : (cutL ws (some 1) none).length ≤ 6000 := by have := hW1.2; unfold wt at this; omega
  generalize cutL ws (some 1) none = ws1 at *
  have hsp : p_split_at [.lst (ws1.map D.str), J] = pure (.lst ((spF J [] [] ws1).map strD2)) := split_at_run (ws := ws1) (j := J) hJ64 hW1.1 (by omega)
  obtain ⟨q1, q2, q3⟩ := spF_ok (j := J) (N := 6000) (ws := ws1) (f := []) (l := []) hW1.1 (by simp) (by simp) (by have h0 : wt [] = 0 := rfl; have := hW1.2; omega)
  have hJnon : J = .non → (spF J [] [] ws1).length = 1 := fun e => by rw [e, spF_none]; rfl
  generalize spF J [] [] ws1 = P0 at *
  have hlp : ∀ x5 x6 x7 : Option D, lcL (.nm 7) bTrue (dCall (arity 1 p_comparison_in) (dCons (dVar 7) (dNil))) [some (.str L), some (.str w), some (.lst (ws.map D.str)), some J, some (.lst S), x5, x6, x7] (P0.map strD2) = pure (P0.map cinR) := fun x5 x6 x7 => by
    refine lc_all (e := strD2) (g := cinR) (xs := P0) fun p hp => ⟨_, rfl, ?_⟩
    have := cin_run (ws := p) (q1 p hp)
    refine eq_of_T fun st => ?_
    have e : strD2 p = .lst (p.map D.str) := rfl
    rw [e]
    simp -implicitDefEqProofs [this]
  have hPp : ∀ p ∈ P0.map cinR, p = .non ∨ IsCmp p := fun p hp => by
    obtain ⟨x, _, rfl⟩ := List.mem_map.mp hp
    exact cinR_or x
  have hPl : (P0.map cinR).length ≤ 6001 := by simp at q3 ⊢; omega
  have hP0 : P0.map cinR ≠ [] := by simpa using q2
  have hJn : J = .non → (P0.map cinR).length = 1 := fun e => by rw [List.length_map]; exact hJnon e
  have hPl0 : (P0.map strD2).length ≤ 6001 := by simp at q3 ⊢; omega
  generalize P0.map cinR = P at *
  generalize P0.map strD2 = PS at *
  have hany := parts_any hPp
  have hjn := joined_eq (j := J) hP0 (by omega)
  have hJ3 : ∀ (x3 x5 x6 x7 : Option D), dIf (bVal (d2 (opEq true) (dVar 4) (dLst dNil))) (d2 opIx (dVar 4) (dC (.int 0))) (dC .non) [some (.str L), some (.str w), some (.lst (ws.map D.str)), x3, some (.lst S), x5, x6, x7] = pure J := fun x3 x5 x6 x7 => by
    refine eq_of_T fun st => ?_
    rw [hJ]
    cases S with
    | nil => simp -implicitDefEqProofs [hne]
    | cons a r => simp -implicitDefEqProofs [hne, at_zero]
  have start : ∀ (Q : D → Prop), (∀ st, T (dSeq (dIfS (bVal (d2 (opIn false) (dC .non) (dVar 5))) (dRet (dC .non)) (dSkip)) (dSeq (dAsg (dCall (arity 2 p_joined) (dCons (dVar 3) (dCons (dVar 5) (dNil)))) (gSet 6)) (dRet (dIf (dBAnd (bVal (dCall (arity 1 p_is_good_condition) (dCons (dVar 6) (dNil)))) (bVal (d2 (opEq false) (dCall (arity 2 p_condition_line) (dCons (dVar 1) (dCons (dVar 6) (dNil)))) (dVar 0)))) (dVar 6) (dC .non)))) [some (.str L), some (.str w), some (.lst (ws.map D.str)), some J, some (.lst S), some (.lst P), none, none]) st (fun r s => s = st ∧ ∃ d, r = .rt d ∧ Q d)) → ∀ st, T (p_condition_in [.str L, .str w]) st (fun d s => s = st ∧ Q d) := by
    intro Q h st
    rw [p_condition_in, t_run, p_condition_in_b, t_asg]
    simp -implicitDefEqProofs [tt_s, hsplit]
    rw [t_asg]
    simp -implicitDefEqProofs [hsm, wipeE]
    rw [t_asg, hJ3, t_pure]
    simp -implicitDefEqProofs
    rw [t_asg]
    simp -implicitDefEqProofs [hcut, hsp, hlp, wipeE]
    refine ⟨by omega, (h st).mono fun r s hr => ?_⟩
    obtain ⟨rfl, d, rfl, hq⟩ := hr
    exact ⟨rfl, hq⟩
  by_cases hN : P.any isNon = true
  · refine ⟨.non, eq_of_T fun st => (start (fun d => d = .non) (fun st => ?_) st).mono fun d s h => ⟨h.2, h.1⟩, .inl rfl⟩
    rw [t_ifs]
    simp -implicitDefEqProofs [hany, hN]
    rw [t_ret]
    simp -implicitDefEqProofs
  · have hN : P.any isNon = false := by simpa using hN
    have hPc : ∀ p ∈ P, IsCmp p := fun p hp => by
      rcases hPp p hp with rfl | h
      · have := List.any_eq_false.mp hN _ hp
        exact absurd rfl this
      · exact h
    have hf : ∃ f, (if 1 < P.length then D.tup (J :: P) else P.headD .non) = f ∧ Dep 60 f ∧ (isCondB f = true → IsCond f) := by
      refine ⟨_, rfl, ?_⟩
      split
      · rename_i h1
        rcases hJd with e | ⟨s, e, hs⟩
        · have := hJn e
          omega
        · refine ⟨dep_tup.mpr fun d hd => ?_, cond_multi e hs hPc h1⟩
          rcases List.mem_cons.mp hd with rfl | hd
          · rw [e]
            rcases hs with rfl | rfl <;> exact dep_str (by decide +kernel)
          · exact (isCond_dep (.inl (hPc d hd))).mono (by decide)
      · cases P with
        | nil => exact absurd rfl hP0
        | cons p r =>
          have hp := hPc p (by simp)
          exact ⟨(isCond_dep (.inl hp)).mono (by decide), fun _ => .inl hp⟩
    obtain ⟨f, ef, hfd, hfc⟩ := hf
    rw [ef] at hjn
    have hgd := is_good_condition_eq hfd
    by_cases hB : isCondB f = true
    · have hc := hfc hB
      have hline := condition_line_eq hc hwo.2
      have hq := eq_ss (neg := false) (a := lineS w f) (b := L) (ok_line hc hwo.1) hL
      by_cases hE : lineS w f = L
      · refine ⟨f, eq_of_T fun st => (start (fun d => d = f) (fun st => ?_) st).mono fun d s h => ⟨h.2, h.1⟩, .inr ⟨hc, hE⟩⟩
        rw [t_ifs]
        simp -implicitDefEqProofs [hany, hN]
        rw [t_asg]
        simp -implicitDefEqProofs [hjn]
        rw [t_ret1]
        have hq' : opEq false (.str (lineS w f)) (.str L) = pure (.bl true) := by rw [hq, hE]; simp
        simp -implicitDefEqProofs [hgd, hB, hline, hq']
      · refine ⟨.non, eq_of_T fun st => (start (fun d => d = .non) (fun st => ?_) st).mono fun d s h => ⟨h.2, h.1⟩, .inl rfl⟩
        rw [t_ifs]
        simp -implicitDefEqProofs [hany, hN]
        rw [t_asg]
        simp -implicitDefEqProofs [hjn]
        rw [t_ret1]
        have hq' : opEq false (.str (lineS w f)) (.str L) = pure (.bl false) := by rw [hq, if_neg (by simp), beq_eq_false_iff_ne.mpr hE]
        simp -implicitDefEqProofs [hgd, hB, hline, hq']
    · refine ⟨.non, eq_of_T fun st => (start (fun d => d = .non) (fun st => ?_) st).mono fun d s h => ⟨h.2, h.1⟩, .inl rfl⟩
      rw [t_ifs]
      simp -implicitDefEqProofs [hany, hN]
      rw [t_asg]
      simp -implicitDefEqProofs [hjn]
      rw [t_ret1]
      simp -implicitDefEqProofs [hgd, hB]
open Classical in
noncomputable def condR (L w : Str) : Option D := if h : ∃ c, IsCond c ∧ lineS w c = L then some (Classical.choose h) else none
theorem condR_some {L w : Str} {c : D} (h : condR L w = some c) : IsCond c ∧ lineS w c = L := by
  unfold condR at h
  split at h
  · rename_i q
    cases h
    exact Classical.choose_spec q
  · cases h
theorem condR_isSome {L w : Str} : (condR L w).isSome = isLineB L w := by
  rw [Bool.eq_iff_iff, line_iff]
  unfold condR
  split
  · rename_i h; simp [h]
  · rename_i h; simp [h]
theorem condR_run {L w : Str} (hL : PyData.strOk L = true) (hl : L.length ≤ 4000) (hw : w = "down" ∨ w = "up") : p_condition_in [.str L, .str w] = pure ((condR L w).getD .non) := by
  cases h : condR L w with
  | some c =>
    obtain ⟨h1, h2⟩ := condR_some h
    rw [← h2]
    exact condition_in_eq h1 hw
  | none =>
    obtain ⟨d, e, hd⟩ := cond_any hL hl hw
    rw [e]
    rcases hd with rfl | hd
    · rfl
    · unfold condR at h
      rw [dif_pos ⟨d, hd⟩] at h
      cases h
abbrev xTx (k : Int) : Exn := ⟨"InvalidText", some (.int k)⟩
abbrev rin17V : Den := dIf (bVal (d2 opLt (dVar 3) (dCall (on1 biLen) (dCons (dVar 1) (dNil))))) (dCall (arity 2 p_condition_in) (dCons (d2 opIx (dVar 1) (dVar 3)) (dCons (dVar 4) (dNil)))) (dC .non)
abbrev rin17B : DenS := dSeq (dAsg rin17V (gSet 5)) <|
  dSeq (dIfS (bVal (d2 (opIsN false) (dVar 5) (dC .non))) (dRaiseX "InvalidText" (d2 opAdd (dVar 3) (dC (.int 1)))) (dSkip)) <|
  dAsg (d2 opAdd (dVar 2) (dTup (dCons (dVar 5) (dNil)))) (gSet 2)
theorem rin17_none {x0 x1 x2 x5 : Option D} {i : Int} {w : Str} {st : Store} (h : rin17V [x0, x1, x2, some (.int i), some (.str w), x5] = pure .non) : rin17B [x0, x1, x2, some (.int i), some (.str w), x5] st = .exn (xTx (i + 1)) st := by
  show (dAsg rin17V (gSet 5) _ >>= _) st = _
  have h1 : dAsg rin17V (gSet 5) [x0, x1, x2, some (.int i), some (.str w), x5] st = .ok (.nx [x0, x1, x2, some (.int i), some (.str w), some .non]) st := by
    unfold dAsg
    rw [h]
    rfl
  refine (x_bind2 h1).trans ?_
  rfl
theorem rin17_some {x0 x1 x5 : Option D} {acc : List D} {i : Int} {w : Str} {c : D} {st : Store} (h : rin17V [x0, x1, some (.tup acc), some (.int i), some (.str w), x5] = pure c) (hn : opIsN false c .non = pure (.bl false)) (ha : acc.length ≤ 2) :
    T (rin17B [x0, x1, some (.tup acc), some (.int i), some (.str w), x5]) st (fun r s => s = st ∧ r = .nx [x0, x1, some (.tup (acc ++ [c])), some (.int i), some (.str w), some c]) := by
  rw [t_asg, h, t_pure]
  simp only [List.set]
  rw [t_ifs]
  simp -implicitDefEqProofs [hn]
  rw [t_asg1]
  simp -implicitDefEqProofs
  omega
theorem rin17_val {x0 x2 x5 : Option D} {ls : List Str} {i : Nat} {w : Str} (hls : ∀ l ∈ ls, PyData.strOk l = true ∧ l.length ≤ 4000) (hw : w = "down" ∨ w = "up") (hi : i = 0 ∨ i = 1) : rin17V [x0, some (.lst (ls.map D.str)), x2, some (.int i), some (.str w), x5] = pure (match ls[i]? with | some l => (condR l w).getD .non | none => .non) := by
  refine eq_of_T fun st => ?_
  have hc : ∀ l ∈ ls, p_condition_in [.str l, .str w] = pure ((condR l w).getD .non) := fun l hl => condR_run (hls l hl).1 (hls l hl).2 hw
  match ls, hc with
  | [], _ => rcases hi with rfl | rfl <;> simp -implicitDefEqProofs
  | [a], hc =>
    have := hc a (by simp)
    rcases hi with rfl | rfl
    · simp -implicitDefEqProofs [at_zero, this]
    · simp -implicitDefEqProofs
  | a :: b :: r, hc =>
    have h1 := hc a (by simp)
    have h2 := hc b (by simp)
    rcases hi with rfl | rfl
    · simp -implicitDefEqProofs [at_zero, h1]
      rw [show decide ((0 : Int) < (r.length : Int) + 1 + 1) = true from decide_eq_true (by omega)]
      rfl
    · simp -implicitDefEqProofs [at_one, h2]
      rw [show decide ((1 : Int) < (r.length : Int) + 1 + 1) = true from decide_eq_true (by omega)]
      rfl
noncomputable def rdE : List Str → Option Int
  | [] => some 1
  | l0 :: r => if (condR l0 "down").isNone then some 1 else match r with
    | [] => some 2
    | l1 :: r2 => if (condR l1 "up").isNone then some 2 else if r2.isEmpty then none else some 3
noncomputable def rdV : List Str → D
  | l0 :: l1 :: _ => .tup [(condR l0 "down").getD .non, (condR l1 "up").getD .non]
  | _ => .non
theorem cond_nn {L w : Str} (h : (condR L w).isNone = false) : ∃ c, condR L w = some c ∧ IsCond c ∧ opIsN false c .non = pure (.bl false) := by
  cases e : condR L w with
  | none => rw [e] at h; cases h
  | some c =>
    obtain ⟨h1, _⟩ := condR_some e
    refine ⟨c, rfl, h1, ?_⟩
    rcases cond_hd h1 with ⟨_, _, rfl, _⟩; rfl
abbrev rin17L : DenS := dFor (iEnumT (dCons (dC g_WORDS) (dNil))) (gOf (.tup [.nm 3, .nm 4])) rin17B
abbrev rin17E : DenS := dSeq (dIfS (bVal (d2 opGt (dCall (on1 biLen) (dCons (dVar 1) (dNil))) (dC (.int 2)))) (dRaiseX "InvalidText" (dC (.int 3))) (dSkip)) <|
  dRet (dVar 2)
/-! what may raise -/
def U {α : Type} (m : M α) (st : Store) (Q : α → Store → Prop) (Z : Exn → Store → Prop) : Prop := wpR (m st) Q Z
theorem u_bind {α β : Type} {m : M β} {f : β → M α} {st : Store} {Q : α → Store → Prop} {Z : Exn → Store → Prop} : U (m >>= f) st Q Z = U m st (fun a s => U (f a) s Q Z) Z := propext wpR.bind
theorem U.of {α : Type} {m : M α} {st : Store} {Q : α → Store → Prop} {Z : Exn → Store → Prop} (h : T m st Q) : U m st Q Z := wpR.mono h (fun _ _ x => x) fun _ _ z => z.elim
theorem U.eq {α : Type} {m : M α} {st : Store} {Q : α → Store → Prop} {Z : Exn → Store → Prop} {e : Exn} {s : Store} (h : m st = .exn e s) (k : Z e s) : U m st Q Z := by
  unfold U
  rw [h]
  exact k
theorem rin17_end {t : Str} {ls : List Str} {v x3 x4 x5 : D} {st : Store} (hn : ls.length ≤ 4001) : rin17E [some (.str t), some (.lst (ls.map D.str)), some v, some x3, some x4, some x5] st = if 2 < ls.length then .exn (xTx 3) st else .ok (.rt v) st := by
  have hc : bVal (d2 opGt (dCall (on1 biLen) (dCons (dVar 1) (dNil))) (dC (.int 2))) [some (.str t), some (.lst (ls.map D.str)), some v, some x3, some x4, some x5] = pure (decide (2 < ls.length)) := by
    refine eq_of_T fun s => ?_
    simp -implicitDefEqProofs
    omega
  show (dIfS _ _ _ _ >>= _) st = _
  unfold dIfS
  rw [hc, pure_bind]
  split
  · rename_i h
    rw [decide_eq_true h]
    rfl
  · rename_i h
    rw [decide_eq_false h]
    rfl
theorem rin17_main {t : Str} {ls : List Str} {st : Store} (hls : ∀ l ∈ ls, PyData.strOk l = true ∧ l.length ≤ 4000) (hn : ls.length ≤ 4001) : U (dSeq rin17L rin17E [some (.str t), some (.lst (ls.map D.str)), some (.tup []), none, none, none]) st (fun r s => s = st ∧ rdE ls = none ∧ r = .rt (rdV ls)) (fun e s => s = st ∧ ∃ k, rdE ls = some k ∧ e = xTx k) := by
  have hv0 := fun x0 x2 x5 => rin17_val (x0 := x0) (x2 := x2) (x5 := x5) (ls := ls) (i := 0) (w := "down") hls (.inl rfl) (.inl rfl)
  have hv1 := fun x0 x2 x5 => rin17_val (x0 := x0) (x2 := x2) (x5 := x5) (ls := ls) (i := 1) (w := "up") hls (.inr rfl) (.inr rfl)
  have hen : ∀ ρ : MP.Env, iEnumT (dCons (dC g_WORDS) dNil) ρ = pure [.tup [.int 0, .str "down"], .tup [.int 1, .str "up"]] := fun ρ => rfl
  unfold dSeq rin17L dFor
  rw [hen, pure_bind, u_bind]
  have step0 : ∀ (z : List D), (gOf (.tup [.nm 3, .nm 4]) (.tup [.int 0, .str "down"]) [some (.str t), some (.lst z), some (.tup []), none, none, none] >>= rin17B) = rin17B [some (.str t), some (.lst z), some (.tup []), some (.int (0 : Nat)), some (.str "down"), none] := fun z => by
    unfold gOf
    rw [tgb2]
    rfl
  have step1 : ∀ (z : List D) (acc : D) (c x3 x4 : D), (gOf (.tup [.nm 3, .nm 4]) (.tup [.int 1, .str "up"]) [some (.str t), some (.lst z), some acc, some x3, some x4, some c] >>= rin17B) = rin17B [some (.str t), some (.lst z), some acc, some (.int (1 : Nat)), some (.str "up"), some c] := fun z acc c x3 x4 => by
    unfold gOf
    rw [tgb2]
    rfl
  unfold forL
  rw [u_bind, step0]
  match ls, hls, hn with
  | [], _, _ => exact U.eq (rin17_none (hv0 _ _ _)) ⟨rfl, 1, rfl, rfl⟩
  | l0 :: r, hls, hn =>
    have v0 := hv0 (some (.str t)) (some (.tup [])) none
    simp only [List.getElem?_cons_zero] at v0
    cases e0 : (condR l0 "down").isNone with
    | true =>
      rw [Option.isNone_iff_eq_none.mp e0] at v0
      exact U.eq (rin17_none v0) ⟨rfl, 1, by simp only [rdE, e0, if_true], rfl⟩
    | false =>
      obtain ⟨c0, f0, g0, n0⟩ := cond_nn e0
      rw [f0] at v0
      refine U.of ((rin17_some v0 n0 (by simp)).mono fun q s hq => ?_)
      obtain ⟨rfl, rfl⟩ := hq
      show U (forL _ _ _) _ _ _
      unfold forL
      rw [u_bind, step1]
      have v1 := fun acc => hv1 (some (.str t)) (some (.tup acc)) (some ((some c0 : Option D).getD .non))
      match r, hls, hn with
      | [], _, _ =>
        exact U.eq (rin17_none (v1 _)) ⟨rfl, 2, by simp [rdE, e0], rfl⟩
      | l1 :: r2, hls, hn =>
        simp only [List.getElem?_cons_succ, List.getElem?_cons_zero] at v1
        cases e1 : (condR l1 "up").isNone with
        | true =>
          rw [Option.isNone_iff_eq_none.mp e1] at v1
          exact U.eq (rin17_none (v1 _)) ⟨rfl, 2, by simp only [rdE, e0, e1, if_true]; rfl, rfl⟩
        | false =>
          obtain ⟨c1, f1, g1, n1⟩ := cond_nn e1
          rw [f1] at v1
          refine U.of ((rin17_some (v1 _) n1 (by simp)).mono fun q s hq => ?_)
          obtain ⟨rfl, rfl⟩ := hq
          show U (rin17E _) _ _ _
          unfold U
          rw [rin17_end hn]
          cases hr : r2.isEmpty with
          | true =>
            have : r2 = [] := List.isEmpty_iff.mp hr
            subst this
            rw [if_neg (by simp)]
            exact ⟨rfl, by simp [rdE, e0, e1], by simp [rdV, f0, f1]⟩
          | false =>
            have : 0 < r2.length := List.length_pos_iff.mpr fun e => by rw [e] at hr; cases hr
            rw [if_pos (by simp; omega)]
            exact ⟨rfl, 3, by simp only [rdE, e0, e1, hr]; rfl, rfl⟩
theorem rule_in17_run {t : Str} {st : Store} (ht : PyData.strOk t = true) (hl : t.length ≤ 4000) : p_rule_in17 [.str t] st = match rdE (Txt.split t "\n") with
    | some k => .exn (xTx k) st
    | none => .ok (rdV (Txt.split t "\n")) st := by
  have e1 : ("\n" : Str).length = 1 := rfl
  have hsplit := tt_split (t := t) (y := "\n") (by rw [e1]; exact Nat.le_refl _) hl
  have hso := split_ok (y := "\n") ht (by rw [e1]; exact Nat.le_refl _)
  have hls : ∀ l ∈ Txt.split t "\n", PyData.strOk l = true ∧ l.length ≤ 4000 := fun l h => ⟨(hso.1 l h).1, by have := (hso.1 l h).2; omega⟩
  generalize Txt.split t "\n" = ls at *
  have hm := rin17_main (t := t) (st := st) hls (by omega)
  have hisi : opIsi "str" (.str t) = pure (.bl true) := rfl
  have h0 : p_rule_in17 [.str t] st = (dSeq rin17L rin17E [some (.str t), some (.lst (ls.map D.str)), some (.tup []), none, none, none] >>= fun r => match r with
      | .nx _ => pure .non
      | .rt d => pure d
      | .bk _ => M.stuck
      | .ct _ => M.stuck) st := by
    have : (dPar [1, 2] (dCons (dMeth "str" mSplit (dVar 0) (dCons (dC (.str "\n")) (dNil))) (dCons (dTup (dNil)) (dNil)))) [some (.str t), none, none, none, none, none] = pure (.nx [some (.str t), some (.lst (ls.map D.str)), some (.tup []), none, none, none]) := by
      have hf : (dCons (dMeth "str" mSplit (dVar 0) (dCons (dC (.str "\n")) (dNil))) (dCons (dTup (dNil)) (dNil))) [some (.str t), none, none, none, none, none] = pure [.lst (ls.map D.str), .tup []] := by
        have h2 : dMeth "str" mSplit (dVar 0) (dCons (dC (.str "\n")) (dNil)) [some (.str t), none, none, none, none, none] = pure (.lst (ls.map D.str)) := by
          refine eq_of_T fun s => ?_
          simp -implicitDefEqProofs [tt_s, hsplit]
        show (dMeth "str" mSplit (dVar 0) (dCons (dC (.str "\n")) (dNil)) [some (.str t), none, none, none, none, none] >>= _) = _
        rw [h2]
        rfl
      unfold dPar
      rw [hf]
      rfl
    have h3 : p_rule_in17_b [some (.str t), none, none, none, none, none] = dSeq rin17L rin17E [some (.str t), some (.lst (ls.map D.str)), some (.tup []), none, none, none] := by
      show (dIfS _ _ _ _ >>= fun r => _) = _
      have h4 : (dIfS (dBNot (bVal (d1 (opIsi "str") (dVar 0)))) (dRaiseX "InvalidText" (dC (.int 0))) (dSkip)) [some (.str t), none, none, none, none, none] = pure (.nx [some (.str t), none, none, none, none, none]) := rfl
      rw [h4, pure_bind]
      show (dPar _ _ _ >>= fun r => _) = _
      rw [this, pure_bind]
    show runDef 6 p_rule_in17_b [.str t] st = _
    show (p_rule_in17_b [some (.str t), none, none, none, none, none] >>= _) st = _
    rw [h3]
    first | done | rfl
  rw [h0]
  unfold U at hm
  cases hr : dSeq rin17L rin17E [some (.str t), some (.lst (ls.map D.str)), some (.tup []), none, none, none] st with
  | ok r s =>
    rw [hr] at hm
    obtain ⟨rfl, h2, rfl⟩ := hm
    rw [h2]
    exact x_bind2 hr
  | exn e s =>
    rw [hr] at hm
    obtain ⟨rfl, k, h2, rfl⟩ := hm
    rw [h2]
    exact x_bind1 hr
  | stuck => rw [hr] at hm; exact hm.elim
theorem told_exn {d : D} {e : Exn} {st : Store} (h : p_rule_in17 [d] st = .exn e st) : p_Rule_told17 [.cls "Rule", d] st = .exn e st := by
  have h1 : dAsg (dCall (arity 1 p_rule_in17) (dCons (dVar 1) (dNil))) (gOf (.tup [.nm 2, .nm 3])) [some (.cls "Rule"), some d, none, none] st = .exn e st := x_bind1 h
  have h2 : p_Rule_told17_b [some (.cls "Rule"), some d, none, none] st = .exn e st := x_bind1 h1
  exact x_bind1 h2
theorem read_exn {d : D} {k : Int} {st : Store} (h : p_rule_in17 [d] st = .exn (xTx k) st) : l_read [d] st = .ok (.tup [.non, .int k]) st := by
  have h1 := told_exn h
  have h2 : (dRet (dTup (dCons (dProp "Rule" p_Rule_source (dCMeth "Rule" 2 p_Rule_told17 (dCons (dVar 0) (dNil)))) (dCons (dC .non) (dNil))))) [some d, none] st = .exn (xTx k) st := by
    have a1 : dCMeth "Rule" 2 p_Rule_told17 (dCons (dVar 0) (dNil)) [some d, none] st = .exn (xTx k) st := h1
    have a2 : dProp "Rule" p_Rule_source (dCMeth "Rule" 2 p_Rule_told17 (dCons (dVar 0) (dNil))) [some d, none] st = .exn (xTx k) st := x_bind1 a1
    have a3 : dCons (dProp "Rule" p_Rule_source (dCMeth "Rule" 2 p_Rule_told17 (dCons (dVar 0) (dNil)))) (dCons (dC .non) (dNil)) [some d, none] st = .exn (xTx k) st := x_bind1 a2
    exact x_bind1 (x_bind1 a3)
  have h3 : l_read_b [some d, none] st = .ok (.rt (.tup [.non, .int k])) st := by
    unfold l_read_b dTryLine
    rw [h2]
    rfl
  exact x_bind2 h3
theorem told_ok {t : Str} {a b : D} {st : Store} (h : p_rule_in17 [.str t] st = .ok (.tup [a, b]) st) (ha : IsCond a) (hb : IsCond b) : T (p_Rule_told17 [.cls "Rule", .str t]) st (fun d s => d = .ref st.length ∧ s = st ++ [ruC (.tup [a, b])]) := by
  rw [p_Rule_told17, t_run, p_Rule_told17_b, t_tg]
  simp -implicitDefEqProofs
  refine T.ok h ?_
  simp -implicitDefEqProofs
  rw [t_ret1]
  unfold dMakeL
  simp -implicitDefEqProofs
  rw [t_clsM]
  exact rule_new ha hb
theorem read_ok {t : Str} {a b : D} {st : Store} (h : p_rule_in17 [.str t] st = .ok (.tup [a, b]) st) (ha : IsCond a) (hb : IsCond b) : T (l_read [.str t]) st (fun d s => d = .tup [.tup [a, b], .non] ∧ s = st ++ [ruC (.tup [a, b])]) := by
  have h1 : T ((dRet (dTup (dCons (dProp "Rule" p_Rule_source (dCMeth "Rule" 2 p_Rule_told17 (dCons (dVar 0) (dNil)))) (dCons (dC .non) (dNil))))) [some (.str t), none]) st (fun r s => r = .rt (.tup [.tup [a, b], .non]) ∧ s = st ++ [ruC (.tup [a, b])]) := by
    rw [t_ret1]
    simp -implicitDefEqProofs
    refine t_source ?_
    unfold dCMeth
    simp -implicitDefEqProofs
    refine (told_ok h ha hb).mono fun d s hd => ?_
    obtain ⟨rfl, rfl⟩ := hd
    exact ⟨_, rfl, _, by simp, rfl, rfl⟩
  obtain ⟨r, s, e, rfl, rfl⟩ := h1.get
  rw [l_read, t_run]
  refine T.ok (a := Fl.rt (.tup [.tup [a, b], .non])) (st' := st ++ [ruC (.tup [a, b])]) ?_ ⟨rfl, rfl⟩
  show l_read_b [some (.str t), none] st = _
  unfold l_read_b dTryLine
  rw [e]
/-! what the law asks of a text -/
def badL (ls : List Str) : List Int := (if isLineB (ls.headD "") "down" then [] else [1]) ++ (if isLineB ((ls ++ ([""] : List Str)).getD 1 "") "up" then [] else [2]) ++ (if 2 < ls.length then [3] else [])
theorem empty_line : isLineB "" "up" = false := by decide +kernel
theorem rdE_bad {ls : List Str} (h : 1 ≤ ls.length) : rdE ls = (badL ls).head? := by
  match ls, h with
  | [l0], _ =>
    have e0 : (condR l0 "down").isNone = !isLineB l0 "down" := by rw [← condR_isSome]; simp
    unfold badL
    simp only [rdE, e0]
    have : isLineB (([l0] ++ ([""] : List Str)).getD 1 "") "up" = false := empty_line
    rw [this]
    have e2 : ([l0] : List Str).headD "" = l0 := rfl
    rw [e2]
    cases isLineB l0 "down" <;> rfl
  | l0 :: l1 :: r, _ =>
    have e0 : (condR l0 "down").isNone = !isLineB l0 "down" := by rw [← condR_isSome]; simp
    have e1 : (condR l1 "up").isNone = !isLineB l1 "up" := by rw [← condR_isSome]; simp
    unfold badL
    simp only [rdE, e0, e1]
    have e2 : (l0 :: l1 :: r : List Str).headD "" = l0 := rfl
    have e3 : (((l0 :: l1 :: r) ++ ([""] : List Str)).getD 1 "") = l1 := rfl
    rw [e2, e3]
    cases isLineB l0 "down" with
    | false => rfl
    | true =>
      cases isLineB l1 "up" with
      | false => rfl
      | true =>
        cases r with
        | nil => rfl
        | cons x r => simp
theorem rdE_none {ls : List Str} (h : rdE ls = none) : ∃ a b l0 l1, ls = [l0, l1] ∧ IsCond a ∧ IsCond b ∧ lineS "down" a = l0 ∧ lineS "up" b = l1 ∧ rdV ls = .tup [a, b] := by
  match ls, h with
  | l0 :: r, h =>
    cases e0 : (condR l0 "down").isNone with
    | true => simp [rdE, e0] at h
    | false =>
      match r, h with
      | [], h => simp [rdE, e0] at h
      | l1 :: r2, h =>
        cases e1 : (condR l1 "up").isNone with
        | true => simp [rdE, e0, e1] at h
        | false =>
          simp [rdE, e0, e1] at h
          subst h
          obtain ⟨a, fa, ga, _⟩ := cond_nn e0
          obtain ⟨b, fb, gb, _⟩ := cond_nn e1
          exact ⟨a, b, l0, l1, rfl, ga, gb, (condR_some fa).2, (condR_some fb).2, by simp [rdV, fa, fb]⟩
theorem read_run {t : Str} {st : Store} (ht : PyData.strOk t = true) (hl : t.length ≤ 4000) : T (l_read [.str t]) st (fun d s => (∃ k, (badL (Txt.split t "\n")).head? = some k ∧ d = .tup [.non, .int k] ∧ s = st) ∨
    (badL (Txt.split t "\n") = [] ∧ ∃ a b, IsCond a ∧ IsCond b ∧ textS (.tup [a, b]) = t ∧ d = .tup [.tup [a, b], .non] ∧ s = st ++ [ruC (.tup [a, b])])) := by
  have hr := rule_in17_run (st := st) ht hl
  have h1 := PyProof.Rows.split_pos t "\n"
  have hj := PySem.StrLaws.join_split t "\n"
  cases e : rdE (Txt.split t "\n") with
  | some k =>
    rw [e] at hr
    refine T.ok (read_exn hr) (.inl ⟨k, by rw [← rdE_bad h1, e], rfl, rfl⟩)
  | none =>
    rw [e] at hr
    obtain ⟨a, b, l0, l1, e2, ha, hb, el0, el1, ev⟩ := rdE_none e
    rw [ev] at hr
    refine (read_ok hr ha hb).mono fun d s hd => .inr ⟨?_, a, b, ha, hb, ?_, hd.1, hd.2⟩
    · have := rdE_bad h1
      rw [e] at this
      exact List.head?_eq_none_iff.mp this.symm
    · rw [e2] at hj
      rw [← hj, ← el0, ← el1]
      exact tjoin
def TOk (t : Str) : Prop := PyData.strOk t = true ∧ t.length ≤ 1600
abbrev sgnS : List Str := ["", " ", "0", "5", " not", " and ", " or pointer below held 0", "\n", "held 1", "pointer", "x", "\nup", " below"]
theorem sgn_ok : ∀ x ∈ sgnS, PyData.strOk x = true ∧ x.length ≤ 30 := by decide +kernel
theorem wt_cut {l : List Str} {lo hi : Option Int} : wt (cutL l lo hi) ≤ wt l := by
  unfold cutL
  exact Nat.le_trans wt_take wt_drop
theorem spoilt_spec {t : Str} {n : Nat} {st : Store} (h : Src st n) (ht : TOk t) : T (l_spoilt17 [.ref n, .str t]) st (Dr n st (fun d => ∃ u, d = .str u ∧ PyData.strOk u = true ∧ u.length ≤ 6000)) := by
  obtain ⟨t1, t2⟩ := ht
  have e1 : ("\n" : Str).length = 1 := rfl
  have hsplit := tt_split (t := t) (y := "\n") (by rw [e1]; exact Nat.le_refl _) (by omega)
  have hso := split_ok (y := "\n") t1 (by rw [e1]; exact Nat.le_refl _)
  have hwt : wt (Txt.split t "\n") ≤ t.length + 1 := PyProof.Rows.split_weight t "\n" (by rw [e1]; exact Nat.le_refl _)
  generalize Txt.split t "\n" = ls at *
  have hW : WOk ls := ⟨fun x hx => (hso.1 x hx).1, by omega⟩
  rw [l_spoilt17, t_run, l_spoilt17_b, t_par]
  simp -implicitDefEqProofs
  refine ⟨by omega, ?_⟩
  refine (draw_spec h (by omega) (by omega)).mono fun d s1 hd => ?_
  obtain ⟨⟨at_, rfl, a0, a1⟩, h1, f1⟩ := hd
  refine (draw_spec h1 (by omega) (by omega)).mono fun d s2 hd => ?_
  obtain ⟨⟨more, rfl, m0, m1⟩, h2, f2⟩ := hd
  rw [t_asg]
  simp -implicitDefEqProofs
  rw [t_asg]
  simp -implicitDefEqProofs
  have eqi : ∀ i j : Int, opEq false (.int i) (.int j) = pure (.bl (i == j)) := fun i j => by
    rw [eq_of dep_int dep_int, deq_ii]
    simp
  rw [t_ifs]
  simp -implicitDefEqProofs [eqi]
  refine ⟨fun e => ?_, fun e => ?_⟩
  · rw [t_seq, t_asg]
    simp -implicitDefEqProofs [tt_s, hsplit]
    rw [t_seq, t_asg]
    simp -implicitDefEqProofs
    refine (draw_spec h2 (by omega) (by omega)).mono fun d s3 hd => ?_
    obtain ⟨⟨spot, rfl, p0, p1⟩, h3, f3⟩ := hd
    rw [t_seq, t_asg]
    simp -implicitDefEqProofs
    refine (draw_spec h3 (by omega) (by omega)).mono fun d s4 hd => ?_
    obtain ⟨⟨k, rfl, k0, k1⟩, h4, f4⟩ := hd
    simp -implicitDefEqProofs
    rw [t_ret]
    simp -implicitDefEqProofs [cutL_map]
    have w1 := wok_cut hW none (some spot)
    have w2 := wok_cut hW (some (spot + 1)) none
    have w3 := wok_cut hW (some spot) (some (spot + k))
    have v1 := wt_cut (l := ls) (lo := none) (hi := some spot)
    have v2 := wt_cut (l := ls) (lo := some (spot + 1)) (hi := none)
    have v3 := wt_cut (l := ls) (lo := some spot) (hi := some (spot + k))
    generalize cutL ls none (some spot) = A at *
    generalize cutL ls (some (spot + 1)) none = B at *
    generalize cutL ls (some spot) (some (spot + k)) = C at *
    have hlen : ∀ l : List Str, l.length ≤ wt l := fun l => by unfold wt; omega
    have l1 := hlen A
    have l2 := hlen B
    have l3 := hlen C
    have hABC : wt (A ++ (B ++ C)) ≤ 5000 := by rw [wt_app, wt_app]; omega
    have hj := join_l (z := "\n") (ss := A ++ (B ++ C)) (by unfold wt at hABC; rw [e1]; omega)
    have hjl := jl "\n" (A ++ (B ++ C))
    rw [List.map_append, List.map_append] at hj
    rw [tt_s, t_pure, hj, t_pure]
    refine ⟨by omega, by omega, ⟨_, rfl, ok_join (by decide +kernel) fun x hx => ?_, ?_⟩, h4, ((f1.trans f2).trans f3).trans f4⟩
    · rcases List.mem_append.mp hx with hx | hx
      · exact w1.1 x hx
      · rcases List.mem_append.mp hx with hx | hx
        · exact w2.1 x hx
        · exact w3.1 x hx
    · unfold wt at hABC
      rw [e1] at hjl
      omega
  · rw [t_ret1]
    simp -implicitDefEqProofs
    refine ⟨by omega, ?_⟩
    refine (of_spec h2 (by simp) (by simp)).mono fun d s3 hd => ?_
    obtain ⟨hd, h3, f3⟩ := hd
    obtain ⟨x, hx, rfl⟩ : ∃ x ∈ sgnS, d = .str x := by
      obtain ⟨x, hx, rfl⟩ := List.mem_map.mp (show d ∈ sgnS.map D.str from hd)
      exact ⟨x, hx, rfl⟩
    obtain ⟨x1, x2⟩ := sgn_ok x hx
    have c1 := cutS_length t none (some at_)
    have c2 := cutS_length t (some (at_ + more)) none
    simp -implicitDefEqProofs [str_app]
    refine ⟨by omega, by omega, by omega, ?_⟩
    exact ⟨⟨_, rfl, ok_app (ok_app (ok_cut t1 _ _) x1) (ok_cut t1 _ _), by rw [str_app, str_app]; omega⟩, h3, (f1.trans f2).trans f3⟩
theorem rows_form {ls : List Str} (h : 1 ≤ ls.length) : ∃ rest, cutL (ls.map D.str ++ [.str ""]) none (some 3) = .str (ls.headD "") :: .str ((ls ++ ([""] : List Str)).getD 1 "") :: rest := by
  match ls, h with
  | [l0], _ => exact ⟨[], rfl⟩
  | l0 :: l1 :: r, _ =>
    refine ⟨(r.map D.str ++ [D.str ""]).take 1, ?_⟩
    show _ = D.str l0 :: D.str l1 :: (r.map D.str ++ [D.str ""]).take 1
    unfold cutL
    have e1 : HT.sIx (List.map D.str (l0 :: l1 :: r) ++ [D.str ""]).length (List.map D.str (l0 :: l1 :: r) ++ [D.str ""]).length (some (3 : Int)) = 3 := by
      have := HT.sIx_nat (List.map D.str (l0 :: l1 :: r) ++ [D.str ""]).length (List.map D.str (l0 :: l1 :: r) ++ [D.str ""]).length 3
      refine this.trans ?_
      rw [Nat.min_eq_left]
      simp
    rw [e1, HT.sIx_none]
    simp
theorem t_catl {m : Nat} {st : Store} {ds es : List D} {Q : D → Store → Prop} (h : st[m]? = some (.lst ds)) (hl : ds.length + es.length ≤ 16000000) (q : Q (.lst (ds ++ es)) st) : T (opAdd (.ref m) (.lst es)) st Q := by
  show T (lstOf (.ref m) >>= fun a => guardM (decide (a.length + es.length ≤ big)) (pure (.lst (a ++ es)))) st Q
  rw [t_bind, t_lstr, h, lcl_s, t_pure, t_guard]
  exact ⟨decide_eq_true hl, q⟩
theorem t_eqref {m : Nat} {st : Store} {neg : Bool} {ds : List D} {y : D} {Q : D → Store → Prop} (h : st[m]? = some (.lst ds)) : T (opEq neg (.ref m) y) st Q = T (opEq neg (.lst ds) y) st Q := by
  have e : dataOf (.ref m) st = .ok (.lst ds) st := by
    show (match st[m]? with | some (.lst ds) => R.ok (D.lst ds) st | _ => .stuck) = _
    rw [h]
  unfold T opEq
  rw [bind_def, e]
  rfl
abbrev badB : Den := dLcOwn (iVal (dTup (dCons (dC (.int 0)) (dCons (dC (.int 1)) (dNil))))) [12] (.nm 12) (dBNot (bVal (dCall (arity 2 l_is_line) (dCons (d2 opIx (dVar 8) (dVar 12)) (dCons (d2 opIx (dTup (dCons (dC (.str "down")) (dCons (dC (.str "up")) (dNil)))) (dVar 12)) (dNil)))))) (d2 opAdd (dVar 12) (dC (.int 1)))
def bad2 (a0 a1 : Str) : List Int := (if isLineB a0 "down" then [] else [1]) ++ (if isLineB a1 "up" then [] else [2])
theorem bad_run {a0 a1 : Str} {rest : List D} {x0 x1 x2 x3 x4 x5 x6 x7 x9 x10 x11 x12 : Option D} {st : Store} (h0 : PyData.strOk a0 = true ∧ a0.length ≤ 4000) (h1 : PyData.strOk a1 = true ∧ a1.length ≤ 4000) :
    T (badB [x0, x1, x2, x3, x4, x5, x6, x7, some (.lst (.str a0 :: .str a1 :: rest)), x9, x10, x11, x12]) st (fun d s => d = .ref st.length ∧ s = st ++ [.lst ((bad2 a0 a1).map D.int)]) := by
  have l0 := is_line_eq h0.1 h0.2 (.inl rfl)
  have l1 := is_line_eq h1.1 h1.2 (.inr rfl)
  let p : D → Bool := fun d => match d with
    | .int 0 => !isLineB a0 "down"
    | _ => !isLineB a1 "up"
  let g : D → D := fun d => match d with
    | .int i => .int (i + 1)
    | d => d
  have hl : T (lcL (.nm 12) (dBNot (bVal (dCall (arity 2 l_is_line) (dCons (d2 opIx (dVar 8) (dVar 12)) (dCons (d2 opIx (dTup (dCons (dC (.str "down")) (dCons (dC (.str "up")) (dNil)))) (dVar 12)) (dNil)))))) (d2 opAdd (dVar 12) (dC (.int 1))) [x0, x1, x2, x3, x4, x5, x6, x7, some (.lst (.str a0 :: .str a1 :: rest)), x9, x10, x11, none] [.int 0, .int 1]) st (fun r s => r = ([D.int 0, D.int 1].filter p).map g ∧ s = st) := by
    refine lc_T fun d hd => ?_
    simp only [List.mem_cons, List.not_mem_nil, or_false] at hd
    rcases hd with rfl | rfl
    · refine ⟨_, rfl, ?_, fun _ => ?_⟩
      · simp -implicitDefEqProofs [at_zero, l0]
        show isLineB a0 "down" = !(!isLineB a0 "down")
        simp
      · simp -implicitDefEqProofs
        rfl
    · refine ⟨_, rfl, ?_, fun _ => ?_⟩
      · simp -implicitDefEqProofs [at_one, l1]
        show isLineB a1 "up" = !(!isLineB a1 "up")
        simp
      · simp -implicitDefEqProofs
        rfl
  have e : ([D.int 0, D.int 1].filter p).map g = (bad2 a0 a1).map D.int := by
    have p0 : p (.int 0) = !isLineB a0 "down" := rfl
    have p1 : p (.int 1) = !isLineB a1 "up" := rfl
    unfold bad2
    rw [List.filter_cons, p0, List.filter_cons, p1]
    cases isLineB a0 "down" <;> cases isLineB a1 "up" <;> rfl
  rw [e] at hl
  simp -implicitDefEqProofs [wipeE]
  refine hl.mono fun r s hr => ?_
  obtain ⟨rfl, rfl⟩ := hr
  exact ⟨rfl, rfl⟩
theorem badL_form {ls : List Str} : badL ls = bad2 (ls.headD "") ((ls ++ ([""] : List Str)).getD 1 "") ++ (if 2 < ls.length then [3] else []) := rfl
theorem is_rule17 {a b : D} (ha : IsCond a) (hb : IsCond b) : p_is_rule [.tup [a, b]] = pure (.bl true) := by
  have hr : IsRule (.tup [a, b]) := ⟨a, b, ha, hb, rfl⟩
  refine eq_of_T fun st => ?_
  rw [p_is_rule, t_run, p_is_rule_b, t_ret1]
  simp -implicitDefEqProofs [is_good_rule_eq ((isRule_dep hr).mono (by decide)), isRule_B hr]
theorem good_text {R : D} (h : IsRule R) : badL (Txt.split (textS R) "\n") = [] := by
  obtain ⟨a, b, ha, hb, rfl⟩ := h
  rw [split_text ha hb]
  have h1 : isLineB (lineS "down" a) "down" = true := line_iff.mpr ⟨a, ha, rfl⟩
  have h2 : isLineB (lineS "up" b) "up" = true := line_iff.mpr ⟨b, hb, rfl⟩
  show (if isLineB (lineS "down" a) "down" = true then [] else [1]) ++ (if isLineB (lineS "up" b) "up" = true then [] else [2]) ++ [] = ([] : List Int)
  rw [h1, h2]
  rfl
abbrev tn1 : DenS := dIfS (bVal (d2 opGt (dCall (on1 biLen) (dCons (dMeth "str" mSplit (dVar 4) (dCons (dC (.str "\n")) (dNil))) (dNil))) (dC (.int 2)))) (dExpr (dMeth "list" mAppend (dVar 9) (dCons (dC (.int 3)) (dNil)))) (dSkip)
abbrev tn2 : DenB := dBOr (dBAnd (bVal (d2 (opIsN false) (dVar 6) (dC .non))) (bVal (d2 (opEq true) (dVar 7) (d2 opIx (d2 opAdd (dVar 9) (dLst (dCons (dC (.int 9)) (dNil)))) (dC (.int 0)))))) (dBAnd (bVal (d2 (opIsN true) (dVar 6) (dC .non))) (bVal (d2 (opEq true) (dVar 9) (dLst (dNil)))))
abbrev tn3 : DenB := dBAnd (bVal (d2 (opIsN true) (dVar 6) (dC .non))) (dBOr (dBNot (bVal (dCall (arity 1 p_is_rule) (dCons (dVar 6) (dNil))))) (bVal (d2 (opEq true) (dCall (arity 1 l_text) (dCons (dVar 6) (dNil))) (dVar 4))))
abbrev tn4 : DenB := dBAnd (bVal (d2 (opEq false) (dVar 5) (dC (.int 0)))) (bVal (d2 (opEq true) (dVar 6) (dVar 3)))
abbrev turn17 : DenS := dSeq (dAsg (dCall (arity 1 l_read) (dCons (dVar 4) (dNil))) (gOf (.tup [.nm 6, .nm 7]))) <|
  dSeq (dAsg (dSl (d2 opAdd (dMeth "str" mSplit (dVar 4) (dCons (dC (.str "\n")) (dNil))) (dLst (dCons (dC (.str "")) (dNil)))) (oNone) (oSome (dC (.int 3)))) (gSet 8)) <|
  dSeq (dAsg badB (gSet 9)) <|
  dSeq tn1 <|
  dSeq (dIfS tn2 (dRet (dC (.bl false))) (dSkip)) <|
  dSeq (dIfS tn3 (dRet (dC (.bl false))) (dSkip)) <|
  dSeq (dIfS tn4 (dRet (dC (.bl false))) (dSkip)) <|
  dAsg (dSl (dCall (arity 2 l_spoilt17) (dCons (dVar 2) (dCons (dVar 4) (dNil)))) (oNone) (oSome (dC (.int 1600)))) (gSet 4)
theorem tn1_run {t : Str} {ls : List Str} {L : List D} {m : Nat} {x0 x1 x2 x3 x5 x6 x7 x8 x10 x11 x12 : Option D} {st : Store} (hs : mSplit (.str t) [.str "\n"] = pure (.lst (ls.map D.str))) (hn : ls.length ≤ 4001) (hL : L.length ≤ 2) (hm : st[m]? = some (.lst L)) {g : DenS} {Q : Fl → Store → Prop}
    (k : ∀ s, (∀ i, i < m → s[i]? = st[i]?) → st.length ≤ s.length → s[m]? = some (.lst (L ++ (if 2 < ls.length then [.int 3] else []))) → T (g [x0, x1, x2, x3, some (.str t), x5, x6, x7, x8, some (.ref m), x10, x11, x12]) s Q) :
    T (dSeq tn1 g [x0, x1, x2, x3, some (.str t), x5, x6, x7, x8, some (.ref m), x10, x11, x12]) st Q := by
  rw [t_ifs]
  simp -implicitDefEqProofs [tt_s, hs]
  refine ⟨fun h => ?_, fun h => ?_⟩
  · rw [t_exp]
    simp -implicitDefEqProofs [hm]
    refine ⟨by omega, k _ (fun i hi => List.getElem?_set_ne (by omega)) (by simp) ?_⟩
    rw [set_get hm, if_pos (by omega)]
  · refine k _ (fun _ _ => rfl) (Nat.le_refl _) ?_
    rw [hm, if_neg (by omega)]
    simp
def Fin17 (n : Nat) (R : D) (turn : Int) (x0 x1 x10 x11 x12 : Option D) (r : Fl) (s : Store) : Prop := (∃ u y6 y7 y8 y9, TOk u ∧ r = .nx [x0, x1, some (.ref n), some R, some (.str u), some (.int turn), y6, y7, y8, y9, x10, x11, x12]) ∧ Src s n
theorem turn17_step {n : Nat} {R : D} {t : Str} {turn : Int} {x0 x1 x6 x7 x8 x9 x10 x11 x12 : Option D} {st : Store} (hS : Src st n) (hR : IsRule R) (ht : TOk t) (h0 : turn = 0 → t = textS R) :
    T (turn17 [x0, x1, some (.ref n), some R, some (.str t), some (.int turn), x6, x7, x8, x9, x10, x11, x12]) st (Fin17 n R turn x0 x1 x10 x11 x12) := by
  obtain ⟨t1, t2⟩ := ht
  have e1 : ("\n" : Str).length = 1 := rfl
  have hsplit := tt_split (t := t) (y := "\n") (by rw [e1]; exact Nat.le_refl _) (by omega)
  have hso := split_ok (y := "\n") t1 (by rw [e1]; exact Nat.le_refl _)
  have hrd := read_run (st := st) t1 (by omega)
  have hgood : turn = 0 → badL (Txt.split t "\n") = [] := fun e => by rw [h0 e]; exact good_text hR
  have hbf := badL_form (ls := Txt.split t "\n")
  generalize Txt.split t "\n" = ls at *
  obtain ⟨rest, hrows⟩ := rows_form hso.2.1
  have ok0 : PyData.strOk (ls.headD "") = true ∧ (ls.headD "").length ≤ 4000 := by
    match ls, hso with
    | [], h => show PyData.strOk "" = true ∧ ("" : Str).length ≤ 4000; decide +kernel
    | l0 :: r, h => exact ⟨(h.1 l0 (by simp)).1, by have := (h.1 l0 (by simp)).2; show l0.length ≤ 4000; omega⟩
  have ok1 : PyData.strOk ((ls ++ ([""] : List Str)).getD 1 "") = true ∧ ((ls ++ ([""] : List Str)).getD 1 "").length ≤ 4000 := by
    match ls, hso with
    | [], h => show PyData.strOk "" = true ∧ ("" : Str).length ≤ 4000; decide +kernel
    | [l0], h => show PyData.strOk "" = true ∧ ("" : Str).length ≤ 4000; decide +kernel
    | l0 :: l1 :: r, h => exact ⟨(h.1 l1 (by simp)).1, by have := (h.1 l1 (by simp)).2; show l1.length ≤ 4000; omega⟩
  generalize ls.headD "" = a0 at *
  generalize (ls ++ ([""] : List Str)).getD 1 "" = a1 at *
  have hb2 : (bad2 a0 a1).length ≤ 2 := by unfold bad2; cases isLineB a0 "down" <;> cases isLineB a1 "up" <;> decide
  have hbad : badL ls = bad2 a0 a1 ++ (if 2 < ls.length then [3] else []) := hbf
  have hbadD : (bad2 a0 a1).map D.int ++ (if 2 < ls.length then [D.int 3] else []) = (badL ls).map D.int := by
    rw [hbad, List.map_append]
    split <;> rfl
  have tail : ∀ (v6 v7 : D) (s : Store) (m : Nat) (v8 : D), Src s n → s[m]? = some (.lst ((bad2 a0 a1).map D.int)) → n < m →
      (∀ s', s'[m]? = some (.lst ((badL ls).map D.int)) → Src s' n → (T (tn2 [x0, x1, some (.ref n), some R, some (.str t), some (.int turn), some v6, some v7, some v8, some (.ref m), x10, x11, x12]) s' (fun b s2 => b = false ∧ s2 = s'))) →
      (∀ s', Src s' n → (T (tn3 [x0, x1, some (.ref n), some R, some (.str t), some (.int turn), some v6, some v7, some v8, some (.ref m), x10, x11, x12]) s' (fun b s2 => b = false ∧ Src s2 n))) →
      (∀ s', Src s' n → (T (tn4 [x0, x1, some (.ref n), some R, some (.str t), some (.int turn), some v6, some v7, some v8, some (.ref m), x10, x11, x12]) s' (fun b s2 => b = false ∧ s2 = s'))) →
      T (dSeq tn1 (dSeq (dIfS tn2 (dRet (dC (.bl false))) (dSkip)) <| dSeq (dIfS tn3 (dRet (dC (.bl false))) (dSkip)) <| dSeq (dIfS tn4 (dRet (dC (.bl false))) (dSkip)) <| dAsg (dSl (dCall (arity 2 l_spoilt17) (dCons (dVar 2) (dCons (dVar 4) (dNil)))) (oNone) (oSome (dC (.int 1600)))) (gSet 4)) [x0, x1, some (.ref n), some R, some (.str t), some (.int turn), some v6, some v7, some v8, some (.ref m), x10, x11, x12]) s
        (Fin17 n R turn x0 x1 x10 x11 x12) := by
    intro v6 v7 s m v8 hs hm hnm h2 h3 h4
    refine tn1_run hsplit (by omega) (by simpa using hb2) hm fun s1 k1 k2 k3 => ?_
    rw [hbadD] at k3
    have hs1 : Src s1 n := by
      obtain ⟨u, v, q1, q2⟩ := hs
      exact ⟨u, v, by rw [k1 n hnm]; exact q1, q2⟩
    rw [t_ifs]
    refine (h2 s1 k3 hs1).mono fun b s2 hb => ?_
    obtain ⟨rfl, rfl⟩ := hb
    refine ⟨fun e => (by cases e), fun _ => ?_⟩
    rw [t_skip, t_ifs]
    refine (h3 _ hs1).mono fun b s3 hb => ?_
    obtain ⟨rfl, hs3⟩ := hb
    refine ⟨fun e => (by cases e), fun _ => ?_⟩
    rw [t_skip, t_ifs]
    refine (h4 _ hs3).mono fun b s4 hb => ?_
    obtain ⟨rfl, rfl⟩ := hb
    refine ⟨fun e => (by cases e), fun _ => ?_⟩
    rw [t_skip, t_asg1]
    simp -implicitDefEqProofs
    refine (spoilt_spec hs3 ⟨t1, t2⟩).mono fun d s5 hd => ?_
    obtain ⟨⟨u, rfl, u1, u2⟩, hs5, _⟩ := hd
    simp -implicitDefEqProofs
    refine ⟨by omega, ⟨_, _, _, _, _, ⟨ok_cut u1 _ _, ?_⟩, rfl⟩, hs5⟩
    have := cp_cut1 (z := u) (n := 1600)
    have := congrArg List.length this
    rw [cpL_len, List.length_take] at this
    exact this ▸ Nat.min_le_left _ _
  rw [t_tg]
  simp -implicitDefEqProofs
  have mid : ∀ (v6 v7 : D) (s : Store), Src s n →
      (∀ m s', s'[m]? = some (.lst ((badL ls).map D.int)) → Src s' n → (∀ v8, T (tn2 [x0, x1, some (.ref n), some R, some (.str t), some (.int turn), some v6, some v7, some v8, some (.ref m), x10, x11, x12]) s' (fun b s2 => b = false ∧ s2 = s'))) →
      (∀ m s' v8, Src s' n → (T (tn3 [x0, x1, some (.ref n), some R, some (.str t), some (.int turn), some v6, some v7, some v8, some (.ref m), x10, x11, x12]) s' (fun b s2 => b = false ∧ Src s2 n))) →
      (∀ m s' v8, Src s' n → (T (tn4 [x0, x1, some (.ref n), some R, some (.str t), some (.int turn), some v6, some v7, some v8, some (.ref m), x10, x11, x12]) s' (fun b s2 => b = false ∧ s2 = s'))) →
      T (dSeq (dAsg (dSl (d2 opAdd (dMeth "str" mSplit (dVar 4) (dCons (dC (.str "\n")) (dNil))) (dLst (dCons (dC (.str "")) (dNil)))) (oNone) (oSome (dC (.int 3)))) (gSet 8)) (dSeq (dAsg badB (gSet 9)) <| dSeq tn1 (dSeq (dIfS tn2 (dRet (dC (.bl false))) (dSkip)) <| dSeq (dIfS tn3 (dRet (dC (.bl false))) (dSkip)) <| dSeq (dIfS tn4 (dRet (dC (.bl false))) (dSkip)) <| dAsg (dSl (dCall (arity 2 l_spoilt17) (dCons (dVar 2) (dCons (dVar 4) (dNil)))) (oNone) (oSome (dC (.int 1600)))) (gSet 4))) [x0, x1, some (.ref n), some R, some (.str t), some (.int turn), some v6, some v7, x8, x9, x10, x11, x12]) s
        (Fin17 n R turn x0 x1 x10 x11 x12) := by
    intro v6 v7 s hs h2 h3 h4
    rw [t_asg]
    simp -implicitDefEqProofs [tt_s, hsplit, hrows]
    refine ⟨by omega, ?_⟩
    rw [t_asg]
    refine (bad_run ok0 ok1).mono fun d s1 hd => ?_
    obtain ⟨rfl, rfl⟩ := hd
    simp only [List.set]
    exact tail v6 v7 _ _ _ (src_app hs) (by simp) (by obtain ⟨u, v, q, _⟩ := hs; exact (List.getElem?_eq_some_iff.mp q).1) (fun s' a b => h2 _ s' a b _) (fun s' a => h3 _ s' _ a) (fun s' a => h4 _ s' _ a)
  refine hrd.mono fun d s hd => ?_
  have eqi : ∀ (neg : Bool) (i j : Int), opEq neg (.int i) (.int j) = pure (.bl (if neg then !(i == j) else i == j)) := fun neg i j => by
    rw [eq_of dep_int dep_int, deq_ii]
  have dbad : Dep 64 (.lst ((badL ls).map D.int)) := dep_lst.mpr fun d hd => by
    obtain ⟨x, _, rfl⟩ := List.mem_map.mp hd
    exact dep_int
  have n1 : opIsN false .non .non = pure (.bl true) := rfl
  have n2 : opIsN true .non .non = pure (.bl false) := rfl
  have m1 : ∀ l, opIsN false (.tup l) .non = pure (.bl false) := fun l => rfl
  have m2 : ∀ l, opIsN true (.tup l) .non = pure (.bl true) := fun l => rfl
  rcases hd with ⟨k, hk, rfl, rfl⟩ | ⟨hb0, a, b, ha, hb, htx, rfl, rfl⟩
  · simp -implicitDefEqProofs
    refine mid _ _ _ hS (fun m s' hm hs' v8 => ?_) (fun m s' v8 hs' => ?_) (fun m s' v8 hs' => ?_)
    · obtain ⟨r, hr⟩ : ∃ r, badL ls = k :: r := by
        cases e : badL ls with
        | nil => rw [e] at hk; cases hk
        | cons x r => rw [e] at hk; cases hk; exact ⟨r, rfl⟩
      have hlen : (badL ls).length ≤ 3 := by rw [hbad, List.length_append]; split <;> simp <;> omega
      rw [hr] at hm hlen
      simp -implicitDefEqProofs [n1, n2]
      refine t_catl hm (by simp at hlen ⊢; omega) ?_
      simp -implicitDefEqProofs [at_zero, eqi]
    · simp -implicitDefEqProofs [n2]
      exact hs'
    · have hne : turn ≠ 0 := fun e => by
        rw [hgood e] at hk
        cases hk
      simp -implicitDefEqProofs [eqi, hne]
  · simp -implicitDefEqProofs
    have hRab : IsRule (.tup [a, b]) := ⟨a, b, ha, hb, rfl⟩
    refine mid _ _ _ (src_app hS) (fun m s' hm hs' v8 => ?_) (fun m s' v8 hs' => ?_) (fun m s' v8 hs' => ?_)
    · rw [hb0] at hm
      have dnil : opEq true (.lst (([] : List Int).map D.int)) (.lst []) = pure (.bl false) := by
        rw [eq_of (dep_lst.mpr (by simp)) (dep_lst.mpr (by simp))]
        rfl
      simp -implicitDefEqProofs [m1, m2]
      rw [t_eqref hm, dnil]
      simp -implicitDefEqProofs
    · have hq := eq_ss (neg := true) t1 t1
      have hrl := is_rule17 ha hb
      have hlt := l_text_gen (st := s') hRab
      rw [htx] at hlt
      simp -implicitDefEqProofs [m2, hrl]
      refine hlt.mono fun d s2 hd => ?_
      obtain ⟨rfl, l2⟩ := hd
      rw [hq]
      simp -implicitDefEqProofs
      exact l2.src hs'
    · by_cases e : turn = 0
      · have he : (.tup [a, b] : D) = R := text_inj hRab hR (by rw [htx, h0 e])
        have hq := q_refl ((isRule_dep hR).mono (by decide : (4 : Nat) ≤ 64))
        rw [he]
        simp -implicitDefEqProofs [eqi, e, hq]
      · simp -implicitDefEqProofs [eqi, e]
theorem rin_odd {d : D} {st : Store} (h : opIsi "str" d = pure (.bl false)) : p_rule_in17 [d] st = .exn (xTx 0) st := by
  have h1 : (dIfS (dBNot (bVal (d1 (opIsi "str") (dVar 0)))) (dRaiseX "InvalidText" (dC (.int 0))) (dSkip)) [some d, none, none, none, none, none] st = .exn (xTx 0) st := by
    have h2 : (dBNot (bVal (d1 (opIsi "str") (dVar 0)))) [some d, none, none, none, none, none] = pure true := by
      show (opIsi "str" d >>= asB >>= fun c => pure (!c)) = _
      rw [h]
      rfl
    unfold dIfS
    rw [h2]
    rfl
  have h3 : p_rule_in17_b [some d, none, none, none, none, none] st = .exn (xTx 0) st := x_bind1 h1
  exact x_bind1 h3
theorem read_odd {d : D} (h : opIsi "str" d = pure (.bl false)) : l_read [d] = pure (.tup [.non, .int 0]) := by
  funext st
  exact read_exn (rin_odd h)
theorem read_err {t : Str} {k : Int} (ht : PyData.strOk t = true) (hl : t.length ≤ 4000) (h : (badL (Txt.split t "\n")).head? = some k) : l_read [.str t] = pure (.tup [.non, .int k]) := by
  funext st
  have hr := rule_in17_run (st := st) ht hl
  rw [rdE_bad (PyProof.Rows.split_pos t "\n"), h] at hr
  exact read_exn hr
abbrev oddB : DenB := bVal (d2 (opEq true) (dCall (arity 1 l_read) (dCons (dCall (arity 2 l_of) (dCons (dVar 2) (dCons (dLst (dCons (dC .non) (dCons (dC (.int 5)) (dCons (dC (.bl true)) (dCons (dLst (dNil)) (dCons (dTup (dCons (dC (.str "down")) (dNil))) (dCons (dVar 3) (dNil)))))))) (dNil)))) (dNil))) (dTup (dCons (dC .non) (dCons (dC (.int 0)) (dNil)))))
theorem odd_run {n : Nat} {R : D} {x0 x1 x4 x5 x6 x7 x8 x9 x10 x11 x12 : Option D} {st : Store} (hS : Src st n) (hR : IsRule R) : T (oddB [x0, x1, some (.ref n), some R, x4, x5, x6, x7, x8, x9, x10, x11, x12]) st (fun b s => b = false) := by
  have hq : opEq true (.tup [.non, .int 0]) (.tup [.non, .int 0]) = pure (.bl false) := q_refl (dep_tup.mpr (by simp))
  simp -implicitDefEqProofs
  refine (of_spec hS (by simp) (by simp)).mono fun d s hd => ?_
  obtain ⟨hd, _, _⟩ := hd
  have hodd : opIsi "str" d = pure (.bl false) := by
    obtain ⟨a, b, _, _, rfl⟩ := hR
    simp only [List.mem_cons, List.not_mem_nil, or_false] at hd
    rcases hd with rfl | rfl | rfl | rfl | rfl | rfl <;> rfl
  rw [read_odd hodd]
  simp -implicitDefEqProofs [hq]
abbrev cell17 : DenS := dSeq (dAsg (dCall (arity 2 l_source) (dCons (dVar 0) (dCons (dVar 1) (dNil)))) (gSet 2)) <|
  dSeq (dAsg (dCall (arity 1 l_rule) (dCons (dVar 2) (dNil))) (gSet 3)) <|
  dSeq (dAsg (dCall (arity 1 l_text) (dCons (dVar 3) (dNil))) (gSet 4)) <|
  dSeq (dFor (iRange1 (dCons (dC (.int 6)) (dNil))) (gOf (.nm 5)) turn17) <|
  dIfS oddB (dRet (dC (.bl false))) (dSkip)
theorem cell17_step {ns : List Int} {k : Int} {st : Store} (h0 : 0 ≤ k) (h1 : k < 1000) {x2 x3 x4 x5 x6 x7 x8 x9 x10 x11 x12 : Option D} :
    T (cell17 [some (.scr ns), some (.int k), x2, x3, x4, x5, x6, x7, x8, x9, x10, x11, x12]) st (fun r s => ∃ y2 y3 y4 y5 y6 y7 y8 y9, r = .nx [some (.scr ns), some (.int k), y2, y3, y4, y5, y6, y7, y8, y9, x10, x11, x12]) := by
  rw [t_asg]; simp
  refine (source_spec h0 h1).mono fun d s1 hd => ?_
  obtain ⟨n, rfl, s1'⟩ := hd
  rw [t_asg]; simp
  refine (rule_spec s1').mono fun d s2 hd => ?_
  obtain ⟨hR, s2', f2⟩ := hd
  rw [t_asg]; simp -implicitDefEqProofs
  have htx : TOk (textS d) := by
    obtain ⟨a, b, ha, hb, rfl⟩ := hR
    refine ⟨text_ok ha hb, ?_⟩
    have k1 := line_len (w := "down") ha (by decide +kernel)
    have k2 := line_len (w := "up") hb (by decide +kernel)
    show (Txt.join "\n" [lineS "down" a, lineS "up" b]).length ≤ 1600
    have := jl "\n" [lineS "down" a, lineS "up" b]
    have e : ("\n" : Str).length = 1 := rfl
    rw [e] at this
    simp at this
    omega
  refine (l_text_gen hR).mono fun z s3 hd => ?_
  obtain ⟨rfl, l3⟩ := hd
  have s3' := l3.src s2'
  generalize hR' : d = R at *
  clear hR'
  rw [t_for]
  have hit : ∀ ρ : MP.Env, iRange1 (dCons (dC (.int 6)) dNil) ρ = pure [.int 0, .int 1, .int 2, .int 3, .int 4, .int 5] := fun ρ => rfl
  rw [hit, t_pure]
  unfold forL
  rw [t_bind, t_bind, gOf_nm, t_pure]
  simp only [List.set]
  refine (turn17_step (turn := 0) s3' hR htx (fun _ => rfl)).mono fun r s4 hr => ?_
  obtain ⟨⟨u, y6, y7, y8, y9, hu, rfl⟩, s4'⟩ := hr
  show T (forL _ _ _) _ _
  refine (forL_inv (I := fun ρ s => (∃ u y5 y6 y7 y8 y9, TOk u ∧ ρ = [some (.scr ns), some (.int k), some (.ref n), some R, some (.str u), y5, y6, y7, y8, y9, x10, x11, x12]) ∧ Src s n) ⟨⟨_, _, _, _, _, _, hu, rfl⟩, s4'⟩ fun d hd ρ s hI => ?_).mono fun r s hr => ?_
  · obtain ⟨⟨u, y5, y6, y7, y8, y9, hu, rfl⟩, hS⟩ := hI
    obtain ⟨j, hj, rfl⟩ : ∃ j : Int, j ≠ 0 ∧ d = .int j := by
      simp only [List.mem_cons, List.not_mem_nil, or_false] at hd
      rcases hd with rfl | rfl | rfl | rfl | rfl
      · exact ⟨1, by decide, rfl⟩
      · exact ⟨2, by decide, rfl⟩
      · exact ⟨3, by decide, rfl⟩
      · exact ⟨4, by decide, rfl⟩
      · exact ⟨5, by decide, rfl⟩
    rw [t_bind, gOf_nm, t_pure]
    simp only [List.set]
    refine (turn17_step (turn := j) hS hR hu (fun e => absurd e hj)).mono fun r s hr => ?_
    obtain ⟨⟨u, y6, y7, y8, y9, hu, rfl⟩, s4'⟩ := hr
    exact ⟨_, rfl, ⟨_, _, _, _, _, _, hu, rfl⟩, s4'⟩
  · obtain ⟨ρ', rfl, ⟨u, y5, y6, y7, y8, y9, hu, rfl⟩, hS⟩ := hr
    show T (dIfS _ _ _ _) _ _
    rw [t_ifs1]
    refine (odd_run hS hR).mono fun b s hb => ?_
    subst hb
    exact ⟨fun e => (by cases e), fun _ => ⟨_, _, _, _, _, _, _, _, rfl⟩⟩
theorem law17 {ns : List Int} (hn : ns.length ≤ 63) {g : DenS} {Q : Fl → Store → Prop} (hg : ∀ s (o1 o2 o3 o4 o5 o6 o7 o8 o9 : Option D), T (g [some (.scr ns), o1, o2, o3, o4, o5, o6, o7, o8, o9, none, none, none]) s Q) :
    T (dSeq (dFor (iRange1 (dCons (d2 opAdd (dC (.int 1)) (dCall (on2 biMin) (dCons (dCall (on1 biLen) (dCons (dVar 0) (dNil))) (dCons (dC (.int 10)) (dNil))))) (dNil))) (gOf (.nm 1)) cell17) g [some (.scr ns), none, none, none, none, none, none, none, none, none, none, none, none]) [] Q := by
  rw [t_for]
  simp
  have hm : ∀ x : Int, x = 1 + (if (10 : Int) < ns.length then 10 else (ns.length : Int)) → 0 ≤ x ∧ x ≤ 64 := fun x hx => by split at hx <;> omega
  generalize hx : (1 + if (10 : Int) < ns.length then 10 else (ns.length : Int)) = x
  obtain ⟨x0, x1⟩ := hm x hx.symm
  refine ⟨fun _ _ => ?_, by omega, by omega⟩
  refine (forL_inv (I := fun ρ s => ∃ o1 o2 o3 o4 o5 o6 o7 o8 o9, ρ = [some (.scr ns), o1, o2, o3, o4, o5, o6, o7, o8, o9, none, none, none]) ⟨_, _, _, _, _, _, _, _, _, rfl⟩ fun d hd ρ s hI => ?_).mono fun r s hr => ?_
  · obtain ⟨o1, o2, o3, o4, o5, o6, o7, o8, o9, rfl⟩ := hI
    obtain ⟨k, hk, rfl⟩ : ∃ k : Int, (0 ≤ k ∧ k < 1000) ∧ d = .int k := by
      unfold rangeL at hd
      obtain ⟨j, hj, rfl⟩ := List.mem_map.mp hd
      have := List.mem_range.mp hj
      exact ⟨_, by omega, rfl⟩
    simp only [List.set]
    refine (cell17_step hk.1 hk.2).mono fun r s hr => ?_
    obtain ⟨_, _, _, _, _, _, _, _, rfl⟩ := hr
    exact ⟨_, rfl, _, _, _, _, _, _, _, _, _, rfl⟩
  · obtain ⟨ρ', rfl, o1, o2, o3, o4, o5, o6, o7, o8, o9, rfl⟩ := hr
    exact hg s o1 o2 o3 o4 o5 o6 o7 o8 o9
abbrev gd17 : Str := "down pointer below next 2"
abbrev tx17 : List Str := ["", gd17, gd17 ++ "\nup pointer above", ("up pointer below next 2\n" : Str) ++ gd17, gd17 ++ "\nup pointer above next 5", gd17 ++ "\nup pointer above next 2\n", gd17 ++ " and\nup pointer above next 2", gd17 ++ "\n" ++ gd17]
theorem tx17_ok : ∀ t ∈ tx17, PyData.strOk t = true ∧ t.length ≤ 4000 := by decide +kernel
theorem tx17_bad : tx17.map (fun t => (badL (Txt.split t "\n")).head?) = [some 1, some 2, some 2, some 1, some 2, some 3, some 1, some 2] := by decide +kernel
theorem holds (ns : List Int) (hn : ns.length ≤ 63) : ∃ st, p_law [.scr ns] [] = .ok (.bl true) st := by
  have key : T (p_law [.scr ns]) [] (fun d _ => d = .bl true) := by
    rw [p_law, t_run, p_law_b]
    refine law17 hn fun s o1 o2 o3 o4 o5 o6 o7 o8 o9 => ?_
    have hg : ∀ t ∈ tx17, ∃ k : Int, (badL (Txt.split t "\n")).head? = some k ∧ l_read [.str t] = pure (.tup [.non, .int k]) := fun t ht => by
      obtain ⟨k1, k2⟩ := tx17_ok t ht
      have hm : (badL (Txt.split t "\n")).head? ∈ tx17.map (fun t => (badL (Txt.split t "\n")).head?) := List.mem_map_of_mem ht
      rw [tx17_bad] at hm
      cases e : (badL (Txt.split t "\n")).head? with
      | none => rw [e] at hm; simp at hm
      | some k => exact ⟨k, rfl, read_err k1 k2 e⟩
    have hlc : ∀ o1 o2 o3 o5 o6 o7 o8 o9 o10 o11 o12 : Option D, lcL (.nm 4) bTrue (d2 opIx (dCall (arity 1 l_read) (dCons (dVar 4) (dNil))) (dC (.int 1))) [some (.scr ns), o1, o2, o3, none, o5, o6, o7, o8, o9, o10, o11, o12] (tx17.map D.str) = pure (tx17.map fun t => D.int ((badL (Txt.split t "\n")).head?.getD 0)) := fun o1 o2 o3 o5 o6 o7 o8 o9 o10 o11 o12 => by
      refine lc_all (e := D.str) (g := fun t => D.int ((badL (Txt.split t "\n")).head?.getD 0)) (xs := tx17) fun t ht => ⟨_, rfl, ?_⟩
      obtain ⟨k, e, h⟩ := hg t ht
      refine eq_of_T fun s => ?_
      rw [e]
      simp -implicitDefEqProofs [h]
    have hval : (tx17.map fun t => D.int ((badL (Txt.split t "\n")).head?.getD 0)) = [.int 1, .int 2, .int 2, .int 1, .int 2, .int 3, .int 1, .int 2] := by
      have := congrArg (List.map fun o : Option Int => D.int (o.getD 0)) tx17_bad
      rw [List.map_map] at this
      exact this
    rw [hval] at hlc
    rw [t_asg]
    show T (dSeq _ _ [some (.scr ns), o1, o2, o3, o4, o5, o6, o7, o8, o9, some (.str gd17), none, none]) s _
    rw [t_asg]
    have v1 : ∀ x11 : Option D, dLst (dCons (dC (.str "")) (dCons (dVar 10) (dCons (d2 opAdd (dVar 10) (dC (.str "\nup pointer above"))) (dCons (d2 opAdd (dC (.str "up pointer below next 2\n")) (dVar 10)) (dNil))))) [some (.scr ns), o1, o2, o3, o4, o5, o6, o7, o8, o9, some (.str gd17), x11, none] = pure (.lst ((tx17.take 4).map D.str)) := fun x11 => by kernel_rfl
    rw [v1, t_pure]
    simp only [List.set]
    rw [t_asg]
    have v2 : d2 opAdd (dVar 11) (dLst (dCons (d2 opAdd (dVar 10) (dC (.str "\nup pointer above next 5"))) (dCons (d2 opAdd (dVar 10) (dC (.str "\nup pointer above next 2\n"))) (dNil)))) [some (.scr ns), o1, o2, o3, o4, o5, o6, o7, o8, o9, some (.str gd17), some (.lst ((tx17.take 4).map D.str)), none] = pure (.lst ((tx17.take 6).map D.str)) := by kernel_rfl
    rw [v2, t_pure]
    simp only [List.set]
    rw [t_asg]
    have v3 : d2 opAdd (dVar 11) (dLst (dCons (d2 opAdd (dVar 10) (dC (.str " and\nup pointer above next 2"))) (dCons (d2 opAdd (d2 opAdd (dVar 10) (dC (.str "\n"))) (dVar 10)) (dNil)))) [some (.scr ns), o1, o2, o3, o4, o5, o6, o7, o8, o9, some (.str gd17), some (.lst ((tx17.take 6).map D.str)), none] = pure (.lst (tx17.map D.str)) := by kernel_rfl
    rw [v3, t_pure]
    simp only [List.set]
    rw [t_ret1]
    have hl8 : (tx17.map D.str).length ≤ 100 := by decide
    generalize tx17.map D.str = TX at *
    have hd8 : ∀ d ∈ ([.int 1, .int 2, .int 2, .int 1, .int 2, .int 3, .int 1, .int 2] : List D), Dep 63 d := by
      intro d hd
      simp only [List.mem_cons, List.not_mem_nil, or_false] at hd
      rcases hd with rfl | rfl | rfl | rfl | rfl | rfl | rfl | rfl <;> exact dep_int
    have hq : opEq false (.lst [.int 1, .int 2, .int 2, .int 1, .int 2, .int 3, .int 1, .int 2]) (.lst [.int 1, .int 2, .int 2, .int 1, .int 2, .int 3, .int 1, .int 2]) = pure (.bl true) := by
      rw [eq_of (dep_lst.mpr hd8) (dep_lst.mpr hd8)]
      rfl
    simp -implicitDefEqProofs [wipeE, hlc, hq]
    omega
  obtain ⟨a, st, e, rfl⟩ := key.get
  exact ⟨st, e⟩

end LW
set_option maxHeartbeats 2000000
namespace LW
open PySem L2 MP
open PySem.Spec PyProof.Rows
section
variable {P : Program} {w : World} {K : Frag} {mg : Str → Option Value} {base : Heap} {k : Nat}
abbrev N_p_is_among : List Str := ["words", "value"]
theorem nd_p_is_among : N_p_is_among.Nodup := by decide +kernel
theorem sc_p_is_among : FnScope N_p_is_among ["words", "value"] (defScope (top 13)) := ⟨rfl, rfl, rfl, nd_p_is_among, rfl, by decide +kernel, by decide +kernel⟩
theorem b_p_is_among {f : Addr} {cdv : Value} {A : Around} {outer : List PySem.Env} {s : Shared} {H : Hp} {E : XK} (hm_isinstance : mg "isinstance" = none) (hm_str : mg "str" = none)
    (c : Cok (CF P w K mg base N_p_is_among "is_among" (defScope (top 13)) f cdv A outer s H E) E k) : PDSs (CF P w K mg base N_p_is_among "is_among" (defScope (top 13)) f cdv A outer s H E) E (defBody (top 13)) p_is_among_b :=
  ds_one (dp_ret (pd_and (pd_isi (gl_ (by kernel_rfl)) hm_isinstance bb_isinstance (gl_ (by kernel_rfl)) hm_str bb_str (pv_ (by kernel_rfl)) (by decide) rfl (by decide) rfl (fun _ => rfl)) (pe_one (pd_cmp (od_in c.units5) (pv_ (by kernel_rfl)) (pv_ (by kernel_rfl)) rfl))))
theorem c_p_is_among (hm_isinstance : mg "isinstance" = none) (hm_str : mg "str" = none) (dn : Dn K mg "is_among" "is_among" (defArgs (top 13)) (defBody (top 13)) (defScope (top 13)) ["words", "value"]) : Cal P w K mg base (k + 1) "is_among" 2 (runDef 2 p_is_among_b) :=
  dn.cal sc_p_is_among rfl fun f cdv A outer s H E c => b_p_is_among hm_isinstance hm_str c
abbrev N_p_is_number : List Str := ["value"]
theorem nd_p_is_number : N_p_is_number.Nodup := by decide +kernel
theorem sc_p_is_number : FnScope N_p_is_number ["value"] (defScope (top 12)) := ⟨rfl, rfl, rfl, nd_p_is_number, rfl, by decide +kernel, by decide +kernel⟩
theorem b_p_is_number {f : Addr} {cdv : Value} {A : Around} {outer : List PySem.Env} {s : Shared} {H : Hp} {E : XK} (hm_isinstance : mg "isinstance" = none) (hm_bool : mg "bool" = none) (hm_int : mg "int" = none)
    (c : Cok (CF P w K mg base N_p_is_number "is_number" (defScope (top 12)) f cdv A outer s H E) E k) : PDSs (CF P w K mg base N_p_is_number "is_number" (defScope (top 12)) f cdv A outer s H E) E (defBody (top 12)) p_is_number_b :=
  ds_one (dp_ret (pd_and (pd_isi (gl_ (by kernel_rfl)) hm_isinstance bb_isinstance (gl_ (by kernel_rfl)) hm_int bb_int (pv_ (by kernel_rfl)) (by decide) rfl (by decide) rfl (fun _ => rfl)) (pe_one (pd_not (pd_isi (gl_ (by kernel_rfl)) hm_isinstance bb_isinstance (gl_ (by kernel_rfl)) hm_bool bb_bool (pv_ (by kernel_rfl)) (by decide) rfl (by decide) rfl (fun _ => rfl))))))
theorem c_p_is_number (hm_isinstance : mg "isinstance" = none) (hm_bool : mg "bool" = none) (hm_int : mg "int" = none) (dn : Dn K mg "is_number" "is_number" (defArgs (top 12)) (defBody (top 12)) (defScope (top 12)) ["value"]) : Cal P w K mg base (k + 1) "is_number" 1 (runDef 1 p_is_number_b) :=
  dn.cal sc_p_is_number rfl fun f cdv A outer s H E c => b_p_is_number hm_isinstance hm_bool hm_int c
abbrev N_p_is_point : List Str := ["value"]
theorem nd_p_is_point : N_p_is_point.Nodup := by decide +kernel
theorem sc_p_is_point : FnScope N_p_is_point ["value"] (defScope (top 14)) := ⟨rfl, rfl, rfl, nd_p_is_point, rfl, by decide +kernel, by decide +kernel⟩
theorem b_p_is_point {f : Addr} {cdv : Value} {A : Around} {outer : List PySem.Env} {s : Shared} {H : Hp} {E : XK} (hm_len : mg "len" = none) (hm_isinstance : mg "isinstance" = none) (hm_tuple : mg "tuple" = none) (gc_THINGS : GCon K mg "THINGS" g_THINGS) (h_p_is_number : Cal P w K mg base k "is_number" 1 p_is_number) (h_p_is_among : Cal P w K mg base k "is_among" 2 p_is_among)
    (c : Cok (CF P w K mg base N_p_is_point "is_point" (defScope (top 14)) f cdv A outer s H E) E k) : PDSs (CF P w K mg base N_p_is_point "is_point" (defScope (top 14)) f cdv A outer s H E) E (defBody (top 14)) p_is_point_b :=
  ds_cons (dp_if (PW.pt (pwb_or (pb_not (pb_val (pd_isi (gl_ (by kernel_rfl)) hm_isinstance bb_isinstance (gl_ (by kernel_rfl)) hm_tuple bb_tuple (pv_ (by kernel_rfl)) (by decide) rfl (by decide) rfl (fun _ => rfl)) (fun _ => rfl))) (pw_or1 (pb_cmp (od_eq c.units) (pv_ (by kernel_rfl)) (pd_tup (pl_nil)) rfl)))) (ds_one (dp_ret (pd_bl))) (ds_nil)) <|
  ds_cons (dp_if (pb_cmp (od_eq c.units) (pd_ix (id_ix c.units1) (pv_ (by kernel_rfl)) (pd_int) (fun _ _ => rfl)) (pd_str) rfl) (ds_one (dp_ret (pd_cmp (od_eq c.units) (pd_callB cd_len (gl_ (by kernel_rfl)) hm_len bb_len (pl_cons (pv_ (by kernel_rfl)) (pl_nil) rfl) (by decide) rfl rfl rfl) (pd_int) rfl))) (ds_nil)) <|
  ds_one (dp_ret (pd_and (pd_cmp (od_eq c.units) (pd_callB cd_len (gl_ (by kernel_rfl)) hm_len bb_len (pl_cons (pv_ (by kernel_rfl)) (pl_nil) rfl) (by decide) rfl rfl rfl) (pd_int) rfl) (pd_and (pd_callU c h_p_is_among (Nat.le_refl _) (gl_ (by kernel_rfl)) (pl_cons (pd_glob (gl_ (by kernel_rfl)) (gc_THINGS)) (pl_cons (pd_ix (id_ix c.units1) (pv_ (by kernel_rfl)) (pd_int) (fun _ _ => rfl)) (pl_nil) rfl) rfl) rfl rfl rfl) (pd_and (pd_callU c h_p_is_number (Nat.le_refl _) (gl_ (by kernel_rfl)) (pl_cons (pd_ix (id_ix c.units1) (pv_ (by kernel_rfl)) (pd_int) (fun _ _ => rfl)) (pl_nil) rfl) rfl rfl rfl) (pe_one (pd_chain od_le od_le (pd_int) (pd_ix (id_ix c.units1) (pv_ (by kernel_rfl)) (pd_int) (fun _ _ => rfl)) (pd_int) rfl))))))
theorem c_p_is_point (hm_len : mg "len" = none) (hm_isinstance : mg "isinstance" = none) (hm_tuple : mg "tuple" = none) (gc_THINGS : GCon K mg "THINGS" g_THINGS) (h_p_is_number : Cal P w K mg base k "is_number" 1 p_is_number) (h_p_is_among : Cal P w K mg base k "is_among" 2 p_is_among) (dn : Dn K mg "is_point" "is_point" (defArgs (top 14)) (defBody (top 14)) (defScope (top 14)) ["value"]) : Cal P w K mg base (k + 1) "is_point" 1 (runDef 1 p_is_point_b) :=
  dn.cal sc_p_is_point rfl fun f cdv A outer s H E c => b_p_is_point hm_len hm_isinstance hm_tuple gc_THINGS h_p_is_number h_p_is_among c
abbrev N_p_is_comparison : List Str := ["value"]
theorem nd_p_is_comparison : N_p_is_comparison.Nodup := by decide +kernel
theorem sc_p_is_comparison : FnScope N_p_is_comparison ["value"] (defScope (top 15)) := ⟨rfl, rfl, rfl, nd_p_is_comparison, rfl, by decide +kernel, by decide +kernel⟩
theorem b_p_is_comparison {f : Addr} {cdv : Value} {A : Around} {outer : List PySem.Env} {s : Shared} {H : Hp} {E : XK} (hm_list : mg "list" = none) (hm_len : mg "len" = none) (hm_isinstance : mg "isinstance" = none) (hm_tuple : mg "tuple" = none) (gc_TURNED : KDs P w K mg "TURNED" g_TURNED) (h_p_is_point : Cal P w K mg base k "is_point" 1 p_is_point) (h_p_is_among : Cal P w K mg base k "is_among" 2 p_is_among)
    (c : Cok (CF P w K mg base N_p_is_comparison "is_comparison" (defScope (top 15)) f cdv A outer s H E) E k) : PDSs (CF P w K mg base N_p_is_comparison "is_comparison" (defScope (top 15)) f cdv A outer s H E) E (defBody (top 15)) p_is_comparison_b :=
  ds_cons (dp_if (PW.pt (pwb_or (pb_not (pb_val (pd_isi (gl_ (by kernel_rfl)) hm_isinstance bb_isinstance (gl_ (by kernel_rfl)) hm_tuple bb_tuple (pv_ (by kernel_rfl)) (by decide) rfl (by decide) rfl (fun _ => rfl)) (fun _ => rfl))) (pwb_or (pb_cmp (od_ne c.units) (pd_callB cd_len (gl_ (by kernel_rfl)) hm_len bb_len (pl_cons (pv_ (by kernel_rfl)) (pl_nil) rfl) (by decide) rfl rfl rfl) (pd_int) rfl) (pw_or1 (pb_not (pb_val (pd_callU c h_p_is_among (Nat.le_refl _) (gl_ (by kernel_rfl)) (pl_cons (pd_Klist (gl_ (by kernel_rfl)) hm_list bb_list rfl (gl_ (by kernel_rfl)) gc_TURNED (by decide) rfl rfl) (pl_cons (pd_ix (id_ix c.units1) (pv_ (by kernel_rfl)) (pd_int) (fun _ _ => rfl)) (pl_nil) rfl) rfl) rfl rfl rfl) (fun _ => rfl))))))) (ds_one (dp_ret (pd_bl))) (ds_nil)) <|
  ds_one (dp_ret (pd_and (pd_callU c h_p_is_point (Nat.le_refl _) (gl_ (by kernel_rfl)) (pl_cons (pd_ix (id_ix c.units1) (pv_ (by kernel_rfl)) (pd_int) (fun _ _ => rfl)) (pl_nil) rfl) rfl rfl rfl) (pe_one (pd_callU c h_p_is_point (Nat.le_refl _) (gl_ (by kernel_rfl)) (pl_cons (pd_ix (id_ix c.units1) (pv_ (by kernel_rfl)) (pd_int) (fun _ _ => rfl)) (pl_nil) rfl) rfl rfl rfl))))
theorem c_p_is_comparison (hm_list : mg "list" = none) (hm_len : mg "len" = none) (hm_isinstance : mg "isinstance" = none) (hm_tuple : mg "tuple" = none) (gc_TURNED : KDs P w K mg "TURNED" g_TURNED) (h_p_is_point : Cal P w K mg base k "is_point" 1 p_is_point) (h_p_is_among : Cal P w K mg base k "is_among" 2 p_is_among) (dn : Dn K mg "is_comparison" "is_comparison" (defArgs (top 15)) (defBody (top 15)) (defScope (top 15)) ["value"]) : Cal P w K mg base (k + 1) "is_comparison" 1 (runDef 1 p_is_comparison_b) :=
  dn.cal sc_p_is_comparison rfl fun f cdv A outer s H E c => b_p_is_comparison hm_list hm_len hm_isinstance hm_tuple gc_TURNED h_p_is_point h_p_is_among c
abbrev N_p_is_good_condition : List Str := ["value", "part"]
theorem nd_p_is_good_condition : N_p_is_good_condition.Nodup := by decide +kernel
theorem sc_p_is_good_condition : FnScope N_p_is_good_condition ["value"] (defScope (top 16)) := ⟨rfl, rfl, rfl, nd_p_is_good_condition, rfl, by decide +kernel, by decide +kernel⟩
theorem b_p_is_good_condition {f : Addr} {cdv : Value} {A : Around} {outer : List PySem.Env} {s : Shared} {H : Hp} {E : XK} (hm_all : mg "all" = none) (hm_len : mg "len" = none) (hm_isinstance : mg "isinstance" = none) (hm_tuple : mg "tuple" = none) (gc_JOINTS : GCon K mg "JOINTS" g_JOINTS) (h_p_is_comparison : Cal P w K mg base k "is_comparison" 1 p_is_comparison) (h_p_is_among : Cal P w K mg base k "is_among" 2 p_is_among)
    (c : Cok (CF P w K mg base N_p_is_good_condition "is_good_condition" (defScope (top 16)) f cdv A outer s H E) E k) : PDSs (CF P w K mg base N_p_is_good_condition "is_good_condition" (defScope (top 16)) f cdv A outer s H E) E (defBody (top 16)) p_is_good_condition_b :=
  ds_cons (dp_if (PW.pt (pwb_or (pb_not (pb_val (pd_isi (gl_ (by kernel_rfl)) hm_isinstance bb_isinstance (gl_ (by kernel_rfl)) hm_tuple bb_tuple (pv_ (by kernel_rfl)) (by decide) rfl (by decide) rfl (fun _ => rfl)) (fun _ => rfl))) (pw_or1 (pb_cmp (od_notIn c.units5) (pd_callB cd_len (gl_ (by kernel_rfl)) hm_len bb_len (pl_cons (pv_ (by kernel_rfl)) (pl_nil) rfl) (by decide) rfl rfl rfl) (pd_tup (pl_cons (pd_int) (pl_cons (pd_int) (pl_nil) rfl) rfl)) rfl)))) (ds_one (dp_ret (pd_bl))) (ds_nil)) <|
  ds_cons (dp_if (pb_val (pd_callU c h_p_is_among (Nat.le_refl _) (gl_ (by kernel_rfl)) (pl_cons (pd_glob (gl_ (by kernel_rfl)) (gc_JOINTS)) (pl_cons (pd_ix (id_ix c.units1) (pv_ (by kernel_rfl)) (pd_int) (fun _ _ => rfl)) (pl_nil) rfl) rfl) rfl rfl rfl) (fun _ => rfl)) (ds_one (dp_ret (pd_callB (cd_all rfl) (gl_ (by kernel_rfl)) hm_all bb_all (pl_cons (pd_lc (own := [(("part" : Str), 1)]) (t := .nm 1) rfl nd_p_is_good_condition (di_val (pd_slice (pv_ (by kernel_rfl)) (pdo_some (pd_int)) (pdo_none))) (blkOk_by (by kernel_rfl)) (fun _ _ _ _ _ => tg_name nd_p_is_good_condition (by kernel_rfl) (.inl (by kernel_rfl)) (.inr (by kernel_rfl))) (fun _ _ _ _ _ => pts_nilD) (fun _ _ _ _ _ => pd_callU c.blk h_p_is_comparison (Nat.le_refl _) (gl_ (by kernel_rfl)) (pl_cons (pv_ (by kernel_rfl)) (pl_nil) rfl) rfl rfl rfl) (fun _ => rfl) (by decide)) (pl_nil) rfl) (by decide) rfl rfl rfl))) (ds_nil)) <|
  ds_one (dp_ret (pd_callU c h_p_is_comparison (Nat.le_refl _) (gl_ (by kernel_rfl)) (pl_cons (pv_ (by kernel_rfl)) (pl_nil) rfl) rfl rfl rfl))
theorem c_p_is_good_condition (hm_all : mg "all" = none) (hm_len : mg "len" = none) (hm_isinstance : mg "isinstance" = none) (hm_tuple : mg "tuple" = none) (gc_JOINTS : GCon K mg "JOINTS" g_JOINTS) (h_p_is_comparison : Cal P w K mg base k "is_comparison" 1 p_is_comparison) (h_p_is_among : Cal P w K mg base k "is_among" 2 p_is_among) (dn : Dn K mg "is_good_condition" "is_good_condition" (defArgs (top 16)) (defBody (top 16)) (defScope (top 16)) ["value"]) : Cal P w K mg base (k + 1) "is_good_condition" 1 (runDef 2 p_is_good_condition_b) :=
  dn.cal sc_p_is_good_condition rfl fun f cdv A outer s H E c => b_p_is_good_condition hm_all hm_len hm_isinstance hm_tuple gc_JOINTS h_p_is_comparison h_p_is_among c
abbrev N_p_is_good_rule : List Str := ["value", "part"]
theorem nd_p_is_good_rule : N_p_is_good_rule.Nodup := by decide +kernel
theorem sc_p_is_good_rule : FnScope N_p_is_good_rule ["value"] (defScope (top 17)) := ⟨rfl, rfl, rfl, nd_p_is_good_rule, rfl, by decide +kernel, by decide +kernel⟩
theorem b_p_is_good_rule {f : Addr} {cdv : Value} {A : Around} {outer : List PySem.Env} {s : Shared} {H : Hp} {E : XK} (hm_all : mg "all" = none) (hm_len : mg "len" = none) (hm_isinstance : mg "isinstance" = none) (hm_tuple : mg "tuple" = none) (h_p_is_good_condition : Cal P w K mg base k "is_good_condition" 1 p_is_good_condition)
    (c : Cok (CF P w K mg base N_p_is_good_rule "is_good_rule" (defScope (top 17)) f cdv A outer s H E) E k) : PDSs (CF P w K mg base N_p_is_good_rule "is_good_rule" (defScope (top 17)) f cdv A outer s H E) E (defBody (top 17)) p_is_good_rule_b :=
  ds_one (dp_ret (pd_and (pd_isi (gl_ (by kernel_rfl)) hm_isinstance bb_isinstance (gl_ (by kernel_rfl)) hm_tuple bb_tuple (pv_ (by kernel_rfl)) (by decide) rfl (by decide) rfl (fun _ => rfl)) (pd_and (pd_cmp (od_eq c.units) (pd_callB cd_len (gl_ (by kernel_rfl)) hm_len bb_len (pl_cons (pv_ (by kernel_rfl)) (pl_nil) rfl) (by decide) rfl rfl rfl) (pd_int) rfl) (pe_one (pd_callB (cd_all rfl) (gl_ (by kernel_rfl)) hm_all bb_all (pl_cons (pd_lc (own := [(("part" : Str), 1)]) (t := .nm 1) rfl nd_p_is_good_rule (di_val (pv_ (by kernel_rfl))) (blkOk_by (by kernel_rfl)) (fun _ _ _ _ _ => tg_name nd_p_is_good_rule (by kernel_rfl) (.inl (by kernel_rfl)) (.inr (by kernel_rfl))) (fun _ _ _ _ _ => pts_nilD) (fun _ _ _ _ _ => pd_callU c.blk h_p_is_good_condition (Nat.le_refl _) (gl_ (by kernel_rfl)) (pl_cons (pv_ (by kernel_rfl)) (pl_nil) rfl) rfl rfl rfl) (fun _ => rfl) (by decide)) (pl_nil) rfl) (by decide) rfl rfl rfl)))))
theorem c_p_is_good_rule (hm_all : mg "all" = none) (hm_len : mg "len" = none) (hm_isinstance : mg "isinstance" = none) (hm_tuple : mg "tuple" = none) (h_p_is_good_condition : Cal P w K mg base k "is_good_condition" 1 p_is_good_condition) (dn : Dn K mg "is_good_rule" "is_good_rule" (defArgs (top 17)) (defBody (top 17)) (defScope (top 17)) ["value"]) : Cal P w K mg base (k + 1) "is_good_rule" 1 (runDef 2 p_is_good_rule_b) :=
  dn.cal sc_p_is_good_rule rfl fun f cdv A outer s H E c => b_p_is_good_rule hm_all hm_len hm_isinstance hm_tuple h_p_is_good_condition c
abbrev N_p_Rule_init : List Str := ["self", "down", "up"]
theorem nd_p_Rule_init : N_p_Rule_init.Nodup := by decide +kernel
theorem sc_p_Rule_init : FnScope N_p_Rule_init ["self", "down", "up"] (defScope (memS (top 91) 1)) := ⟨rfl, rfl, rfl, nd_p_Rule_init, rfl, by decide +kernel, by decide +kernel⟩
theorem b_p_Rule_init {j : Nat} {f : Addr} {cdv : Value} {A : Around} {outer : List PySem.Env} {s : Shared} {H : Hp} {E : XK} (hj : j + 3 ≤ k) (hF_Rule : ClsF K "Rule") (hN_Rule_base : NoA K "Rule" "base") (h_p_is_good_rule : Cal P w K mg base k "is_good_rule" 1 p_is_good_rule)
    (c : Cok (CF P w K mg base N_p_Rule_init "Rule.__init__" (defScope (memS (top 91) 1)) f cdv A outer s H E) E k) : PDSs (CF P w K mg base N_p_Rule_init "Rule.__init__" (defScope (memS (top 91) 1)) f cdv A outer s H E) E (defBody (memS (top 91) 1)) p_Rule_init_b :=
  ds_cons (dp_if (pb_not (pb_val (pd_callU c h_p_is_good_rule (Nat.le_refl _) (gl_ (by kernel_rfl)) (pl_cons (pd_tup (pl_cons (pv_ (by kernel_rfl)) (pl_cons (pv_ (by kernel_rfl)) (pl_nil) rfl) rfl)) (pl_nil) rfl) rfl rfl rfl) (fun _ => rfl))) (ds_one (ps_never)) (ds_nil)) <|
  ds_one (dp_fld hF_Rule hN_Rule_base (pv_ (by kernel_rfl)) (pd_tup (pl_cons (pv_ (by kernel_rfl)) (pl_cons (pv_ (by kernel_rfl)) (pl_nil) rfl) rfl)) rfl)
theorem c_p_Rule_init {j : Nat} {f : Addr} (hj : j + 3 ≤ k) (hF_Rule : ClsF K "Rule") (hN_Rule_base : NoA K "Rule" "base") (h_p_is_good_rule : Cal P w K mg base k "is_good_rule" 1 p_is_good_rule) (dn : DnA K f "__init__" "Rule.__init__" (defArgs (memS (top 91) 1)) (defBody (memS (top 91) 1)) (defScope (memS (top 91) 1)) ["self", "down", "up"]) : FnR P w K mg base (L2.CX P w) (k + 1) f (spD K 3 (runDef 3 p_Rule_init_b)) :=
  dn.fnR sc_p_Rule_init rfl fun f cdv A outer s H E c => b_p_Rule_init hj hF_Rule hN_Rule_base h_p_is_good_rule c
abbrev N_p_point_in : List Str := ["words"]
theorem nd_p_point_in : N_p_point_in.Nodup := by decide +kernel
theorem sc_p_point_in : FnScope N_p_point_in ["words"] (defScope (top 80)) := ⟨rfl, rfl, rfl, nd_p_point_in, rfl, by decide +kernel, by decide +kernel⟩
theorem b_p_point_in {f : Addr} {cdv : Value} {A : Around} {outer : List PySem.Env} {s : Shared} {H : Hp} {E : XK} (hm_len : mg "len" = none) (hm_int : mg "int" = none) (gc_FIGURES : GCon K mg "FIGURES" g_FIGURES)
    (c : Cok (CF P w K mg base N_p_point_in "point_in" (defScope (top 80)) f cdv A outer s H E) E k) : PDSs (CF P w K mg base N_p_point_in "point_in" (defScope (top 80)) f cdv A outer s H E) E (defBody (top 80)) p_point_in_b :=
  ds_cons (dp_if (PW.pt (pwb_and (pb_cmp (od_eq c.units) (pd_callB cd_len (gl_ (by kernel_rfl)) hm_len bb_len (pl_cons (pv_ (by kernel_rfl)) (pl_nil) rfl) (by decide) rfl rfl rfl) (pd_int) rfl) (pwb_and (pb_cmp (od_eq c.units) (pd_callB cd_len (gl_ (by kernel_rfl)) hm_len bb_len (pl_cons (pd_ix (id_ix c.units1) (pv_ (by kernel_rfl)) (pd_int) (fun _ _ => rfl)) (pl_nil) rfl) (by decide) rfl rfl rfl) (pd_int) rfl) (pw_and1 (pb_cmp (od_in c.units5) (pd_ix (id_ix c.units1) (pv_ (by kernel_rfl)) (pd_int) (fun _ _ => rfl)) (pd_glob (gl_ (by kernel_rfl)) (gc_FIGURES)) rfl))))) (ds_one (dp_ret (pd_tup (pl_cons (pd_ix (id_ix c.units1) (pv_ (by kernel_rfl)) (pd_int) (fun _ _ => rfl)) (pl_cons (pd_callTy cd_intS (gl_ (by kernel_rfl)) hm_int bb_int (pl_cons (pd_ix (id_ix c.units1) (pv_ (by kernel_rfl)) (pd_int) (fun _ _ => rfl)) (pl_nil) rfl) (by decide) rfl rfl rfl) (pl_nil) rfl) rfl)))) (ds_nil)) <|
  ds_one (dp_ret (pv_ (by kernel_rfl)))
theorem c_p_point_in (hm_len : mg "len" = none) (hm_int : mg "int" = none) (gc_FIGURES : GCon K mg "FIGURES" g_FIGURES) (dn : Dn K mg "point_in" "point_in" (defArgs (top 80)) (defBody (top 80)) (defScope (top 80)) ["words"]) : Cal P w K mg base (k + 1) "point_in" 1 (runDef 1 p_point_in_b) :=
  dn.cal sc_p_point_in rfl fun f cdv A outer s H E c => b_p_point_in hm_len hm_int gc_FIGURES c
abbrev N_p_comparison_in : List Str := ["words", "first", "last", "found"]
theorem nd_p_comparison_in : N_p_comparison_in.Nodup := by decide +kernel
theorem sc_p_comparison_in : FnScope N_p_comparison_in ["words"] (defScope (top 81)) := ⟨rfl, rfl, rfl, nd_p_comparison_in, rfl, by decide +kernel, by decide +kernel⟩
theorem b_p_comparison_in {f : Addr} {cdv : Value} {A : Around} {outer : List PySem.Env} {s : Shared} {H : Hp} {E : XK} (hm_tuple : mg "tuple" = none) (h_p_is_comparison : Cal P w K mg base k "is_comparison" 1 p_is_comparison) (h_p_point_in : Cal P w K mg base k "point_in" 1 p_point_in)
    (c : Cok (CF P w K mg base N_p_comparison_in "comparison_in" (defScope (top 81)) f cdv A outer s H E) E k) : PDSs (CF P w K mg base N_p_comparison_in "comparison_in" (defScope (top 81)) f cdv A outer s H E) E (defBody (top 81)) p_comparison_in_b :=
  ds_cons (dp_for own_cf rfl (di_val (pd_tup (pl_cons (pd_int) (pl_cons (pd_int) (pl_nil) rfl) rfl))) (dg_of (tg_name nd_p_comparison_in (by kernel_rfl) (.inl (by kernel_rfl)) (.inr (by kernel_rfl)))) (ds_one (dp_for own_cf rfl (di_val (pd_tup (pl_cons (pd_bin od_add (pv_ (by kernel_rfl)) (pd_int)) (pl_cons (pd_bin od_add (pv_ (by kernel_rfl)) (pd_int)) (pl_nil) rfl) rfl))) (dg_of (tg_name nd_p_comparison_in (by kernel_rfl) (.inl (by kernel_rfl)) (.inr (by kernel_rfl)))) (ds_cons (dp_set nd_p_comparison_in (by kernel_rfl) (.inl (by kernel_rfl)) (pd_tup (pl_cons (pd_meth plain_str slot_join ty_join md_join (pd_str) (pl_cons (pd_slice (pv_ (by kernel_rfl)) (pdo_some (pv_ (by kernel_rfl))) (pdo_some (pv_ (by kernel_rfl)))) (pl_nil) rfl) rfl rfl rfl rfl rfl) (pl_cons (pd_callU c h_p_point_in (Nat.le_refl _) (gl_ (by kernel_rfl)) (pl_cons (pd_callTy cd_tuple (gl_ (by kernel_rfl)) hm_tuple bb_tuple (pl_cons (pd_slice (pv_ (by kernel_rfl)) (pdo_none) (pdo_some (pv_ (by kernel_rfl)))) (pl_nil) rfl) (by decide) rfl rfl rfl) (pl_nil) rfl) rfl rfl rfl) (pl_cons (pd_callU c h_p_point_in (Nat.le_refl _) (gl_ (by kernel_rfl)) (pl_cons (pd_callTy cd_tuple (gl_ (by kernel_rfl)) hm_tuple bb_tuple (pl_cons (pd_slice (pv_ (by kernel_rfl)) (pdo_some (pv_ (by kernel_rfl))) (pdo_none)) (pl_nil) rfl) (by decide) rfl rfl rfl) (pl_nil) rfl) rfl rfl rfl) (pl_nil) rfl) rfl) rfl)) rfl (.inl rfl)) <|
  ds_one (dp_if (pb_val (pd_callU c h_p_is_comparison (Nat.le_refl _) (gl_ (by kernel_rfl)) (pl_cons (pv_ (by kernel_rfl)) (pl_nil) rfl) rfl rfl rfl) (fun _ => rfl)) (ds_one (dp_ret (pv_ (by kernel_rfl)))) (ds_nil))) (fun _ => rfl))) (fun _ => rfl)) <|
  ds_one (dp_ret (pd_non))
theorem c_p_comparison_in (hm_tuple : mg "tuple" = none) (h_p_is_comparison : Cal P w K mg base k "is_comparison" 1 p_is_comparison) (h_p_point_in : Cal P w K mg base k "point_in" 1 p_point_in) (dn : Dn K mg "comparison_in" "comparison_in" (defArgs (top 81)) (defBody (top 81)) (defScope (top 81)) ["words"]) : Cal P w K mg base (k + 1) "comparison_in" 1 (runDef 4 p_comparison_in_b) :=
  dn.cal sc_p_comparison_in rfl fun f cdv A outer s H E c => b_p_comparison_in hm_tuple h_p_is_comparison h_p_point_in c
abbrev N_p_split_at : List Str := ["words", "joint", "found", "word"]
theorem nd_p_split_at : N_p_split_at.Nodup := by decide +kernel
theorem sc_p_split_at : FnScope N_p_split_at ["words", "joint"] (defScope (top 82)) := ⟨rfl, rfl, rfl, nd_p_split_at, rfl, by decide +kernel, by decide +kernel⟩
theorem b_p_split_at {f : Addr} {cdv : Value} {A : Around} {outer : List PySem.Env} {s : Shared} {H : Hp} {E : XK} 
    (c : Cok (CF P w K mg base N_p_split_at "split_at" (defScope (top 82)) f cdv A outer s H E) E k) : PDSs (CF P w K mg base N_p_split_at "split_at" (defScope (top 82)) f cdv A outer s H E) E (defBody (top 82)) p_split_at_b :=
  ds_cons (dp_set nd_p_split_at (by kernel_rfl) (.inl (by kernel_rfl)) (pd_lst (pl_cons (pd_lst (pl_nil)) (pl_nil) rfl)) rfl (.inl rfl)) <|
  ds_cons (dp_for own_cf rfl (di_val (pv_ (by kernel_rfl))) (dg_of (tg_name nd_p_split_at (by kernel_rfl) (.inl (by kernel_rfl)) (.inr (by kernel_rfl)))) (ds_one (dp_set nd_p_split_at (by kernel_rfl) (.inl (by kernel_rfl)) (pd_if (pb_cmp (od_eq c.units) (pv_ (by kernel_rfl)) (pv_ (by kernel_rfl)) rfl) (pd_bin od_add (pv_ (by kernel_rfl)) (pd_lst (pl_cons (pd_lst (pl_nil)) (pl_nil) rfl))) (pd_bin od_add (pd_slice (pv_ (by kernel_rfl)) (pdo_none) (pdo_some (pd_un ud_neg (pd_int)))) (pd_lst (pl_cons (pd_bin od_add (pd_ix (id_ix c.units1) (pv_ (by kernel_rfl)) (pd_un ud_neg (pd_int)) (fun _ _ => rfl)) (pd_lst (pl_cons (pv_ (by kernel_rfl)) (pl_nil) rfl))) (pl_nil) rfl)))) rfl (.inl rfl))) (fun _ => rfl)) <|
  ds_one (dp_ret (pv_ (by kernel_rfl)))
theorem c_p_split_at  (dn : Dn K mg "split_at" "split_at" (defArgs (top 82)) (defBody (top 82)) (defScope (top 82)) ["words", "joint"]) : Cal P w K mg base (k + 1) "split_at" 2 (runDef 4 p_split_at_b) :=
  dn.cal sc_p_split_at rfl fun f cdv A outer s H E c => b_p_split_at  c
abbrev N_p_joined : List Str := ["joint", "parts"]
theorem nd_p_joined : N_p_joined.Nodup := by decide +kernel
theorem sc_p_joined : FnScope N_p_joined ["joint", "parts"] (defScope (top 22)) := ⟨rfl, rfl, rfl, nd_p_joined, rfl, by decide +kernel, by decide +kernel⟩
theorem b_p_joined {f : Addr} {cdv : Value} {A : Around} {outer : List PySem.Env} {s : Shared} {H : Hp} {E : XK} (hm_len : mg "len" = none) (hm_tuple : mg "tuple" = none)
    (c : Cok (CF P w K mg base N_p_joined "joined" (defScope (top 22)) f cdv A outer s H E) E k) : PDSs (CF P w K mg base N_p_joined "joined" (defScope (top 22)) f cdv A outer s H E) E (defBody (top 22)) p_joined_b :=
  ds_one (dp_ret (pd_if (pb_cmp od_gt (pd_callB cd_len (gl_ (by kernel_rfl)) hm_len bb_len (pl_cons (pv_ (by kernel_rfl)) (pl_nil) rfl) (by decide) rfl rfl rfl) (pd_int) rfl) (pd_bin od_add (pd_tup (pl_cons (pv_ (by kernel_rfl)) (pl_nil) rfl)) (pd_callTy cd_tuple (gl_ (by kernel_rfl)) hm_tuple bb_tuple (pl_cons (pv_ (by kernel_rfl)) (pl_nil) rfl) (by decide) rfl rfl rfl)) (pd_ix (id_ix c.units1) (pv_ (by kernel_rfl)) (pd_int) (fun _ _ => rfl))))
theorem c_p_joined (hm_len : mg "len" = none) (hm_tuple : mg "tuple" = none) (dn : Dn K mg "joined" "joined" (defArgs (top 22)) (defBody (top 22)) (defScope (top 22)) ["joint", "parts"]) : Cal P w K mg base (k + 1) "joined" 2 (runDef 2 p_joined_b) :=
  dn.cal sc_p_joined rfl fun f cdv A outer s H E c => b_p_joined hm_len hm_tuple c
abbrev N_p_joint_of : List Str := ["condition"]
theorem nd_p_joint_of : N_p_joint_of.Nodup := by decide +kernel
theorem sc_p_joint_of : FnScope N_p_joint_of ["condition"] (defScope (top 23)) := ⟨rfl, rfl, rfl, nd_p_joint_of, rfl, by decide +kernel, by decide +kernel⟩
theorem b_p_joint_of {f : Addr} {cdv : Value} {A : Around} {outer : List PySem.Env} {s : Shared} {H : Hp} {E : XK} (gc_JOINTS : GCon K mg "JOINTS" g_JOINTS)
    (c : Cok (CF P w K mg base N_p_joint_of "joint_of" (defScope (top 23)) f cdv A outer s H E) E k) : PDSs (CF P w K mg base N_p_joint_of "joint_of" (defScope (top 23)) f cdv A outer s H E) E (defBody (top 23)) p_joint_of_b :=
  ds_one (dp_ret (pd_if (pb_cmp (od_in c.units5) (pd_ix (id_ix c.units1) (pv_ (by kernel_rfl)) (pd_int) (fun _ _ => rfl)) (pd_glob (gl_ (by kernel_rfl)) (gc_JOINTS)) rfl) (pd_ix (id_ix c.units1) (pv_ (by kernel_rfl)) (pd_int) (fun _ _ => rfl)) (pd_non)))
theorem c_p_joint_of (gc_JOINTS : GCon K mg "JOINTS" g_JOINTS) (dn : Dn K mg "joint_of" "joint_of" (defArgs (top 23)) (defBody (top 23)) (defScope (top 23)) ["condition"]) : Cal P w K mg base (k + 1) "joint_of" 1 (runDef 1 p_joint_of_b) :=
  dn.cal sc_p_joint_of rfl fun f cdv A outer s H E c => b_p_joint_of gc_JOINTS c
abbrev N_p_point_words : List Str := ["point", "part"]
theorem nd_p_point_words : N_p_point_words.Nodup := by decide +kernel
theorem sc_p_point_words : FnScope N_p_point_words ["point"] (defScope (top 76)) := ⟨rfl, rfl, rfl, nd_p_point_words, rfl, by decide +kernel, by decide +kernel⟩
theorem b_p_point_words {f : Addr} {cdv : Value} {A : Around} {outer : List PySem.Env} {s : Shared} {H : Hp} {E : XK} (hm_str : mg "str" = none)
    (c : Cok (CF P w K mg base N_p_point_words "point_words" (defScope (top 76)) f cdv A outer s H E) E k) : PDSs (CF P w K mg base N_p_point_words "point_words" (defScope (top 76)) f cdv A outer s H E) E (defBody (top 76)) p_point_words_b :=
  ds_one (dp_ret (pd_lc (own := [(("part" : Str), 1)]) (t := .nm 1) rfl nd_p_point_words (di_val (pv_ (by kernel_rfl))) (blkOk_by (by kernel_rfl)) (fun _ _ _ _ _ => tg_name nd_p_point_words (by kernel_rfl) (.inl (by kernel_rfl)) (.inr (by kernel_rfl))) (fun _ _ _ _ _ => pts_nilD) (fun _ _ _ _ _ => pd_callTy cd_str (gl_ (by kernel_rfl)) hm_str bb_str (pl_cons (pv_ (by kernel_rfl)) (pl_nil) rfl) (by decide) rfl rfl rfl) (fun _ => rfl) (by decide)))
theorem c_p_point_words (hm_str : mg "str" = none) (dn : Dn K mg "point_words" "point_words" (defArgs (top 76)) (defBody (top 76)) (defScope (top 76)) ["point"]) : Cal P w K mg base (k + 1) "point_words" 1 (runDef 2 p_point_words_b) :=
  dn.cal sc_p_point_words rfl fun f cdv A outer s H E c => b_p_point_words hm_str c
abbrev N_p_comparison_words : List Str := ["comparison", "word", "one", "other"]
theorem nd_p_comparison_words : N_p_comparison_words.Nodup := by decide +kernel
theorem sc_p_comparison_words : FnScope N_p_comparison_words ["comparison"] (defScope (top 77)) := ⟨rfl, rfl, rfl, nd_p_comparison_words, rfl, by decide +kernel, by decide +kernel⟩
theorem b_p_comparison_words {f : Addr} {cdv : Value} {A : Around} {outer : List PySem.Env} {s : Shared} {H : Hp} {E : XK} (h_p_point_words : Cal P w K mg base k "point_words" 1 p_point_words)
    (c : Cok (CF P w K mg base N_p_comparison_words "comparison_words" (defScope (top 77)) f cdv A outer s H E) E k) : PDSs (CF P w K mg base N_p_comparison_words "comparison_words" (defScope (top 77)) f cdv A outer s H E) E (defBody (top 77)) p_comparison_words_b :=
  ds_cons (dp_asg (pv_ (by kernel_rfl)) (dg_of (tg_tup rfl (tgs_cons (tg_name nd_p_comparison_words (by kernel_rfl) (.inl (by kernel_rfl)) (.inr (by kernel_rfl))) (tgs_cons (tg_name nd_p_comparison_words (by kernel_rfl) (.inl (by kernel_rfl)) (.inr (by kernel_rfl))) (tgs_cons (tg_name nd_p_comparison_words (by kernel_rfl) (.inl (by kernel_rfl)) (.inr (by kernel_rfl))) (tgs_nil) (by kernel_rfl)) (by kernel_rfl)) (by kernel_rfl)) (by kernel_rfl) (by kernel_rfl))) rfl rfl rfl) <|
  ds_one (dp_ret (pd_bin od_add (pd_bin od_add (pd_callU c h_p_point_words (Nat.le_refl _) (gl_ (by kernel_rfl)) (pl_cons (pv_ (by kernel_rfl)) (pl_nil) rfl) rfl rfl rfl) (pd_lst (pl_cons (pv_ (by kernel_rfl)) (pl_nil) rfl))) (pd_callU c h_p_point_words (Nat.le_refl _) (gl_ (by kernel_rfl)) (pl_cons (pv_ (by kernel_rfl)) (pl_nil) rfl) rfl rfl rfl)))
theorem c_p_comparison_words (h_p_point_words : Cal P w K mg base k "point_words" 1 p_point_words) (dn : Dn K mg "comparison_words" "comparison_words" (defArgs (top 77)) (defBody (top 77)) (defScope (top 77)) ["comparison"]) : Cal P w K mg base (k + 1) "comparison_words" 1 (runDef 4 p_comparison_words_b) :=
  dn.cal sc_p_comparison_words rfl fun f cdv A outer s H E c => b_p_comparison_words h_p_point_words c
abbrev N_p_parts_of : List Str := ["condition"]
theorem nd_p_parts_of : N_p_parts_of.Nodup := by decide +kernel
theorem sc_p_parts_of : FnScope N_p_parts_of ["condition"] (defScope (top 20)) := ⟨rfl, rfl, rfl, nd_p_parts_of, rfl, by decide +kernel, by decide +kernel⟩
theorem b_p_parts_of {f : Addr} {cdv : Value} {A : Around} {outer : List PySem.Env} {s : Shared} {H : Hp} {E : XK} (hm_list : mg "list" = none) (gc_JOINTS : GCon K mg "JOINTS" g_JOINTS)
    (c : Cok (CF P w K mg base N_p_parts_of "parts_of" (defScope (top 20)) f cdv A outer s H E) E k) : PDSs (CF P w K mg base N_p_parts_of "parts_of" (defScope (top 20)) f cdv A outer s H E) E (defBody (top 20)) p_parts_of_b :=
  ds_one (dp_ret (pd_if (pb_cmp (od_in c.units5) (pd_ix (id_ix c.units1) (pv_ (by kernel_rfl)) (pd_int) (fun _ _ => rfl)) (pd_glob (gl_ (by kernel_rfl)) (gc_JOINTS)) rfl) (pd_callTy cd_list (gl_ (by kernel_rfl)) hm_list bb_list (pl_cons (pd_slice (pv_ (by kernel_rfl)) (pdo_some (pd_int)) (pdo_none)) (pl_nil) rfl) (by decide) rfl rfl rfl) (pd_lst (pl_cons (pv_ (by kernel_rfl)) (pl_nil) rfl))))
theorem c_p_parts_of (hm_list : mg "list" = none) (gc_JOINTS : GCon K mg "JOINTS" g_JOINTS) (dn : Dn K mg "parts_of" "parts_of" (defArgs (top 20)) (defBody (top 20)) (defScope (top 20)) ["condition"]) : Cal P w K mg base (k + 1) "parts_of" 1 (runDef 1 p_parts_of_b) :=
  dn.cal sc_p_parts_of rfl fun f cdv A outer s H E c => b_p_parts_of hm_list gc_JOINTS c
abbrev N_p_condition_line : List Str := ["word", "condition", "joint", "parts", "part"]
theorem nd_p_condition_line : N_p_condition_line.Nodup := by decide +kernel
theorem sc_p_condition_line : FnScope N_p_condition_line ["word", "condition"] (defScope (top 78)) := ⟨rfl, rfl, rfl, nd_p_condition_line, rfl, by decide +kernel, by decide +kernel⟩
theorem b_p_condition_line {f : Addr} {cdv : Value} {A : Around} {outer : List PySem.Env} {s : Shared} {H : Hp} {E : XK} (h_p_parts_of : Cal P w K mg base k "parts_of" 1 p_parts_of) (h_p_comparison_words : Cal P w K mg base k "comparison_words" 1 p_comparison_words) (h_p_joint_of : Cal P w K mg base k "joint_of" 1 p_joint_of)
    (c : Cok (CF P w K mg base N_p_condition_line "condition_line" (defScope (top 78)) f cdv A outer s H E) E k) : PDSs (CF P w K mg base N_p_condition_line "condition_line" (defScope (top 78)) f cdv A outer s H E) E (defBody (top 78)) p_condition_line_b :=
  ds_cons (dp_set nd_p_condition_line (by kernel_rfl) (.inl (by kernel_rfl)) (pd_callU c h_p_joint_of (Nat.le_refl _) (gl_ (by kernel_rfl)) (pl_cons (pv_ (by kernel_rfl)) (pl_nil) rfl) rfl rfl rfl) rfl (.inl rfl)) <|
  ds_cons (dp_setLc (own := [(("part" : Str), 4)]) (t := .nm 4) rfl nd_p_condition_line (by kernel_rfl) (by kernel_rfl) (by kernel_rfl) (di_val (pd_callU c h_p_parts_of (Nat.le_refl _) (gl_ (by kernel_rfl)) (pl_cons (pv_ (by kernel_rfl)) (pl_nil) rfl) rfl rfl rfl)) (blkOk_by (by kernel_rfl)) (fun _ _ _ _ _ => tg_name nd_p_condition_line (by kernel_rfl) (.inl (by kernel_rfl)) (.inr (by kernel_rfl))) (fun _ _ _ _ _ => pts_nilD) (fun _ _ _ _ _ => pd_meth plain_str slot_join ty_join md_join (pd_str) (pl_cons (pd_callU c.blk h_p_comparison_words (Nat.le_refl _) (gl_ (by kernel_rfl)) (pl_cons (pv_ (by kernel_rfl)) (pl_nil) rfl) rfl rfl rfl) (pl_nil) rfl) rfl rfl rfl rfl rfl) (fun _ => rfl) (by decide)) <|
  ds_one (dp_ret (pd_bin od_add (pd_bin od_add (pv_ (by kernel_rfl)) (pd_str)) (pd_meth plain_str slot_join ty_join md_join (pd_if (pb_cmp od_notN (pv_ (by kernel_rfl)) (pd_non) rfl) (pd_fs (pj_consD (pd_str) (pj_consD (pd_fmt (pv_ (by kernel_rfl))) (pj_consD (pd_str) (pj_nilD))))) (pd_str)) (pl_cons (pv_ (by kernel_rfl)) (pl_nil) rfl) rfl rfl rfl rfl rfl)))
theorem c_p_condition_line (h_p_parts_of : Cal P w K mg base k "parts_of" 1 p_parts_of) (h_p_comparison_words : Cal P w K mg base k "comparison_words" 1 p_comparison_words) (h_p_joint_of : Cal P w K mg base k "joint_of" 1 p_joint_of) (dn : Dn K mg "condition_line" "condition_line" (defArgs (top 78)) (defBody (top 78)) (defScope (top 78)) ["word", "condition"]) : Cal P w K mg base (k + 1) "condition_line" 2 (runDef 5 p_condition_line_b) :=
  dn.cal sc_p_condition_line rfl fun f cdv A outer s H E c => b_p_condition_line h_p_parts_of h_p_comparison_words h_p_joint_of c
abbrev N_p_condition_in : List Str := ["line", "word", "words", "joint", "some", "parts", "found", "part"]
theorem nd_p_condition_in : N_p_condition_in.Nodup := by decide +kernel
theorem sc_p_condition_in : FnScope N_p_condition_in ["line", "word"] (defScope (top 83)) := ⟨rfl, rfl, rfl, nd_p_condition_in, rfl, by decide +kernel, by decide +kernel⟩
theorem b_p_condition_in {f : Addr} {cdv : Value} {A : Around} {outer : List PySem.Env} {s : Shared} {H : Hp} {E : XK} (gc_JOINTS : GCon K mg "JOINTS" g_JOINTS) (h_p_condition_line : Cal P w K mg base k "condition_line" 2 p_condition_line) (h_p_is_good_condition : Cal P w K mg base k "is_good_condition" 1 p_is_good_condition) (h_p_joined : Cal P w K mg base k "joined" 2 p_joined) (h_p_split_at : Cal P w K mg base k "split_at" 2 p_split_at) (h_p_comparison_in : Cal P w K mg base k "comparison_in" 1 p_comparison_in)
    (c : Cok (CF P w K mg base N_p_condition_in "condition_in" (defScope (top 83)) f cdv A outer s H E) E k) : PDSs (CF P w K mg base N_p_condition_in "condition_in" (defScope (top 83)) f cdv A outer s H E) E (defBody (top 83)) p_condition_in_b :=
  ds_cons (dp_set nd_p_condition_in (by kernel_rfl) (.inr (by kernel_rfl)) (pd_meth plain_str slot_split ty_split md_split (pv_ (by kernel_rfl)) (pl_cons (pd_str) (pl_nil) rfl) rfl rfl rfl rfl rfl) rfl (.inl rfl)) <|
  ds_cons (dp_setLc (own := [(("joint" : Str), 3)]) (t := .nm 3) rfl nd_p_condition_in (by kernel_rfl) (by kernel_rfl) (by kernel_rfl) (di_val (pd_glob (gl_ (by kernel_rfl)) (gc_JOINTS))) (blkOk_by (by kernel_rfl)) (fun _ _ _ _ _ => tg_name nd_p_condition_in (by kernel_rfl) (.inl (by kernel_rfl)) (.inr (by kernel_rfl))) (fun _ _ _ _ _ => pts_one (pb_cmp (od_in c.blk.units5) (pv_ (by kernel_rfl)) (pv_ (by kernel_rfl)) rfl)) (fun _ _ _ _ _ => pv_ (by kernel_rfl)) (fun _ => rfl) (by decide)) <|
  ds_cons (dp_set nd_p_condition_in (by kernel_rfl) (.inl (by kernel_rfl)) (pd_if (pb_cmp (od_ne c.units) (pv_ (by kernel_rfl)) (pd_lst (pl_nil)) rfl) (pd_ix (id_ix c.units1) (pv_ (by kernel_rfl)) (pd_int) (fun _ _ => rfl)) (pd_non)) rfl (.inl rfl)) <|
  ds_cons (dp_setLc (own := [(("part" : Str), 7)]) (t := .nm 7) rfl nd_p_condition_in (by kernel_rfl) (by kernel_rfl) (by kernel_rfl) (di_val (pd_callU c h_p_split_at (Nat.le_refl _) (gl_ (by kernel_rfl)) (pl_cons (pd_slice (pv_ (by kernel_rfl)) (pdo_some (pd_int)) (pdo_none)) (pl_cons (pv_ (by kernel_rfl)) (pl_nil) rfl) rfl) rfl rfl rfl)) (blkOk_by (by kernel_rfl)) (fun _ _ _ _ _ => tg_name nd_p_condition_in (by kernel_rfl) (.inl (by kernel_rfl)) (.inr (by kernel_rfl))) (fun _ _ _ _ _ => pts_nilD) (fun _ _ _ _ _ => pd_callU c.blk h_p_comparison_in (Nat.le_refl _) (gl_ (by kernel_rfl)) (pl_cons (pv_ (by kernel_rfl)) (pl_nil) rfl) rfl rfl rfl) (fun _ => rfl) (by decide)) <|
  ds_cons (dp_if (pb_cmp (od_in c.units5) (pd_non) (pv_ (by kernel_rfl)) rfl) (ds_one (dp_ret (pd_non))) (ds_nil)) <|
  ds_cons (dp_set nd_p_condition_in (by kernel_rfl) (.inl (by kernel_rfl)) (pd_callU c h_p_joined (Nat.le_refl _) (gl_ (by kernel_rfl)) (pl_cons (pv_ (by kernel_rfl)) (pl_cons (pv_ (by kernel_rfl)) (pl_nil) rfl) rfl) rfl rfl rfl) rfl (.inl rfl)) <|
  ds_one (dp_ret (pd_if (PW.pt (pwb_and (pb_val (pd_callU c h_p_is_good_condition (Nat.le_refl _) (gl_ (by kernel_rfl)) (pl_cons (pv_ (by kernel_rfl)) (pl_nil) rfl) rfl rfl rfl) (fun _ => rfl)) (pw_and1 (pb_cmp (od_eq c.units) (pd_callU c h_p_condition_line (Nat.le_refl _) (gl_ (by kernel_rfl)) (pl_cons (pv_ (by kernel_rfl)) (pl_cons (pv_ (by kernel_rfl)) (pl_nil) rfl) rfl) rfl rfl rfl) (pv_ (by kernel_rfl)) rfl)))) (pv_ (by kernel_rfl)) (pd_non)))
theorem c_p_condition_in (gc_JOINTS : GCon K mg "JOINTS" g_JOINTS) (h_p_condition_line : Cal P w K mg base k "condition_line" 2 p_condition_line) (h_p_is_good_condition : Cal P w K mg base k "is_good_condition" 1 p_is_good_condition) (h_p_joined : Cal P w K mg base k "joined" 2 p_joined) (h_p_split_at : Cal P w K mg base k "split_at" 2 p_split_at) (h_p_comparison_in : Cal P w K mg base k "comparison_in" 1 p_comparison_in) (dn : Dn K mg "condition_in" "condition_in" (defArgs (top 83)) (defBody (top 83)) (defScope (top 83)) ["line", "word"]) : Cal P w K mg base (k + 1) "condition_in" 2 (runDef 8 p_condition_in_b) :=
  dn.cal sc_p_condition_in rfl fun f cdv A outer s H E c => b_p_condition_in gc_JOINTS h_p_condition_line h_p_is_good_condition h_p_joined h_p_split_at h_p_comparison_in c
abbrev N_p_rule_in17 : List Str := ["text", "lines", "found", "at", "word", "condition"]
theorem nd_p_rule_in17 : N_p_rule_in17.Nodup := by decide +kernel
theorem sc_p_rule_in17 : FnScope N_p_rule_in17 ["text"] (defScope (top 84)) := ⟨rfl, rfl, rfl, nd_p_rule_in17, rfl, by decide +kernel, by decide +kernel⟩
theorem b_p_rule_in17 {j : Nat} {f : Addr} {cdv : Value} {A : Around} {outer : List PySem.Env} {s : Shared} {H : Hp} {E : XK} (hj : j + 3 ≤ k) (hS_InvalidText : SupF P w K mg base j "InvalidText" "line") (hm_len : mg "len" = none) (hm_enumerate : mg "enumerate" = none) (hm_isinstance : mg "isinstance" = none) (hm_str : mg "str" = none) (gc_WORDS : GCon K mg "WORDS" g_WORDS) (h_p_condition_in : Cal P w K mg base k "condition_in" 2 p_condition_in)
    (c : Cok (CF P w K mg base N_p_rule_in17 "rule_in" (defScope (top 84)) f cdv A outer s H E) E k) : PDSs (CF P w K mg base N_p_rule_in17 "rule_in" (defScope (top 84)) f cdv A outer s H E) E (defBody (top 84)) p_rule_in17_b :=
  ds_cons (dp_if (pb_not (pb_val (pd_isi (gl_ (by kernel_rfl)) hm_isinstance bb_isinstance (gl_ (by kernel_rfl)) hm_str bb_str (pv_ (by kernel_rfl)) (by decide) rfl (by decide) rfl (fun _ => rfl)) (fun _ => rfl))) (ds_one (pds_raiseX rfl c hS_InvalidText (by omega) (gl_ (by kernel_rfl)) (pd_int))) (ds_nil)) <|
  ds_cons (dp_par2 rfl nd_p_rule_in17 (by kernel_rfl) (by kernel_rfl) (by decide) (by kernel_rfl) (by kernel_rfl) (pl_cons (pd_meth plain_str slot_split ty_split md_split (pv_ (by kernel_rfl)) (pl_cons (pd_str) (pl_nil) rfl) rfl rfl rfl rfl rfl) (pl_cons (pd_tup (pl_nil)) (pl_nil) rfl) rfl) rfl rfl) <|
  ds_cons (dp_for own_cf rfl (di_enumX (gl_ (by kernel_rfl)) hm_enumerate (pl_cons (pd_glob (gl_ (by kernel_rfl)) (gc_WORDS)) (pl_nil) rfl)) (dg_of (tg_tup rfl (tgs_cons (tg_name nd_p_rule_in17 (by kernel_rfl) (.inl (by kernel_rfl)) (.inr (by kernel_rfl))) (tgs_cons (tg_name nd_p_rule_in17 (by kernel_rfl) (.inl (by kernel_rfl)) (.inr (by kernel_rfl))) (tgs_nil) (by kernel_rfl)) (by kernel_rfl)) (by kernel_rfl) (by kernel_rfl))) (ds_cons (dp_set nd_p_rule_in17 (by kernel_rfl) (.inl (by kernel_rfl)) (pd_if (pb_cmp od_lt (pv_ (by kernel_rfl)) (pd_callB cd_len (gl_ (by kernel_rfl)) hm_len bb_len (pl_cons (pv_ (by kernel_rfl)) (pl_nil) rfl) (by decide) rfl rfl rfl) rfl) (pd_callU c h_p_condition_in (Nat.le_refl _) (gl_ (by kernel_rfl)) (pl_cons (pd_ix (id_ix c.units1) (pv_ (by kernel_rfl)) (pv_ (by kernel_rfl)) (fun _ _ => rfl)) (pl_cons (pv_ (by kernel_rfl)) (pl_nil) rfl) rfl) rfl rfl rfl) (pd_non)) rfl (.inl rfl)) <|
  ds_cons (dp_if (pb_cmp od_isN (pv_ (by kernel_rfl)) (pd_non) rfl) (ds_one (pds_raiseX rfl c hS_InvalidText (by omega) (gl_ (by kernel_rfl)) (pd_bin od_add (pv_ (by kernel_rfl)) (pd_int)))) (ds_nil)) <|
  ds_one (dp_set nd_p_rule_in17 (by kernel_rfl) (.inl (by kernel_rfl)) (pd_bin od_add (pv_ (by kernel_rfl)) (pd_tup (pl_cons (pv_ (by kernel_rfl)) (pl_nil) rfl))) rfl (.inl rfl))) (fun _ => rfl)) <|
  ds_cons (dp_if (pb_cmp od_gt (pd_callB cd_len (gl_ (by kernel_rfl)) hm_len bb_len (pl_cons (pv_ (by kernel_rfl)) (pl_nil) rfl) (by decide) rfl rfl rfl) (pd_int) rfl) (ds_one (pds_raiseX rfl c hS_InvalidText (by omega) (gl_ (by kernel_rfl)) (pd_int))) (ds_nil)) <|
  ds_one (dp_ret (pv_ (by kernel_rfl)))
theorem c_p_rule_in17 {j : Nat} (hj : j + 3 ≤ k) (hS_InvalidText : SupF P w K mg base j "InvalidText" "line") (hm_len : mg "len" = none) (hm_enumerate : mg "enumerate" = none) (hm_isinstance : mg "isinstance" = none) (hm_str : mg "str" = none) (gc_WORDS : GCon K mg "WORDS" g_WORDS) (h_p_condition_in : Cal P w K mg base k "condition_in" 2 p_condition_in) (dn : Dn K mg "rule_in" "rule_in" (defArgs (top 84)) (defBody (top 84)) (defScope (top 84)) ["text"]) : Cal P w K mg base (k + 1) "rule_in" 1 (runDef 6 p_rule_in17_b) :=
  dn.cal sc_p_rule_in17 rfl fun f cdv A outer s H E c => b_p_rule_in17 hj hS_InvalidText hm_len hm_enumerate hm_isinstance hm_str gc_WORDS h_p_condition_in c
abbrev N_p_Rule_told17 : List Str := ["cls", "text", "down", "up"]
theorem nd_p_Rule_told17 : N_p_Rule_told17.Nodup := by decide +kernel
theorem sc_p_Rule_told17 : FnScope N_p_Rule_told17 ["cls", "text"] (defScope (memS (top 91) 2)) := ⟨rfl, rfl, rfl, nd_p_Rule_told17, rfl, by decide +kernel, by decide +kernel⟩
theorem b_p_Rule_told17 {j : Nat} {f : Addr} {cdv : Value} {A : Around} {outer : List PySem.Env} {s : Shared} {H : Hp} {E : XK} (hj : j + 3 ≤ k) (hK_Rule_init : MkC P w K mg base j "Rule" 3 p_Rule_init) (h_p_rule_in : Cal P w K mg base k "rule_in" 1 p_rule_in17)
    (c : Cok (CF P w K mg base N_p_Rule_told17 "Rule.told" (defScope (memS (top 91) 2)) f cdv A outer s H E) E k) : PDSs (CF P w K mg base N_p_Rule_told17 "Rule.told" (defScope (memS (top 91) 2)) f cdv A outer s H E) E (defBody (memS (top 91) 2)) p_Rule_told17_b :=
  ds_cons (dp_asg (pd_callU c h_p_rule_in (Nat.le_refl _) (gl_ (by kernel_rfl)) (pl_cons (pv_ (by kernel_rfl)) (pl_nil) rfl) rfl rfl rfl) (dg_of (tg_tup rfl (tgs_cons (tg_name nd_p_Rule_told17 (by kernel_rfl) (.inl (by kernel_rfl)) (.inr (by kernel_rfl))) (tgs_cons (tg_name nd_p_Rule_told17 (by kernel_rfl) (.inl (by kernel_rfl)) (.inr (by kernel_rfl))) (tgs_nil) (by kernel_rfl)) (by kernel_rfl)) (by kernel_rfl) (by kernel_rfl))) rfl rfl rfl) <|
  ds_one (dp_ret (pd_makeL c hK_Rule_init (by omega) (by kernel_rfl) (.inl (by kernel_rfl)) (pl_cons (pv_ (by kernel_rfl)) (pl_cons (pv_ (by kernel_rfl)) (pl_nil) rfl) rfl) rfl rfl rfl rfl))
theorem c_p_Rule_told17 {j : Nat} {f : Addr} (hj : j + 3 ≤ k) (hK_Rule_init : MkC P w K mg base j "Rule" 3 p_Rule_init) (h_p_rule_in : Cal P w K mg base k "rule_in" 1 p_rule_in17) (dn : DnA K f "told" "Rule.told" (defArgs (memS (top 91) 2)) (defBody (memS (top 91) 2)) (defScope (memS (top 91) 2)) ["cls", "text"]) : FnR P w K mg base (L2.CX P w) (k + 1) f (spD K 2 (runDef 4 p_Rule_told17_b)) :=
  dn.fnR sc_p_Rule_told17 rfl fun f cdv A outer s H E c => b_p_Rule_told17 hj hK_Rule_init h_p_rule_in c
abbrev N_p_Rule_source : List Str := ["self"]
theorem nd_p_Rule_source : N_p_Rule_source.Nodup := by decide +kernel
theorem sc_p_Rule_source : FnScope N_p_Rule_source ["self"] (defScope (memS (top 91) 3)) := ⟨rfl, rfl, rfl, nd_p_Rule_source, rfl, by decide +kernel, by decide +kernel⟩
theorem b_p_Rule_source {j : Nat} {f : Addr} {cdv : Value} {A : Around} {outer : List PySem.Env} {s : Shared} {H : Hp} {E : XK} (hj : j + 3 ≤ k) (hF_Rule : ClsF K "Rule") (hN_Rule_base : NoA K "Rule" "base")
    (c : Cok (CF P w K mg base N_p_Rule_source "Rule.source" (defScope (memS (top 91) 3)) f cdv A outer s H E) E k) : PDSs (CF P w K mg base N_p_Rule_source "Rule.source" (defScope (memS (top 91) 3)) f cdv A outer s H E) E (defBody (memS (top 91) 3)) p_Rule_source_b :=
  ds_one (dp_ret (pd_fld hF_Rule hN_Rule_base (pv_ (by kernel_rfl)) rfl))
theorem c_p_Rule_source {j : Nat} {f : Addr} (hj : j + 3 ≤ k) (hF_Rule : ClsF K "Rule") (hN_Rule_base : NoA K "Rule" "base") (dn : DnA K f "source" "Rule.source" (defArgs (memS (top 91) 3)) (defBody (memS (top 91) 3)) (defScope (memS (top 91) 3)) ["self"]) : FnR P w K mg base (L2.CX P w) (k + 1) f (spD K 1 (runDef 1 p_Rule_source_b)) :=
  dn.fnR sc_p_Rule_source rfl fun f cdv A outer s H E c => b_p_Rule_source hj hF_Rule hN_Rule_base c
abbrev N_l_source : List Str := ["_law_script", "_law_k", "_law_cell"]
theorem nd_l_source : N_l_source.Nodup := by decide +kernel
theorem sc_l_source : FnScope N_l_source ["_law_script", "_law_k"] (defScope (top 93)) := ⟨rfl, rfl, rfl, nd_l_source, rfl, by decide +kernel, by decide +kernel⟩
theorem b_l_source {f : Addr} {cdv : Value} {A : Around} {outer : List PySem.Env} {s : Shared} {H : Hp} {E : XK} (hm_int : mg "int" = none) (hm_len : mg "len" = none) (hm_abs : mg "abs" = none)
    (c : Cok (CF P w K mg base N_l_source "_law_source" (defScope (top 93)) f cdv A outer s H E) E k) : PDSs (CF P w K mg base N_l_source "_law_source" (defScope (top 93)) f cdv A outer s H E) E (defBody (top 93)) l_source_b :=
  ds_cons (dp_set nd_l_source (by kernel_rfl) (.inl (by kernel_rfl)) (pd_int) rfl (.inl rfl)) <|
  ds_cons (dp_if (pb_cmp od_lt (pv_ (by kernel_rfl)) (pd_callB cd_len (gl_ (by kernel_rfl)) hm_len bb_len (pl_cons (pv_ (by kernel_rfl)) (pl_nil) rfl) (by decide) rfl rfl rfl) rfl) (ds_one (dp_set nd_l_source (by kernel_rfl) (.inl (by kernel_rfl)) (pd_callB cd_abs (gl_ (by kernel_rfl)) hm_abs bb_abs (pl_cons (pd_callTy cd_int (gl_ (by kernel_rfl)) hm_int bb_int (pl_cons (pd_ix (id_ix c.units1) (pv_ (by kernel_rfl)) (pv_ (by kernel_rfl)) (fun _ _ => rfl)) (pl_nil) rfl) (by decide) rfl rfl rfl) (pl_nil) rfl) (by decide) rfl rfl rfl) rfl (.inl rfl))) (ds_nil)) <|
  ds_cons (dp_if (pb_cmp od_lt (pv_ (by kernel_rfl)) (pd_bin od_pow (pd_int) (pd_int)) rfl) (ds_one (dp_ret (pd_own (pl_cons (pd_int) (pl_cons (pd_bin od_add (pd_int) (pd_bin od_mod (pd_callTy cd_int (gl_ (by kernel_rfl)) hm_int bb_int (pl_cons (pd_bin od_add (pd_bin od_mul (pv_ (by kernel_rfl)) (pd_int)) (pd_bin od_mul (pd_int) (pv_ (by kernel_rfl)))) (pl_nil) rfl) (by decide) rfl rfl rfl) (pd_int))) (pl_nil) rfl) rfl)))) (ds_nil)) <|
  ds_one (dp_ret (pd_own (pl_cons (pv_ (by kernel_rfl)) (pl_cons (pd_bin od_add (pd_int) (pd_bin od_mod (pd_callTy cd_int (gl_ (by kernel_rfl)) hm_int bb_int (pl_cons (pd_bin od_add (pv_ (by kernel_rfl)) (pv_ (by kernel_rfl))) (pl_nil) rfl) (by decide) rfl rfl rfl) (pd_int))) (pl_nil) rfl) rfl)))
theorem c_l_source (hm_int : mg "int" = none) (hm_len : mg "len" = none) (hm_abs : mg "abs" = none) (dn : Dn K mg "_law_source" "_law_source" (defArgs (top 93)) (defBody (top 93)) (defScope (top 93)) ["_law_script", "_law_k"]) : Cal P w K mg base (k + 1) "_law_source" 2 (runDef 3 l_source_b) :=
  dn.cal sc_l_source rfl fun f cdv A outer s H E c => b_l_source hm_int hm_len hm_abs c
abbrev N_l_draw : List Str := ["_law_source_here", "_law_many", "_law_found"]
theorem nd_l_draw : N_l_draw.Nodup := by decide +kernel
theorem sc_l_draw : FnScope N_l_draw ["_law_source_here", "_law_many"] (defScope (top 94)) := ⟨rfl, rfl, rfl, nd_l_draw, rfl, by decide +kernel, by decide +kernel⟩
theorem b_l_draw {f : Addr} {cdv : Value} {A : Around} {outer : List PySem.Env} {s : Shared} {H : Hp} {E : XK} (hm_int : mg "int" = none)
    (c : Cok (CF P w K mg base N_l_draw "_law_draw" (defScope (top 94)) f cdv A outer s H E) E k) : PDSs (CF P w K mg base N_l_draw "_law_draw" (defScope (top 94)) f cdv A outer s H E) E (defBody (top 94)) l_draw_b :=
  ds_cons (dp_if (pb_cmp od_gt (pd_ix (id_ix c.units1) (pv_ (by kernel_rfl)) (pd_int) (fun _ _ => rfl)) (pd_int) rfl) (ds_cons (dp_set nd_l_draw (by kernel_rfl) (.inl (by kernel_rfl)) (pd_bin od_mod (pd_callTy cd_int (gl_ (by kernel_rfl)) hm_int bb_int (pl_cons (pd_ix (id_ix c.units1) (pv_ (by kernel_rfl)) (pd_int) (fun _ _ => rfl)) (pl_nil) rfl) (by decide) rfl rfl rfl) (pv_ (by kernel_rfl))) rfl (.inl rfl)) <|
  ds_cons (dp_asg (pd_bin od_div (pd_ix (id_ix c.units1) (pv_ (by kernel_rfl)) (pd_int) (fun _ _ => rfl)) (pv_ (by kernel_rfl))) (dg_sub c.units1 (pv_ (by kernel_rfl)) (pd_int) (fun _ => rfl)) rfl rfl rfl) <|
  ds_one (dp_ret (pv_ (by kernel_rfl)))) (ds_nil)) <|
  ds_cons (dp_asg (pd_bin od_mod (pd_callTy cd_int (gl_ (by kernel_rfl)) hm_int bb_int (pl_cons (pd_bin od_mul (pd_ix (id_ix c.units1) (pv_ (by kernel_rfl)) (pd_int) (fun _ _ => rfl)) (pd_int)) (pl_nil) rfl) (by decide) rfl rfl rfl) (pd_int)) (dg_sub c.units1 (pv_ (by kernel_rfl)) (pd_int) (fun _ => rfl)) rfl rfl rfl) <|
  ds_one (dp_ret (pd_bin od_mod (pd_callTy cd_int (gl_ (by kernel_rfl)) hm_int bb_int (pl_cons (pd_bin od_div (pd_bin od_mod (pd_callTy cd_int (gl_ (by kernel_rfl)) hm_int bb_int (pl_cons (pd_bin od_mul (pd_ix (id_ix c.units1) (pv_ (by kernel_rfl)) (pd_int) (fun _ _ => rfl)) (pd_ix (id_ix c.units1) (pv_ (by kernel_rfl)) (pd_int) (fun _ _ => rfl))) (pl_nil) rfl) (by decide) rfl rfl rfl) (pd_int)) (pd_int)) (pl_nil) rfl) (by decide) rfl rfl rfl) (pv_ (by kernel_rfl))))
theorem c_l_draw (hm_int : mg "int" = none) (dn : Dn K mg "_law_draw" "_law_draw" (defArgs (top 94)) (defBody (top 94)) (defScope (top 94)) ["_law_source_here", "_law_many"]) : Cal P w K mg base (k + 1) "_law_draw" 2 (runDef 3 l_draw_b) :=
  dn.cal sc_l_draw rfl fun f cdv A outer s H E c => b_l_draw hm_int c
abbrev N_l_of : List Str := ["_law_source_here", "_law_items"]
theorem nd_l_of : N_l_of.Nodup := by decide +kernel
theorem sc_l_of : FnScope N_l_of ["_law_source_here", "_law_items"] (defScope (top 95)) := ⟨rfl, rfl, rfl, nd_l_of, rfl, by decide +kernel, by decide +kernel⟩
theorem b_l_of {f : Addr} {cdv : Value} {A : Around} {outer : List PySem.Env} {s : Shared} {H : Hp} {E : XK} (hm_len : mg "len" = none) (h_l_draw : Cal P w K mg base k "_law_draw" 2 l_draw)
    (c : Cok (CF P w K mg base N_l_of "_law_of" (defScope (top 95)) f cdv A outer s H E) E k) : PDSs (CF P w K mg base N_l_of "_law_of" (defScope (top 95)) f cdv A outer s H E) E (defBody (top 95)) l_of_b :=
  ds_one (dp_ret (pd_ix (id_ix c.units1) (pv_ (by kernel_rfl)) (pd_callU c h_l_draw (Nat.le_refl _) (gl_ (by kernel_rfl)) (pl_cons (pv_ (by kernel_rfl)) (pl_cons (pd_callB cd_len (gl_ (by kernel_rfl)) hm_len bb_len (pl_cons (pv_ (by kernel_rfl)) (pl_nil) rfl) (by decide) rfl rfl rfl) (pl_nil) rfl) rfl) rfl rfl rfl) (fun _ _ => rfl)))
theorem c_l_of (hm_len : mg "len" = none) (h_l_draw : Cal P w K mg base k "_law_draw" 2 l_draw) (dn : Dn K mg "_law_of" "_law_of" (defArgs (top 95)) (defBody (top 95)) (defScope (top 95)) ["_law_source_here", "_law_items"]) : Cal P w K mg base (k + 1) "_law_of" 2 (runDef 2 l_of_b) :=
  dn.cal sc_l_of rfl fun f cdv A outer s H E c => b_l_of hm_len h_l_draw c
abbrev N_l_known : List Str := ["_law_source_here", "_law_share", "_law_other", "_law_thing", "_law_back", "_law_goal", "_law_down", "_law_flat", "_law_up", "_law_mode", "_law_more"]
theorem nd_l_known : N_l_known.Nodup := by decide +kernel
theorem sc_l_known : FnScope N_l_known ["_law_source_here"] (defScope (top 99)) := ⟨rfl, rfl, rfl, nd_l_known, rfl, by decide +kernel, by decide +kernel⟩
theorem b_l_known {f : Addr} {cdv : Value} {A : Around} {outer : List PySem.Env} {s : Shared} {H : Hp} {E : XK} (h_l_draw : Cal P w K mg base k "_law_draw" 2 l_draw) (h_l_of : Cal P w K mg base k "_law_of" 2 l_of)
    (c : Cok (CF P w K mg base N_l_known "_law_known" (defScope (top 99)) f cdv A outer s H E) E k) : PDSs (CF P w K mg base N_l_known "_law_known" (defScope (top 99)) f cdv A outer s H E) E (defBody (top 99)) l_known_b :=
  ds_cons (dp_set nd_l_known (by kernel_rfl) (.inl (by kernel_rfl)) (pd_callU c h_l_of (Nat.le_refl _) (gl_ (by kernel_rfl)) (pl_cons (pv_ (by kernel_rfl)) (pl_cons (pd_lst (pl_cons (pd_int) (pl_cons (pd_int) (pl_cons (pd_int) (pl_cons (pd_int) (pl_cons (pd_int) (pl_cons (pd_int) (pl_nil) rfl) rfl) rfl) rfl) rfl) rfl)) (pl_nil) rfl) rfl) rfl rfl rfl) rfl (.inl rfl)) <|
  ds_cons (dp_set nd_l_known (by kernel_rfl) (.inl (by kernel_rfl)) (pd_callU c h_l_of (Nat.le_refl _) (gl_ (by kernel_rfl)) (pl_cons (pv_ (by kernel_rfl)) (pl_cons (pd_lst (pl_cons (pd_str) (pl_cons (pd_str) (pl_nil) rfl) rfl)) (pl_nil) rfl) rfl) rfl rfl rfl) rfl (.inl rfl)) <|
  ds_cons (dp_set nd_l_known (by kernel_rfl) (.inl (by kernel_rfl)) (pd_callU c h_l_of (Nat.le_refl _) (gl_ (by kernel_rfl)) (pl_cons (pv_ (by kernel_rfl)) (pl_cons (pd_lst (pl_cons (pd_tup (pl_cons (pd_str) (pl_nil) rfl)) (pl_cons (pd_tup (pl_cons (pd_str) (pl_cons (pd_callU c h_l_of (Nat.le_refl _) (gl_ (by kernel_rfl)) (pl_cons (pv_ (by kernel_rfl)) (pl_cons (pd_lst (pl_cons (pd_int) (pl_cons (pd_int) (pl_cons (pd_int) (pl_cons (pd_int) (pl_nil) rfl) rfl) rfl) rfl)) (pl_nil) rfl) rfl) rfl rfl rfl) (pl_nil) rfl) rfl)) (pl_nil) rfl) rfl)) (pl_nil) rfl) rfl) rfl rfl rfl) rfl (.inl rfl)) <|
  ds_cons (dp_set nd_l_known (by kernel_rfl) (.inl (by kernel_rfl)) (pd_if (pb_cmp (od_eq c.units) (pv_ (by kernel_rfl)) (pd_tup (pl_cons (pd_str) (pl_nil) rfl)) rfl) (pd_tup (pl_cons (pd_str) (pl_nil) rfl)) (pd_tup (pl_cons (pd_str) (pl_cons (pd_bin od_sub (pd_int) (pd_ix (id_ix c.units1) (pv_ (by kernel_rfl)) (pd_int) (fun _ _ => rfl))) (pl_nil) rfl) rfl))) rfl (.inl rfl)) <|
  ds_cons (dp_set nd_l_known (by kernel_rfl) (.inl (by kernel_rfl)) (pd_callU c h_l_of (Nat.le_refl _) (gl_ (by kernel_rfl)) (pl_cons (pv_ (by kernel_rfl)) (pl_cons (pd_lst (pl_cons (pd_tup (pl_cons (pd_str) (pl_cons (pv_ (by kernel_rfl)) (pl_nil) rfl) rfl)) (pl_cons (pd_tup (pl_cons (pd_str) (pl_cons (pv_ (by kernel_rfl)) (pl_nil) rfl) rfl)) (pl_cons (pd_tup (pl_cons (pd_str) (pl_cons (pd_int) (pl_nil) rfl) rfl)) (pl_nil) rfl) rfl) rfl)) (pl_nil) rfl) rfl) rfl rfl rfl) rfl (.inl rfl)) <|
  ds_cons (dp_set nd_l_known (by kernel_rfl) (.inl (by kernel_rfl)) (pd_tup (pl_cons (pv_ (by kernel_rfl)) (pl_cons (pv_ (by kernel_rfl)) (pl_cons (pv_ (by kernel_rfl)) (pl_nil) rfl) rfl) rfl)) rfl (.inl rfl)) <|
  ds_cons (dp_set nd_l_known (by kernel_rfl) (.inl (by kernel_rfl)) (pd_tup (pl_cons (pd_ix (id_ix c.units1) (pd_ix (id_ix c.units1) (pv_ (by kernel_rfl)) (pd_int) (fun _ _ => rfl)) (pd_int) (fun _ _ => rfl)) (pl_cons (pd_bin od_sub (pd_int) (pd_ix (id_ix c.units1) (pd_ix (id_ix c.units1) (pv_ (by kernel_rfl)) (pd_int) (fun _ _ => rfl)) (pd_int) (fun _ _ => rfl))) (pl_nil) rfl) rfl)) rfl (.inl rfl)) <|
  ds_cons (dp_set nd_l_known (by kernel_rfl) (.inl (by kernel_rfl)) (pd_tup (pl_cons (pd_callU c h_l_of (Nat.le_refl _) (gl_ (by kernel_rfl)) (pl_cons (pv_ (by kernel_rfl)) (pl_cons (pd_lst (pl_cons (pd_str) (pl_cons (pd_str) (pl_nil) rfl) rfl)) (pl_nil) rfl) rfl) rfl rfl rfl) (pl_cons (pv_ (by kernel_rfl)) (pl_cons (pv_ (by kernel_rfl)) (pl_nil) rfl) rfl) rfl)) rfl (.inl rfl)) <|
  ds_cons (dp_set nd_l_known (by kernel_rfl) (.inl (by kernel_rfl)) (pd_callU c h_l_draw (Nat.le_refl _) (gl_ (by kernel_rfl)) (pl_cons (pv_ (by kernel_rfl)) (pl_cons (pd_int) (pl_nil) rfl) rfl) rfl rfl rfl) rfl (.inl rfl)) <|
  ds_cons (dp_if (pb_cmp (od_eq c.units) (pv_ (by kernel_rfl)) (pd_int) rfl) (ds_cons (dp_set nd_l_known (by kernel_rfl) (.inl (by kernel_rfl)) (pd_tup (pl_cons (pd_callU c h_l_of (Nat.le_refl _) (gl_ (by kernel_rfl)) (pl_cons (pv_ (by kernel_rfl)) (pl_cons (pd_lst (pl_cons (pd_str) (pl_cons (pd_str) (pl_nil) rfl) rfl)) (pl_nil) rfl) rfl) rfl rfl rfl) (pl_cons (pd_tup (pl_cons (pd_str) (pl_nil) rfl)) (pl_cons (pd_tup (pl_cons (pd_str) (pl_cons (pd_bin od_mul (pd_int) (pd_callU c h_l_draw (Nat.le_refl _) (gl_ (by kernel_rfl)) (pl_cons (pv_ (by kernel_rfl)) (pl_cons (pd_int) (pl_nil) rfl) rfl) rfl rfl rfl)) (pl_nil) rfl) rfl)) (pl_nil) rfl) rfl) rfl)) rfl (.inl rfl)) <|
  ds_one (dp_set nd_l_known (by kernel_rfl) (.inl (by kernel_rfl)) (pd_tup (pl_cons (pd_str) (pl_cons (pv_ (by kernel_rfl)) (pl_cons (pv_ (by kernel_rfl)) (pl_nil) rfl) rfl) rfl)) rfl (.inl rfl))) (ds_nil)) <|
  ds_cons (dp_if (pb_cmp (od_eq c.units) (pv_ (by kernel_rfl)) (pd_int) rfl) (ds_one (dp_set nd_l_known (by kernel_rfl) (.inl (by kernel_rfl)) (pd_tup (pl_cons (pd_str) (pl_cons (pv_ (by kernel_rfl)) (pl_cons (pd_tup (pl_cons (pd_str) (pl_cons (pd_tup (pl_cons (pd_str) (pl_nil) rfl)) (pl_cons (pd_tup (pl_cons (pd_str) (pl_cons (pd_int) (pl_nil) rfl) rfl)) (pl_nil) rfl) rfl) rfl)) (pl_nil) rfl) rfl) rfl)) rfl (.inl rfl))) (ds_nil)) <|
  ds_one (dp_ret (pd_tup (pl_cons (pv_ (by kernel_rfl)) (pl_cons (pv_ (by kernel_rfl)) (pl_nil) rfl) rfl)))
theorem c_l_known (h_l_draw : Cal P w K mg base k "_law_draw" 2 l_draw) (h_l_of : Cal P w K mg base k "_law_of" 2 l_of) (dn : Dn K mg "_law_known" "_law_known" (defArgs (top 99)) (defBody (top 99)) (defScope (top 99)) ["_law_source_here"]) : Cal P w K mg base (k + 1) "_law_known" 1 (runDef 11 l_known_b) :=
  dn.cal sc_l_known rfl fun f cdv A outer s H E c => b_l_known h_l_draw h_l_of c
abbrev N_l_point : List Str := ["_law_source_here", "_law_thing"]
theorem nd_l_point : N_l_point.Nodup := by decide +kernel
theorem sc_l_point : FnScope N_l_point ["_law_source_here"] (defScope (top 96)) := ⟨rfl, rfl, rfl, nd_l_point, rfl, by decide +kernel, by decide +kernel⟩
theorem b_l_point {f : Addr} {cdv : Value} {A : Around} {outer : List PySem.Env} {s : Shared} {H : Hp} {E : XK} (h_l_of : Cal P w K mg base k "_law_of" 2 l_of) (h_l_draw : Cal P w K mg base k "_law_draw" 2 l_draw)
    (c : Cok (CF P w K mg base N_l_point "_law_point" (defScope (top 96)) f cdv A outer s H E) E k) : PDSs (CF P w K mg base N_l_point "_law_point" (defScope (top 96)) f cdv A outer s H E) E (defBody (top 96)) l_point_b :=
  ds_cons (dp_set nd_l_point (by kernel_rfl) (.inl (by kernel_rfl)) (pd_callU c h_l_of (Nat.le_refl _) (gl_ (by kernel_rfl)) (pl_cons (pv_ (by kernel_rfl)) (pl_cons (pd_lst (pl_cons (pd_str) (pl_cons (pd_str) (pl_cons (pd_str) (pl_cons (pd_str) (pl_cons (pd_str) (pl_cons (pd_str) (pl_nil) rfl) rfl) rfl) rfl) rfl) rfl)) (pl_nil) rfl) rfl) rfl rfl rfl) rfl (.inl rfl)) <|
  ds_cons (dp_if (pb_cmp (od_eq c.units) (pv_ (by kernel_rfl)) (pd_str) rfl) (ds_one (dp_ret (pd_tup (pl_cons (pd_str) (pl_nil) rfl)))) (ds_nil)) <|
  ds_one (dp_ret (pd_tup (pl_cons (pv_ (by kernel_rfl)) (pl_cons (pd_callU c h_l_of (Nat.le_refl _) (gl_ (by kernel_rfl)) (pl_cons (pv_ (by kernel_rfl)) (pl_cons (pd_lst (pl_cons (pd_int) (pl_cons (pd_int) (pl_cons (pd_int) (pl_cons (pd_callU c h_l_draw (Nat.le_refl _) (gl_ (by kernel_rfl)) (pl_cons (pv_ (by kernel_rfl)) (pl_cons (pd_int) (pl_nil) rfl) rfl) rfl rfl rfl) (pl_nil) rfl) rfl) rfl) rfl)) (pl_nil) rfl) rfl) rfl rfl rfl) (pl_nil) rfl) rfl)))
theorem c_l_point (h_l_of : Cal P w K mg base k "_law_of" 2 l_of) (h_l_draw : Cal P w K mg base k "_law_draw" 2 l_draw) (dn : Dn K mg "_law_point" "_law_point" (defArgs (top 96)) (defBody (top 96)) (defScope (top 96)) ["_law_source_here"]) : Cal P w K mg base (k + 1) "_law_point" 1 (runDef 2 l_point_b) :=
  dn.cal sc_l_point rfl fun f cdv A outer s H E c => b_l_point h_l_of h_l_draw c
abbrev N_l_comparison : List Str := ["_law_source_here", "_law_word"]
theorem nd_l_comparison : N_l_comparison.Nodup := by decide +kernel
theorem sc_l_comparison : FnScope N_l_comparison ["_law_source_here"] (defScope (top 97)) := ⟨rfl, rfl, rfl, nd_l_comparison, rfl, by decide +kernel, by decide +kernel⟩
theorem b_l_comparison {f : Addr} {cdv : Value} {A : Around} {outer : List PySem.Env} {s : Shared} {H : Hp} {E : XK} (h_l_point : Cal P w K mg base k "_law_point" 1 l_point) (h_l_of : Cal P w K mg base k "_law_of" 2 l_of)
    (c : Cok (CF P w K mg base N_l_comparison "_law_comparison" (defScope (top 97)) f cdv A outer s H E) E k) : PDSs (CF P w K mg base N_l_comparison "_law_comparison" (defScope (top 97)) f cdv A outer s H E) E (defBody (top 97)) l_comparison_b :=
  ds_cons (dp_set nd_l_comparison (by kernel_rfl) (.inl (by kernel_rfl)) (pd_callU c h_l_of (Nat.le_refl _) (gl_ (by kernel_rfl)) (pl_cons (pv_ (by kernel_rfl)) (pl_cons (pd_lst (pl_cons (pd_str) (pl_cons (pd_str) (pl_cons (pd_str) (pl_cons (pd_str) (pl_nil) rfl) rfl) rfl) rfl)) (pl_nil) rfl) rfl) rfl rfl rfl) rfl (.inl rfl)) <|
  ds_one (dp_ret (pd_tup (pl_cons (pv_ (by kernel_rfl)) (pl_cons (pd_callU c h_l_point (Nat.le_refl _) (gl_ (by kernel_rfl)) (pl_cons (pv_ (by kernel_rfl)) (pl_nil) rfl) rfl rfl rfl) (pl_cons (pd_callU c h_l_point (Nat.le_refl _) (gl_ (by kernel_rfl)) (pl_cons (pv_ (by kernel_rfl)) (pl_nil) rfl) rfl rfl rfl) (pl_nil) rfl) rfl) rfl)))
theorem c_l_comparison (h_l_point : Cal P w K mg base k "_law_point" 1 l_point) (h_l_of : Cal P w K mg base k "_law_of" 2 l_of) (dn : Dn K mg "_law_comparison" "_law_comparison" (defArgs (top 97)) (defBody (top 97)) (defScope (top 97)) ["_law_source_here"]) : Cal P w K mg base (k + 1) "_law_comparison" 1 (runDef 2 l_comparison_b) :=
  dn.cal sc_l_comparison rfl fun f cdv A outer s H E c => b_l_comparison h_l_point h_l_of c
abbrev N_l_condition : List Str := ["_law_source_here", "_law_many", "_law_parts_here", "_law_turn"]
theorem nd_l_condition : N_l_condition.Nodup := by decide +kernel
theorem sc_l_condition : FnScope N_l_condition ["_law_source_here"] (defScope (top 98)) := ⟨rfl, rfl, rfl, nd_l_condition, rfl, by decide +kernel, by decide +kernel⟩
theorem b_l_condition {f : Addr} {cdv : Value} {A : Around} {outer : List PySem.Env} {s : Shared} {H : Hp} {E : XK} (hm_tuple : mg "tuple" = none) (hm_range : mg "range" = none) (h_l_of : Cal P w K mg base k "_law_of" 2 l_of) (h_l_comparison : Cal P w K mg base k "_law_comparison" 1 l_comparison)
    (c : Cok (CF P w K mg base N_l_condition "_law_condition" (defScope (top 98)) f cdv A outer s H E) E k) : PDSs (CF P w K mg base N_l_condition "_law_condition" (defScope (top 98)) f cdv A outer s H E) E (defBody (top 98)) l_condition_b :=
  ds_cons (dp_set nd_l_condition (by kernel_rfl) (.inl (by kernel_rfl)) (pd_callU c h_l_of (Nat.le_refl _) (gl_ (by kernel_rfl)) (pl_cons (pv_ (by kernel_rfl)) (pl_cons (pd_lst (pl_cons (pd_int) (pl_cons (pd_int) (pl_cons (pd_int) (pl_cons (pd_int) (pl_cons (pd_int) (pl_nil) rfl) rfl) rfl) rfl) rfl)) (pl_nil) rfl) rfl) rfl rfl rfl) rfl (.inl rfl)) <|
  ds_cons (dp_set nd_l_condition (by kernel_rfl) (.inl (by kernel_rfl)) (pd_callTy cd_tuple (gl_ (by kernel_rfl)) hm_tuple bb_tuple (pl_cons (pd_lc (own := [(("_law_turn" : Str), 3)]) (t := .nm 3) rfl nd_l_condition (di_range1 (gl_ (by kernel_rfl)) hm_range (pl_cons (pv_ (by kernel_rfl)) (pl_nil) rfl) rfl) (blkOk_by (by kernel_rfl)) (fun _ _ _ _ _ => tg_name nd_l_condition (by kernel_rfl) (.inl (by kernel_rfl)) (.inr (by kernel_rfl))) (fun _ _ _ _ _ => pts_nilD) (fun _ _ _ _ _ => pd_callU c.blk h_l_comparison (Nat.le_refl _) (gl_ (by kernel_rfl)) (pl_cons (pv_ (by kernel_rfl)) (pl_nil) rfl) rfl rfl rfl) (fun _ => rfl) (by decide)) (pl_nil) rfl) (by decide) rfl rfl rfl) rfl (.inl rfl)) <|
  ds_one (dp_ret (pd_if (pb_cmp (od_eq c.units) (pv_ (by kernel_rfl)) (pd_int) rfl) (pd_ix (id_ix c.units1) (pv_ (by kernel_rfl)) (pd_int) (fun _ _ => rfl)) (pd_bin od_add (pd_tup (pl_cons (pd_callU c h_l_of (Nat.le_refl _) (gl_ (by kernel_rfl)) (pl_cons (pv_ (by kernel_rfl)) (pl_cons (pd_lst (pl_cons (pd_str) (pl_cons (pd_str) (pl_nil) rfl) rfl)) (pl_nil) rfl) rfl) rfl rfl rfl) (pl_nil) rfl)) (pv_ (by kernel_rfl)))))
theorem c_l_condition (hm_tuple : mg "tuple" = none) (hm_range : mg "range" = none) (h_l_of : Cal P w K mg base k "_law_of" 2 l_of) (h_l_comparison : Cal P w K mg base k "_law_comparison" 1 l_comparison) (dn : Dn K mg "_law_condition" "_law_condition" (defArgs (top 98)) (defBody (top 98)) (defScope (top 98)) ["_law_source_here"]) : Cal P w K mg base (k + 1) "_law_condition" 1 (runDef 4 l_condition_b) :=
  dn.cal sc_l_condition rfl fun f cdv A outer s H E c => b_l_condition hm_tuple hm_range h_l_of h_l_comparison c
abbrev N_l_rule : List Str := ["_law_source_here", "_law_mode", "_law_found"]
theorem nd_l_rule : N_l_rule.Nodup := by decide +kernel
theorem sc_l_rule : FnScope N_l_rule ["_law_source_here"] (defScope (top 100)) := ⟨rfl, rfl, rfl, nd_l_rule, rfl, by decide +kernel, by decide +kernel⟩
theorem b_l_rule {f : Addr} {cdv : Value} {A : Around} {outer : List PySem.Env} {s : Shared} {H : Hp} {E : XK} (h_l_condition : Cal P w K mg base k "_law_condition" 1 l_condition) (h_l_known : Cal P w K mg base k "_law_known" 1 l_known) (h_l_draw : Cal P w K mg base k "_law_draw" 2 l_draw)
    (c : Cok (CF P w K mg base N_l_rule "_law_rule" (defScope (top 100)) f cdv A outer s H E) E k) : PDSs (CF P w K mg base N_l_rule "_law_rule" (defScope (top 100)) f cdv A outer s H E) E (defBody (top 100)) l_rule_b :=
  ds_cons (dp_par2 rfl nd_l_rule (by kernel_rfl) (by kernel_rfl) (by decide) (by kernel_rfl) (by kernel_rfl) (pl_cons (pd_callU c h_l_draw (Nat.le_refl _) (gl_ (by kernel_rfl)) (pl_cons (pv_ (by kernel_rfl)) (pl_cons (pd_int) (pl_nil) rfl) rfl) rfl rfl rfl) (pl_cons (pd_callU c h_l_known (Nat.le_refl _) (gl_ (by kernel_rfl)) (pl_cons (pv_ (by kernel_rfl)) (pl_nil) rfl) rfl rfl rfl) (pl_nil) rfl) rfl) rfl rfl) <|
  ds_cons (dp_if (pb_cmp (od_eq c.units) (pv_ (by kernel_rfl)) (pd_int) rfl) (ds_one (dp_ret (pd_tup (pl_cons (pd_callU c h_l_condition (Nat.le_refl _) (gl_ (by kernel_rfl)) (pl_cons (pv_ (by kernel_rfl)) (pl_nil) rfl) rfl rfl rfl) (pl_cons (pd_callU c h_l_condition (Nat.le_refl _) (gl_ (by kernel_rfl)) (pl_cons (pv_ (by kernel_rfl)) (pl_nil) rfl) rfl rfl rfl) (pl_nil) rfl) rfl)))) (ds_nil)) <|
  ds_cons (dp_if (pb_cmp (od_eq c.units) (pv_ (by kernel_rfl)) (pd_int) rfl) (ds_one (dp_ret (pd_tup (pl_cons (pd_ix (id_ix c.units1) (pv_ (by kernel_rfl)) (pd_int) (fun _ _ => rfl)) (pl_cons (pd_callU c h_l_condition (Nat.le_refl _) (gl_ (by kernel_rfl)) (pl_cons (pv_ (by kernel_rfl)) (pl_nil) rfl) rfl rfl rfl) (pl_nil) rfl) rfl)))) (ds_nil)) <|
  ds_one (dp_ret (pd_if (pb_cmp (od_eq c.units) (pv_ (by kernel_rfl)) (pd_int) rfl) (pd_tup (pl_cons (pd_callU c h_l_condition (Nat.le_refl _) (gl_ (by kernel_rfl)) (pl_cons (pv_ (by kernel_rfl)) (pl_nil) rfl) rfl rfl rfl) (pl_cons (pd_ix (id_ix c.units1) (pv_ (by kernel_rfl)) (pd_int) (fun _ _ => rfl)) (pl_nil) rfl) rfl)) (pv_ (by kernel_rfl))))
theorem c_l_rule (h_l_condition : Cal P w K mg base k "_law_condition" 1 l_condition) (h_l_known : Cal P w K mg base k "_law_known" 1 l_known) (h_l_draw : Cal P w K mg base k "_law_draw" 2 l_draw) (dn : Dn K mg "_law_rule" "_law_rule" (defArgs (top 100)) (defBody (top 100)) (defScope (top 100)) ["_law_source_here"]) : Cal P w K mg base (k + 1) "_law_rule" 1 (runDef 3 l_rule_b) :=
  dn.cal sc_l_rule rfl fun f cdv A outer s H E c => b_l_rule h_l_condition h_l_known h_l_draw c
abbrev N_l_parts : List Str := ["_law_condition_here"]
theorem nd_l_parts : N_l_parts.Nodup := by decide +kernel
theorem sc_l_parts : FnScope N_l_parts ["_law_condition_here"] (defScope (top 101)) := ⟨rfl, rfl, rfl, nd_l_parts, rfl, by decide +kernel, by decide +kernel⟩
theorem b_l_parts {f : Addr} {cdv : Value} {A : Around} {outer : List PySem.Env} {s : Shared} {H : Hp} {E : XK} (hm_list : mg "list" = none)
    (c : Cok (CF P w K mg base N_l_parts "_law_parts" (defScope (top 101)) f cdv A outer s H E) E k) : PDSs (CF P w K mg base N_l_parts "_law_parts" (defScope (top 101)) f cdv A outer s H E) E (defBody (top 101)) l_parts_b :=
  ds_one (dp_ret (pd_if (pb_cmp (od_in c.units5) (pd_ix (id_ix c.units1) (pv_ (by kernel_rfl)) (pd_int) (fun _ _ => rfl)) (pd_tup (pl_cons (pd_str) (pl_cons (pd_str) (pl_nil) rfl) rfl)) rfl) (pd_callTy cd_list (gl_ (by kernel_rfl)) hm_list bb_list (pl_cons (pd_slice (pv_ (by kernel_rfl)) (pdo_some (pd_int)) (pdo_none)) (pl_nil) rfl) (by decide) rfl rfl rfl) (pd_lst (pl_cons (pv_ (by kernel_rfl)) (pl_nil) rfl))))
theorem c_l_parts (hm_list : mg "list" = none) (dn : Dn K mg "_law_parts" "_law_parts" (defArgs (top 101)) (defBody (top 101)) (defScope (top 101)) ["_law_condition_here"]) : Cal P w K mg base (k + 1) "_law_parts" 1 (runDef 1 l_parts_b) :=
  dn.cal sc_l_parts rfl fun f cdv A outer s H E c => b_l_parts hm_list c
abbrev N_l_text : List Str := ["_law_rule_here", "_law_lines", "_law_word", "_law_condition_here", "_law_found", "_law_part", "_law_joint", "_law_one"]
theorem nd_l_text : N_l_text.Nodup := by decide +kernel
theorem sc_l_text : FnScope N_l_text ["_law_rule_here"] (defScope (top 102)) := ⟨rfl, rfl, rfl, nd_l_text, rfl, by decide +kernel, by decide +kernel⟩
theorem b_l_text {f : Addr} {cdv : Value} {A : Around} {outer : List PySem.Env} {s : Shared} {H : Hp} {E : XK} (hm_zip : mg "zip" = none) (hm_len : mg "len" = none) (hm_str : mg "str" = none) (h_l_parts : Cal P w K mg base k "_law_parts" 1 l_parts)
    (c : Cok (CF P w K mg base N_l_text "_law_text" (defScope (top 102)) f cdv A outer s H E) E k) : PDSs (CF P w K mg base N_l_text "_law_text" (defScope (top 102)) f cdv A outer s H E) E (defBody (top 102)) l_text_b :=
  ds_cons (dp_set nd_l_text (by kernel_rfl) (.inl (by kernel_rfl)) (pd_own (pl_nil)) rfl (.inl rfl)) <|
  ds_cons (dp_for own_cf rfl (di_zip (gl_ (by kernel_rfl)) hm_zip (pl_cons (pd_lst (pl_cons (pd_str) (pl_cons (pd_str) (pl_nil) rfl) rfl)) (pl_cons (pv_ (by kernel_rfl)) (pl_nil) rfl) rfl)) (dg_of (tg_tup rfl (tgs_cons (tg_name nd_l_text (by kernel_rfl) (.inl (by kernel_rfl)) (.inr (by kernel_rfl))) (tgs_cons (tg_name nd_l_text (by kernel_rfl) (.inl (by kernel_rfl)) (.inr (by kernel_rfl))) (tgs_nil) (by kernel_rfl)) (by kernel_rfl)) (by kernel_rfl) (by kernel_rfl))) (ds_cons (dp_set nd_l_text (by kernel_rfl) (.inl (by kernel_rfl)) (pd_own (pl_nil)) rfl (.inl rfl)) <|
  ds_cons (dp_for own_cf rfl (di_val (pd_callU c h_l_parts (Nat.le_refl _) (gl_ (by kernel_rfl)) (pl_cons (pv_ (by kernel_rfl)) (pl_nil) rfl) rfl rfl rfl)) (dg_of (tg_name nd_l_text (by kernel_rfl) (.inl (by kernel_rfl)) (.inr (by kernel_rfl)))) (ds_one (dp_expr (pd_meth plain_list slot_append ty_append md_append (pv_ (by kernel_rfl)) (pl_cons (pd_meth plain_str slot_join ty_join md_join (pd_str) (pl_cons (pd_lc (own := [(("_law_one" : Str), 7)]) (t := .nm 7) rfl nd_l_text (di_val (pd_bin od_add (pd_bin od_add (pd_ix (id_ix c.units1) (pv_ (by kernel_rfl)) (pd_int) (fun _ _ => rfl)) (pd_slice (pv_ (by kernel_rfl)) (pdo_none) (pdo_some (pd_int)))) (pd_ix (id_ix c.units1) (pv_ (by kernel_rfl)) (pd_int) (fun _ _ => rfl)))) (blkOk_by (by kernel_rfl)) (fun _ _ _ _ _ => tg_name nd_l_text (by kernel_rfl) (.inl (by kernel_rfl)) (.inr (by kernel_rfl))) (fun _ _ _ _ _ => pts_nilD) (fun _ _ _ _ _ => pd_callTy cd_str (gl_ (by kernel_rfl)) hm_str bb_str (pl_cons (pv_ (by kernel_rfl)) (pl_nil) rfl) (by decide) rfl rfl rfl) (fun _ => rfl) (by decide)) (pl_nil) rfl) rfl rfl rfl rfl rfl) (pl_nil) rfl) rfl rfl rfl rfl rfl) rfl)) (fun _ => rfl)) <|
  ds_cons (dp_set nd_l_text (by kernel_rfl) (.inl (by kernel_rfl)) (pd_if (pb_cmp od_gt (pd_callB cd_len (gl_ (by kernel_rfl)) hm_len bb_len (pl_cons (pv_ (by kernel_rfl)) (pl_nil) rfl) (by decide) rfl rfl rfl) (pd_int) rfl) (pd_bin od_add (pd_bin od_add (pd_str) (pd_ix (id_ix c.units1) (pv_ (by kernel_rfl)) (pd_int) (fun _ _ => rfl))) (pd_str)) (pd_str)) rfl (.inl rfl)) <|
  ds_one (dp_expr (pd_meth plain_list slot_append ty_append md_append (pv_ (by kernel_rfl)) (pl_cons (pd_bin od_add (pd_bin od_add (pv_ (by kernel_rfl)) (pd_str)) (pd_meth plain_str slot_join ty_join md_join (pv_ (by kernel_rfl)) (pl_cons (pv_ (by kernel_rfl)) (pl_nil) rfl) rfl rfl rfl rfl rfl)) (pl_nil) rfl) rfl rfl rfl rfl rfl) rfl)) (fun _ => rfl)) <|
  ds_one (dp_ret (pd_meth plain_str slot_join ty_join md_join (pd_str) (pl_cons (pv_ (by kernel_rfl)) (pl_nil) rfl) rfl rfl rfl rfl rfl))
theorem c_l_text (hm_zip : mg "zip" = none) (hm_len : mg "len" = none) (hm_str : mg "str" = none) (h_l_parts : Cal P w K mg base k "_law_parts" 1 l_parts) (dn : Dn K mg "_law_text" "_law_text" (defArgs (top 102)) (defBody (top 102)) (defScope (top 102)) ["_law_rule_here"]) : Cal P w K mg base (k + 1) "_law_text" 1 (runDef 8 l_text_b) :=
  dn.cal sc_l_text rfl fun f cdv A outer s H E c => b_l_text hm_zip hm_len hm_str h_l_parts c
abbrev N_l_read : List Str := ["_law_text_here", "e"]
theorem nd_l_read : N_l_read.Nodup := by decide +kernel
theorem sc_l_read : FnScope N_l_read ["_law_text_here"] (defScope (top 103)) := ⟨rfl, rfl, rfl, nd_l_read, rfl, by decide +kernel, by decide +kernel⟩
theorem b_l_read {j : Nat} {f : Addr} {cdv : Value} {A : Around} {outer : List PySem.Env} {s : Shared} {H : Hp} {E : XK} (hj : j + 3 ≤ k) (hF_Rule : ClsF K "Rule") (hR_InvalidText_DragError : TryL K "InvalidText" "DragError") (hG_InvalidText : mg "InvalidText" = some (.ref (He.ga K "InvalidText"))) (hG_DragError : mg "DragError" = some (.ref (He.ga K "DragError"))) (hC_Rule_told : CalC P w K mg base j "Rule" "told" 2 p_Rule_told17) (hP_Rule_source : CalP P w K mg base j "Rule" "source" p_Rule_source) (hm_isinstance : mg "isinstance" = none)
    (c : Cok (CF P w K mg base N_l_read "_law_read" (defScope (top 103)) f cdv A outer s H E) E k) : PDSs (CF P w K mg base N_l_read "_law_read" (defScope (top 103)) f cdv A outer s H E) E (defBody (top 103)) l_read_b :=
  ds_one (pds_tryL (i := 1) c rfl rfl nd_l_read (by kernel_rfl) (by kernel_rfl) hG_InvalidText (gl_ (by kernel_rfl)) hG_DragError (gl_ (by kernel_rfl)) hm_isinstance (gl_ (by kernel_rfl)) hR_InvalidText_DragError (fun pn xe E1 c1 => ds_one (dp_ret (pd_tup (pl_cons (pd_prop c1 hF_Rule hP_Rule_source (by omega) (pd_cmeth (pl := _) c1 hC_Rule_told (by omega) (gl_ (by kernel_rfl)) (pl_cons (pv_ (by kernel_rfl)) (pl_nil) rfl) rfl rfl rfl rfl) rfl) (pl_cons (pd_non) (pl_nil) rfl) rfl)))))
theorem c_l_read {j : Nat} (hj : j + 3 ≤ k) (hF_Rule : ClsF K "Rule") (hR_InvalidText_DragError : TryL K "InvalidText" "DragError") (hG_InvalidText : mg "InvalidText" = some (.ref (He.ga K "InvalidText"))) (hG_DragError : mg "DragError" = some (.ref (He.ga K "DragError"))) (hC_Rule_told : CalC P w K mg base j "Rule" "told" 2 p_Rule_told17) (hP_Rule_source : CalP P w K mg base j "Rule" "source" p_Rule_source) (hm_isinstance : mg "isinstance" = none) (dn : Dn K mg "_law_read" "_law_read" (defArgs (top 103)) (defBody (top 103)) (defScope (top 103)) ["_law_text_here"]) : Cal P w K mg base (k + 1) "_law_read" 1 (runDef 2 l_read_b) :=
  dn.cal sc_l_read rfl fun f cdv A outer s H E c => b_l_read hj hF_Rule hR_InvalidText_DragError hG_InvalidText hG_DragError hC_Rule_told hP_Rule_source hm_isinstance c
abbrev N_l_is_part : List Str := ["_law_words", "_law_points", "_law_thing", "_law_middle", "_law_point_here", "_law_head", "_law_share"]
theorem nd_l_is_part : N_l_is_part.Nodup := by decide +kernel
theorem sc_l_is_part : FnScope N_l_is_part ["_law_words"] (defScope (top 104)) := ⟨rfl, rfl, rfl, nd_l_is_part, rfl, by decide +kernel, by decide +kernel⟩
theorem b_l_is_part {f : Addr} {cdv : Value} {A : Around} {outer : List PySem.Env} {s : Shared} {H : Hp} {E : XK} (hm_len : mg "len" = none) (hm_range : mg "range" = none) (hm_str : mg "str" = none)
    (c : Cok (CF P w K mg base N_l_is_part "_law_is_part" (defScope (top 104)) f cdv A outer s H E) E k) : PDSs (CF P w K mg base N_l_is_part "_law_is_part" (defScope (top 104)) f cdv A outer s H E) E (defBody (top 104)) l_is_part_b :=
  ds_cons (dp_set nd_l_is_part (by kernel_rfl) (.inl (by kernel_rfl)) (pd_lst (pl_cons (pd_str) (pl_nil) rfl)) rfl (.inl rfl)) <|
  ds_cons (dp_for own_cf rfl (di_val (pd_tup (pl_cons (pd_str) (pl_cons (pd_str) (pl_cons (pd_str) (pl_nil) rfl) rfl) rfl))) (dg_of (tg_name nd_l_is_part (by kernel_rfl) (.inr (by kernel_rfl)) (.inl (by kernel_rfl)))) (ds_one (dp_set nd_l_is_part (by kernel_rfl) (.inl (by kernel_rfl)) (pd_bin od_add (pv_ (by kernel_rfl)) (pd_lc (own := [(("_law_share" : Str), 6)]) (t := .nm 6) rfl nd_l_is_part (di_range1 (gl_ (by kernel_rfl)) hm_range (pl_cons (pd_int) (pl_nil) rfl) rfl) (blkOk_by (by kernel_rfl)) (fun _ _ _ _ _ => tg_name nd_l_is_part (by kernel_rfl) (.inl (by kernel_rfl)) (.inr (by kernel_rfl))) (fun _ _ _ _ _ => pts_nilD) (fun _ _ _ _ _ => pd_bin od_add (pd_bin od_add (pv_ (by kernel_rfl)) (pd_str)) (pd_callTy cd_str (gl_ (by kernel_rfl)) hm_str bb_str (pl_cons (pv_ (by kernel_rfl)) (pl_nil) rfl) (by decide) rfl rfl rfl)) (fun _ => rfl) (by decide))) rfl (.inl rfl))) (fun _ => rfl)) <|
  ds_cons (dp_for own_cf rfl (di_val (pd_tup (pl_cons (pd_str) (pl_cons (pd_str) (pl_cons (pd_str) (pl_cons (pd_str) (pl_nil) rfl) rfl) rfl) rfl))) (dg_of (tg_name nd_l_is_part (by kernel_rfl) (.inl (by kernel_rfl)) (.inr (by kernel_rfl)))) (ds_one (dp_for own_cf rfl (di_val (pv_ (by kernel_rfl))) (dg_of (tg_name nd_l_is_part (by kernel_rfl) (.inl (by kernel_rfl)) (.inr (by kernel_rfl)))) (ds_cons (dp_set nd_l_is_part (by kernel_rfl) (.inl (by kernel_rfl)) (pd_bin od_add (pd_bin od_add (pd_bin od_add (pv_ (by kernel_rfl)) (pd_str)) (pv_ (by kernel_rfl))) (pd_str)) rfl (.inl rfl)) <|
  ds_one (dp_if (PW.pt (pwb_and (pb_cmp (od_eq c.units) (pd_slice (pv_ (by kernel_rfl)) (pdo_none) (pdo_some (pd_callB cd_len (gl_ (by kernel_rfl)) hm_len bb_len (pl_cons (pv_ (by kernel_rfl)) (pl_nil) rfl) (by decide) rfl rfl rfl))) (pv_ (by kernel_rfl)) rfl) (pw_and1 (pb_cmp (od_in c.units5) (pd_slice (pv_ (by kernel_rfl)) (pdo_some (pd_callB cd_len (gl_ (by kernel_rfl)) hm_len bb_len (pl_cons (pv_ (by kernel_rfl)) (pl_nil) rfl) (by decide) rfl rfl rfl)) (pdo_none)) (pv_ (by kernel_rfl)) rfl)))) (ds_one (dp_ret (pd_bl))) (ds_nil))) (fun _ => rfl))) (fun _ => rfl)) <|
  ds_one (dp_ret (pd_bl))
theorem c_l_is_part (hm_len : mg "len" = none) (hm_range : mg "range" = none) (hm_str : mg "str" = none) (dn : Dn K mg "_law_is_part" "_law_is_part" (defArgs (top 104)) (defBody (top 104)) (defScope (top 104)) ["_law_words"]) : Cal P w K mg base (k + 1) "_law_is_part" 1 (runDef 7 l_is_part_b) :=
  dn.cal sc_l_is_part rfl fun f cdv A outer s H E c => b_l_is_part hm_len hm_range hm_str c
abbrev N_l_is_line : List Str := ["_law_line", "_law_word", "_law_rest", "_law_parts_here", "_law_part"]
theorem nd_l_is_line : N_l_is_line.Nodup := by decide +kernel
theorem sc_l_is_line : FnScope N_l_is_line ["_law_line", "_law_word"] (defScope (top 105)) := ⟨rfl, rfl, rfl, nd_l_is_line, rfl, by decide +kernel, by decide +kernel⟩
theorem b_l_is_line {f : Addr} {cdv : Value} {A : Around} {outer : List PySem.Env} {s : Shared} {H : Hp} {E : XK} (hm_len : mg "len" = none) (h_l_is_part : Cal P w K mg base k "_law_is_part" 1 l_is_part)
    (c : Cok (CF P w K mg base N_l_is_line "_law_is_line" (defScope (top 105)) f cdv A outer s H E) E k) : PDSs (CF P w K mg base N_l_is_line "_law_is_line" (defScope (top 105)) f cdv A outer s H E) E (defBody (top 105)) l_is_line_b :=
  ds_cons (dp_if (pb_cmp (od_ne c.units) (pd_slice (pv_ (by kernel_rfl)) (pdo_none) (pdo_some (pd_bin od_add (pd_callB cd_len (gl_ (by kernel_rfl)) hm_len bb_len (pl_cons (pv_ (by kernel_rfl)) (pl_nil) rfl) (by decide) rfl rfl rfl) (pd_int)))) (pd_bin od_add (pv_ (by kernel_rfl)) (pd_str)) rfl) (ds_one (dp_ret (pd_bl))) (ds_nil)) <|
  ds_cons (dp_set nd_l_is_line (by kernel_rfl) (.inl (by kernel_rfl)) (pd_slice (pv_ (by kernel_rfl)) (pdo_some (pd_bin od_add (pd_callB cd_len (gl_ (by kernel_rfl)) hm_len bb_len (pl_cons (pv_ (by kernel_rfl)) (pl_nil) rfl) (by decide) rfl rfl rfl) (pd_int))) (pdo_none)) rfl (.inl rfl)) <|
  ds_cons (dp_set nd_l_is_line (by kernel_rfl) (.inl (by kernel_rfl)) (pd_if (pb_cmp (od_in c.units5) (pd_str) (pv_ (by kernel_rfl)) rfl) (pd_meth plain_str slot_split ty_split md_split (pv_ (by kernel_rfl)) (pl_cons (pd_str) (pl_nil) rfl) rfl rfl rfl rfl rfl) (pd_meth plain_str slot_split ty_split md_split (pv_ (by kernel_rfl)) (pl_cons (pd_str) (pl_nil) rfl) rfl rfl rfl rfl rfl)) rfl (.inl rfl)) <|
  ds_one (dp_ret (pd_and (pd_cmp od_lt (pd_callB cd_len (gl_ (by kernel_rfl)) hm_len bb_len (pl_cons (pv_ (by kernel_rfl)) (pl_nil) rfl) (by decide) rfl rfl rfl) (pd_int) rfl) (pe_one (pd_cmp (od_eq c.units) (pd_lc (own := [(("_law_part" : Str), 4)]) (t := .nm 4) rfl nd_l_is_line (di_val (pv_ (by kernel_rfl))) (blkOk_by (by kernel_rfl)) (fun _ _ _ _ _ => tg_name nd_l_is_line (by kernel_rfl) (.inl (by kernel_rfl)) (.inr (by kernel_rfl))) (fun _ _ _ _ _ => pts_one (pb_not (pb_val (pd_callU c.blk h_l_is_part (Nat.le_refl _) (gl_ (by kernel_rfl)) (pl_cons (pv_ (by kernel_rfl)) (pl_nil) rfl) rfl rfl rfl) (fun _ => rfl)))) (fun _ _ _ _ _ => pv_ (by kernel_rfl)) (fun _ => rfl) (by decide)) (pd_lst (pl_nil)) rfl))))
theorem c_l_is_line (hm_len : mg "len" = none) (h_l_is_part : Cal P w K mg base k "_law_is_part" 1 l_is_part) (dn : Dn K mg "_law_is_line" "_law_is_line" (defArgs (top 105)) (defBody (top 105)) (defScope (top 105)) ["_law_line", "_law_word"]) : Cal P w K mg base (k + 1) "_law_is_line" 2 (runDef 5 l_is_line_b) :=
  dn.cal sc_l_is_line rfl fun f cdv A outer s H E c => b_l_is_line hm_len h_l_is_part c
abbrev N_p_is_rule : List Str := ["value"]
theorem nd_p_is_rule : N_p_is_rule.Nodup := by decide +kernel
theorem sc_p_is_rule : FnScope N_p_is_rule ["value"] (defScope (top 27)) := ⟨rfl, rfl, rfl, nd_p_is_rule, rfl, by decide +kernel, by decide +kernel⟩
theorem b_p_is_rule {f : Addr} {cdv : Value} {A : Around} {outer : List PySem.Env} {s : Shared} {H : Hp} {E : XK} (h_p_is_good_rule : Cal P w K mg base k "is_good_rule" 1 p_is_good_rule)
    (c : Cok (CF P w K mg base N_p_is_rule "is_rule" (defScope (top 27)) f cdv A outer s H E) E k) : PDSs (CF P w K mg base N_p_is_rule "is_rule" (defScope (top 27)) f cdv A outer s H E) E (defBody (top 27)) p_is_rule_b :=
  ds_one (dp_ret (pd_callU c h_p_is_good_rule (Nat.le_refl _) (gl_ (by kernel_rfl)) (pl_cons (pv_ (by kernel_rfl)) (pl_nil) rfl) rfl rfl rfl))
theorem c_p_is_rule (h_p_is_good_rule : Cal P w K mg base k "is_good_rule" 1 p_is_good_rule) (dn : Dn K mg "is_rule" "is_rule" (defArgs (top 27)) (defBody (top 27)) (defScope (top 27)) ["value"]) : Cal P w K mg base (k + 1) "is_rule" 1 (runDef 1 p_is_rule_b) :=
  dn.cal sc_p_is_rule rfl fun f cdv A outer s H E c => b_p_is_rule h_p_is_good_rule c
abbrev N_l_spoilt17 : List Str := ["_law_source_here", "_law_text_here", "_law_at", "_law_more", "_law_signs", "_law_lines", "_law_spot", "_law_rest"]
theorem nd_l_spoilt17 : N_l_spoilt17.Nodup := by decide +kernel
theorem sc_l_spoilt17 : FnScope N_l_spoilt17 ["_law_source_here", "_law_text_here"] (defScope (top 106)) := ⟨rfl, rfl, rfl, nd_l_spoilt17, rfl, by decide +kernel, by decide +kernel⟩
theorem b_l_spoilt17 {f : Addr} {cdv : Value} {A : Around} {outer : List PySem.Env} {s : Shared} {H : Hp} {E : XK} (hm_len : mg "len" = none) (h_l_of : Cal P w K mg base k "_law_of" 2 l_of) (h_l_draw : Cal P w K mg base k "_law_draw" 2 l_draw)
    (c : Cok (CF P w K mg base N_l_spoilt17 "_law_spoilt" (defScope (top 106)) f cdv A outer s H E) E k) : PDSs (CF P w K mg base N_l_spoilt17 "_law_spoilt" (defScope (top 106)) f cdv A outer s H E) E (defBody (top 106)) l_spoilt17_b :=
  ds_cons (dp_par2 rfl nd_l_spoilt17 (by kernel_rfl) (by kernel_rfl) (by decide) (by kernel_rfl) (by kernel_rfl) (pl_cons (pd_callU c h_l_draw (Nat.le_refl _) (gl_ (by kernel_rfl)) (pl_cons (pv_ (by kernel_rfl)) (pl_cons (pd_bin od_add (pd_callB cd_len (gl_ (by kernel_rfl)) hm_len bb_len (pl_cons (pv_ (by kernel_rfl)) (pl_nil) rfl) (by decide) rfl rfl rfl) (pd_int)) (pl_nil) rfl) rfl) rfl rfl rfl) (pl_cons (pd_callU c h_l_draw (Nat.le_refl _) (gl_ (by kernel_rfl)) (pl_cons (pv_ (by kernel_rfl)) (pl_cons (pd_int) (pl_nil) rfl) rfl) rfl rfl rfl) (pl_nil) rfl) rfl) rfl rfl) <|
  ds_cons (dp_set nd_l_spoilt17 (by kernel_rfl) (.inl (by kernel_rfl)) (pd_lst (pl_cons (pd_str) (pl_cons (pd_str) (pl_cons (pd_str) (pl_cons (pd_str) (pl_cons (pd_str) (pl_cons (pd_str) (pl_cons (pd_str) (pl_cons (pd_str) (pl_cons (pd_str) (pl_cons (pd_str) (pl_cons (pd_str) (pl_nil) rfl) rfl) rfl) rfl) rfl) rfl) rfl) rfl) rfl) rfl) rfl)) rfl (.inl rfl)) <|
  ds_cons (dp_set nd_l_spoilt17 (by kernel_rfl) (.inl (by kernel_rfl)) (pd_bin od_add (pv_ (by kernel_rfl)) (pd_lst (pl_cons (pd_str) (pl_cons (pd_str) (pl_nil) rfl) rfl))) rfl (.inl rfl)) <|
  ds_cons (dp_if (pb_cmp (od_eq c.units) (pv_ (by kernel_rfl)) (pd_int) rfl) (ds_cons (dp_set nd_l_spoilt17 (by kernel_rfl) (.inl (by kernel_rfl)) (pd_meth plain_str slot_split ty_split md_split (pv_ (by kernel_rfl)) (pl_cons (pd_str) (pl_nil) rfl) rfl rfl rfl rfl rfl) rfl (.inl rfl)) <|
  ds_cons (dp_set nd_l_spoilt17 (by kernel_rfl) (.inl (by kernel_rfl)) (pd_callU c h_l_draw (Nat.le_refl _) (gl_ (by kernel_rfl)) (pl_cons (pv_ (by kernel_rfl)) (pl_cons (pd_callB cd_len (gl_ (by kernel_rfl)) hm_len bb_len (pl_cons (pv_ (by kernel_rfl)) (pl_nil) rfl) (by decide) rfl rfl rfl) (pl_nil) rfl) rfl) rfl rfl rfl) rfl (.inl rfl)) <|
  ds_cons (dp_set nd_l_spoilt17 (by kernel_rfl) (.inl (by kernel_rfl)) (pd_slice (pv_ (by kernel_rfl)) (pdo_some (pv_ (by kernel_rfl))) (pdo_some (pd_bin od_add (pv_ (by kernel_rfl)) (pd_callU c h_l_draw (Nat.le_refl _) (gl_ (by kernel_rfl)) (pl_cons (pv_ (by kernel_rfl)) (pl_cons (pd_int) (pl_nil) rfl) rfl) rfl rfl rfl)))) rfl (.inl rfl)) <|
  ds_one (dp_ret (pd_meth plain_str slot_join ty_join md_join (pd_str) (pl_cons (pd_bin od_add (pd_bin od_add (pd_slice (pv_ (by kernel_rfl)) (pdo_none) (pdo_some (pv_ (by kernel_rfl)))) (pd_slice (pv_ (by kernel_rfl)) (pdo_some (pd_bin od_add (pv_ (by kernel_rfl)) (pd_int))) (pdo_none))) (pv_ (by kernel_rfl))) (pl_nil) rfl) rfl rfl rfl rfl rfl))) (ds_nil)) <|
  ds_one (dp_ret (pd_bin od_add (pd_bin od_add (pd_slice (pv_ (by kernel_rfl)) (pdo_none) (pdo_some (pv_ (by kernel_rfl)))) (pd_callU c h_l_of (Nat.le_refl _) (gl_ (by kernel_rfl)) (pl_cons (pv_ (by kernel_rfl)) (pl_cons (pv_ (by kernel_rfl)) (pl_nil) rfl) rfl) rfl rfl rfl)) (pd_slice (pv_ (by kernel_rfl)) (pdo_some (pd_bin od_add (pv_ (by kernel_rfl)) (pv_ (by kernel_rfl)))) (pdo_none))))
theorem c_l_spoilt17 (hm_len : mg "len" = none) (h_l_of : Cal P w K mg base k "_law_of" 2 l_of) (h_l_draw : Cal P w K mg base k "_law_draw" 2 l_draw) (dn : Dn K mg "_law_spoilt" "_law_spoilt" (defArgs (top 106)) (defBody (top 106)) (defScope (top 106)) ["_law_source_here", "_law_text_here"]) : Cal P w K mg base (k + 1) "_law_spoilt" 2 (runDef 8 l_spoilt17_b) :=
  dn.cal sc_l_spoilt17 rfl fun f cdv A outer s H E c => b_l_spoilt17 hm_len h_l_of h_l_draw c
abbrev N_p_law : List Str := ["_law_script", "_law_k", "_law_source_here", "_law_some", "_law_text_here", "_law_turn", "_law_told", "_law_line", "_law_rows", "_law_bad", "_law_good", "_law_texts", "_law_at"]
theorem nd_p_law : N_p_law.Nodup := by decide +kernel
theorem sc_p_law : FnScope N_p_law ["_law_script"] (defScope (top 107)) := ⟨rfl, rfl, rfl, nd_p_law, rfl, by decide +kernel, by decide +kernel⟩
theorem b_p_law {f : Addr} {cdv : Value} {A : Around} {outer : List PySem.Env} {s : Shared} {H : Hp} {E : XK} (hm_range : mg "range" = none) (hm_min : mg "min" = none) (hm_len : mg "len" = none) (h_l_read : Cal P w K mg base k "_law_read" 1 l_read) (h_l_of : Cal P w K mg base k "_law_of" 2 l_of) (h_l_spoilt : Cal P w K mg base k "_law_spoilt" 2 l_spoilt17) (h_l_text : Cal P w K mg base k "_law_text" 1 l_text) (h_p_is_rule : Cal P w K mg base k "is_rule" 1 p_is_rule) (h_l_is_line : Cal P w K mg base k "_law_is_line" 2 l_is_line) (h_l_rule : Cal P w K mg base k "_law_rule" 1 l_rule) (h_l_source : Cal P w K mg base k "_law_source" 2 l_source)
    (c : Cok (CF P w K mg base N_p_law "law" (defScope (top 107)) f cdv A outer s H E) E k) : PDSs (CF P w K mg base N_p_law "law" (defScope (top 107)) f cdv A outer s H E) E (defBody (top 107)) p_law_b :=
  ds_cons (dp_for own_cf rfl (di_range1 (gl_ (by kernel_rfl)) hm_range (pl_cons (pd_bin od_add (pd_int) (pd_callB (cd_min rfl) (gl_ (by kernel_rfl)) hm_min bb_min (pl_cons (pd_callB cd_len (gl_ (by kernel_rfl)) hm_len bb_len (pl_cons (pv_ (by kernel_rfl)) (pl_nil) rfl) (by decide) rfl rfl rfl) (pl_cons (pd_int) (pl_nil) rfl) rfl) (by decide) rfl rfl rfl)) (pl_nil) rfl) rfl) (dg_of (tg_name nd_p_law (by kernel_rfl) (.inl (by kernel_rfl)) (.inr (by kernel_rfl)))) (ds_cons (dp_set nd_p_law (by kernel_rfl) (.inl (by kernel_rfl)) (pd_callU c h_l_source (Nat.le_refl _) (gl_ (by kernel_rfl)) (pl_cons (pv_ (by kernel_rfl)) (pl_cons (pv_ (by kernel_rfl)) (pl_nil) rfl) rfl) rfl rfl rfl) rfl (.inl rfl)) <|
  ds_cons (dp_set nd_p_law (by kernel_rfl) (.inl (by kernel_rfl)) (pd_callU c h_l_rule (Nat.le_refl _) (gl_ (by kernel_rfl)) (pl_cons (pv_ (by kernel_rfl)) (pl_nil) rfl) rfl rfl rfl) rfl (.inl rfl)) <|
  ds_cons (dp_set nd_p_law (by kernel_rfl) (.inl (by kernel_rfl)) (pd_callU c h_l_text (Nat.le_refl _) (gl_ (by kernel_rfl)) (pl_cons (pv_ (by kernel_rfl)) (pl_nil) rfl) rfl rfl rfl) rfl (.inl rfl)) <|
  ds_cons (dp_for own_cf rfl (di_range1 (gl_ (by kernel_rfl)) hm_range (pl_cons (pd_int) (pl_nil) rfl) rfl) (dg_of (tg_name nd_p_law (by kernel_rfl) (.inl (by kernel_rfl)) (.inr (by kernel_rfl)))) (ds_cons (dp_asg (pd_callU c h_l_read (Nat.le_refl _) (gl_ (by kernel_rfl)) (pl_cons (pv_ (by kernel_rfl)) (pl_nil) rfl) rfl rfl rfl) (dg_of (tg_tup rfl (tgs_cons (tg_name nd_p_law (by kernel_rfl) (.inl (by kernel_rfl)) (.inr (by kernel_rfl))) (tgs_cons (tg_name nd_p_law (by kernel_rfl) (.inl (by kernel_rfl)) (.inr (by kernel_rfl))) (tgs_nil) (by kernel_rfl)) (by kernel_rfl)) (by kernel_rfl) (by kernel_rfl))) rfl rfl rfl) <|
  ds_cons (dp_set nd_p_law (by kernel_rfl) (.inr (by kernel_rfl)) (pd_slice (pd_bin od_add (pd_meth plain_str slot_split ty_split md_split (pv_ (by kernel_rfl)) (pl_cons (pd_str) (pl_nil) rfl) rfl rfl rfl rfl rfl) (pd_lst (pl_cons (pd_str) (pl_nil) rfl))) (pdo_none) (pdo_some (pd_int))) rfl (.inl rfl)) <|
  ds_cons (dp_setLcO (own := [(("_law_at" : Str), 12)]) (t := .nm 12) rfl nd_p_law (by kernel_rfl) (by kernel_rfl) (by kernel_rfl) (di_val (pd_tup (pl_cons (pd_int) (pl_cons (pd_int) (pl_nil) rfl) rfl))) (blkOk_by (by kernel_rfl)) (fun _ _ _ _ _ => tg_name nd_p_law (by kernel_rfl) (.inl (by kernel_rfl)) (.inr (by kernel_rfl))) (fun _ _ _ _ _ => pts_one (pb_not (pb_val (pd_callU c.blk h_l_is_line (Nat.le_refl _) (gl_ (by kernel_rfl)) (pl_cons (pd_ix (id_ix c.blk.units1) (pv_ (by kernel_rfl)) (pv_ (by kernel_rfl)) (fun _ _ => rfl)) (pl_cons (pd_ix (id_ix c.blk.units1) (pd_tup (pl_cons (pd_str) (pl_cons (pd_str) (pl_nil) rfl) rfl)) (pv_ (by kernel_rfl)) (fun _ _ => rfl)) (pl_nil) rfl) rfl) rfl rfl rfl) (fun _ => rfl)))) (fun _ _ _ _ _ => pd_bin od_add (pv_ (by kernel_rfl)) (pd_int)) (fun _ => rfl) (by decide)) <|
  ds_cons (dp_if (pb_cmp od_gt (pd_callB cd_len (gl_ (by kernel_rfl)) hm_len bb_len (pl_cons (pd_meth plain_str slot_split ty_split md_split (pv_ (by kernel_rfl)) (pl_cons (pd_str) (pl_nil) rfl) rfl rfl rfl rfl rfl) (pl_nil) rfl) (by decide) rfl rfl rfl) (pd_int) rfl) (ds_one (dp_expr (pd_meth plain_list slot_append ty_append md_append (pv_ (by kernel_rfl)) (pl_cons (pd_int) (pl_nil) rfl) rfl rfl rfl rfl rfl) rfl)) (ds_nil)) <|
  ds_cons (dp_if (PW.pt (pwb_or (PW.pt (pwb_and (pb_cmp od_isN (pv_ (by kernel_rfl)) (pd_non) rfl) (pw_and1 (pb_cmp (od_ne c.units) (pv_ (by kernel_rfl)) (pd_ix (id_ix c.units1) (pd_bin od_add (pv_ (by kernel_rfl)) (pd_lst (pl_cons (pd_int) (pl_nil) rfl))) (pd_int) (fun _ _ => rfl)) rfl)))) (pw_or1 (PW.pt (pwb_and (pb_cmp od_notN (pv_ (by kernel_rfl)) (pd_non) rfl) (pw_and1 (pb_cmp (od_ne c.units) (pv_ (by kernel_rfl)) (pd_lst (pl_nil)) rfl))))))) (ds_one (dp_ret (pd_bl))) (ds_nil)) <|
  ds_cons (dp_if (PW.pt (pwb_and (pb_cmp od_notN (pv_ (by kernel_rfl)) (pd_non) rfl) (pw_and1 (PW.pt (pwb_or (pb_not (pb_val (pd_callU c h_p_is_rule (Nat.le_refl _) (gl_ (by kernel_rfl)) (pl_cons (pv_ (by kernel_rfl)) (pl_nil) rfl) rfl rfl rfl) (fun _ => rfl))) (pw_or1 (pb_cmp (od_ne c.units) (pd_callU c h_l_text (Nat.le_refl _) (gl_ (by kernel_rfl)) (pl_cons (pv_ (by kernel_rfl)) (pl_nil) rfl) rfl rfl rfl) (pv_ (by kernel_rfl)) rfl))))))) (ds_one (dp_ret (pd_bl))) (ds_nil)) <|
  ds_cons (dp_if (PW.pt (pwb_and (pb_cmp (od_eq c.units) (pv_ (by kernel_rfl)) (pd_int) rfl) (pw_and1 (pb_cmp (od_ne c.units) (pv_ (by kernel_rfl)) (pv_ (by kernel_rfl)) rfl)))) (ds_one (dp_ret (pd_bl))) (ds_nil)) <|
  ds_one (dp_set nd_p_law (by kernel_rfl) (.inl (by kernel_rfl)) (pd_slice (pd_callU c h_l_spoilt (Nat.le_refl _) (gl_ (by kernel_rfl)) (pl_cons (pv_ (by kernel_rfl)) (pl_cons (pv_ (by kernel_rfl)) (pl_nil) rfl) rfl) rfl rfl rfl) (pdo_none) (pdo_some (pd_int))) rfl (.inl rfl))) (fun _ => rfl)) <|
  ds_one (dp_if (pb_cmp (od_ne c.units) (pd_callU c h_l_read (Nat.le_refl _) (gl_ (by kernel_rfl)) (pl_cons (pd_callU c h_l_of (Nat.le_refl _) (gl_ (by kernel_rfl)) (pl_cons (pv_ (by kernel_rfl)) (pl_cons (pd_lst (pl_cons (pd_non) (pl_cons (pd_int) (pl_cons (pd_bl) (pl_cons (pd_lst (pl_nil)) (pl_cons (pd_tup (pl_cons (pd_str) (pl_nil) rfl)) (pl_cons (pv_ (by kernel_rfl)) (pl_nil) rfl) rfl) rfl) rfl) rfl) rfl)) (pl_nil) rfl) rfl) rfl rfl rfl) (pl_nil) rfl) rfl rfl rfl) (pd_tup (pl_cons (pd_non) (pl_cons (pd_int) (pl_nil) rfl) rfl)) rfl) (ds_one (dp_ret (pd_bl))) (ds_nil))) (fun _ => rfl)) <|
  ds_cons (dp_set nd_p_law (by kernel_rfl) (.inl (by kernel_rfl)) (pd_str) rfl (.inl rfl)) <|
  ds_cons (dp_set nd_p_law (by kernel_rfl) (.inl (by kernel_rfl)) (pd_lst (pl_cons (pd_str) (pl_cons (pv_ (by kernel_rfl)) (pl_cons (pd_bin od_add (pv_ (by kernel_rfl)) (pd_str)) (pl_cons (pd_bin od_add (pd_str) (pv_ (by kernel_rfl))) (pl_nil) rfl) rfl) rfl) rfl)) rfl (.inl rfl)) <|
  ds_cons (dp_set nd_p_law (by kernel_rfl) (.inl (by kernel_rfl)) (pd_bin od_add (pv_ (by kernel_rfl)) (pd_lst (pl_cons (pd_bin od_add (pv_ (by kernel_rfl)) (pd_str)) (pl_cons (pd_bin od_add (pv_ (by kernel_rfl)) (pd_str)) (pl_nil) rfl) rfl))) rfl (.inl rfl)) <|
  ds_cons (dp_set nd_p_law (by kernel_rfl) (.inl (by kernel_rfl)) (pd_bin od_add (pv_ (by kernel_rfl)) (pd_lst (pl_cons (pd_bin od_add (pv_ (by kernel_rfl)) (pd_str)) (pl_cons (pd_bin od_add (pd_bin od_add (pv_ (by kernel_rfl)) (pd_str)) (pv_ (by kernel_rfl))) (pl_nil) rfl) rfl))) rfl (.inl rfl)) <|
  ds_one (dp_ret (pd_cmp (od_eq c.units) (pd_lc (own := [(("_law_text_here" : Str), 4)]) (t := .nm 4) rfl nd_p_law (di_val (pv_ (by kernel_rfl))) (blkOk_by (by kernel_rfl)) (fun _ _ _ _ _ => tg_name nd_p_law (by kernel_rfl) (.inl (by kernel_rfl)) (.inr (by kernel_rfl))) (fun _ _ _ _ _ => pts_nilD) (fun _ _ _ _ _ => pd_ix (id_ix c.blk.units1) (pd_callU c.blk h_l_read (Nat.le_refl _) (gl_ (by kernel_rfl)) (pl_cons (pv_ (by kernel_rfl)) (pl_nil) rfl) rfl rfl rfl) (pd_int) (fun _ _ => rfl)) (fun _ => rfl) (by decide)) (pd_lst (pl_cons (pd_int) (pl_cons (pd_int) (pl_cons (pd_int) (pl_cons (pd_int) (pl_cons (pd_int) (pl_cons (pd_int) (pl_cons (pd_int) (pl_cons (pd_int) (pl_nil) rfl) rfl) rfl) rfl) rfl) rfl) rfl) rfl)) rfl))
theorem c_p_law (hm_range : mg "range" = none) (hm_min : mg "min" = none) (hm_len : mg "len" = none) (h_l_read : Cal P w K mg base k "_law_read" 1 l_read) (h_l_of : Cal P w K mg base k "_law_of" 2 l_of) (h_l_spoilt : Cal P w K mg base k "_law_spoilt" 2 l_spoilt17) (h_l_text : Cal P w K mg base k "_law_text" 1 l_text) (h_p_is_rule : Cal P w K mg base k "is_rule" 1 p_is_rule) (h_l_is_line : Cal P w K mg base k "_law_is_line" 2 l_is_line) (h_l_rule : Cal P w K mg base k "_law_rule" 1 l_rule) (h_l_source : Cal P w K mg base k "_law_source" 2 l_source) (dn : Dn K mg "law" "law" (defArgs (top 107)) (defBody (top 107)) (defScope (top 107)) ["_law_script"]) : Cal P w K mg base (k + 1) "law" 1 (runDef 13 p_law_b) :=
  dn.cal sc_p_law rfl fun f cdv A outer s H E c => b_p_law hm_range hm_min hm_len h_l_read h_l_of h_l_spoilt h_l_text h_p_is_rule h_l_is_line h_l_rule h_l_source c
end
theorem facts {w : World} {K : Frag} {h : Heap} {mg : Str → Option Value} (X : K.In h) (G : h.Ns mainGlobals mg) (c : SaysM faD fnD tabD testD daD w K) {fa : Addr} (hmg : mg "law" = some (.ref fa)) :
    ∃ fd : FuncData, (∀ (s : Shared) (u : Value), BindsTo s fd ⟨[u], []⟩ [("_law_script", u)]) ∧ ∀ base : Heap, K.In base → base.Ns mainGlobals mg → FnOk pw w K mg base (L2.CX pw w) 15 fa fd ["_law_script"] (spD K 1 p_law) := by
  obtain ⟨fd, F⟩ := c.d.def_ 32 (d := ⟨("law", none), "law", "law", defArgs (top 107), defBody (top 107), defScope (top 107), [], []⟩) rfl
  have e := hmg.symm.trans (He.glo_ok X G (c.fact 32 (f := .glo "law") rfl))
  cases e
  have b := FunD.bindsA (ps := ["_law_script"]) F fun _ _ _ _ _ _ us hl => match us, hl with | [_], _ => rfl
  refine ⟨fd, fun s v => b s [v] rfl, fun base _ _ => ?_⟩
  let P := pw
  have hm_isinstance : mg "isinstance" = none := He.free_ok X G (c.fact 33 rfl)
  have hm_str : mg "str" = none := He.free_ok X G (c.fact 34 rfl)
  have hm_bool : mg "bool" = none := He.free_ok X G (c.fact 35 rfl)
  have hm_int : mg "int" = none := He.free_ok X G (c.fact 36 rfl)
  have hm_len : mg "len" = none := He.free_ok X G (c.fact 37 rfl)
  have hm_tuple : mg "tuple" = none := He.free_ok X G (c.fact 38 rfl)
  have hm_list : mg "list" = none := He.free_ok X G (c.fact 39 rfl)
  have hm_all : mg "all" = none := He.free_ok X G (c.fact 40 rfl)
  have hm_enumerate : mg "enumerate" = none := He.free_ok X G (c.fact 41 rfl)
  have hm_abs : mg "abs" = none := He.free_ok X G (c.fact 42 rfl)
  have hm_range : mg "range" = none := He.free_ok X G (c.fact 43 rfl)
  have hm_zip : mg "zip" = none := He.free_ok X G (c.fact 44 rfl)
  have hm_min : mg "min" = none := He.free_ok X G (c.fact 45 rfl)
  have hm_super : mg "super" = none := He.free_ok X G (c.fact 52 rfl)
  have gc_THINGS : GCon K mg "THINGS" g_THINGS := gcon_tup (zs := ["held", "place", "next"]) X G (c.fact 46 rfl) (c.test 0 rfl)
  have gc_TURNED : KDs P w K mg "TURNED" g_TURNED := kds_of (ks := ["below", "above", "not below", "not above"]) (zs := ["above", "below", "not above", "not below"]) X G (c.fact 47 rfl) (c.keys 0 rfl) (c.test 1 rfl) (by decide +kernel) (by decide +kernel)
  have gc_JOINTS : GCon K mg "JOINTS" g_JOINTS := gcon_tup (zs := ["and", "or"]) X G (c.fact 48 rfl) (c.test 2 rfl)
  have gc_FIGURES : GCon K mg "FIGURES" g_FIGURES := gcon_str X G (c.fact 49 rfl)
  have gc_WORDS : GCon K mg "WORDS" g_WORDS := gcon_tup (zs := ["down", "up"]) X G (c.fact 50 rfl) (c.test 3 rfl)
  have hG_InvalidText : mg "InvalidText" = some (.ref (He.ga K "InvalidText")) := He.glo_ok X G (c.fact 51 rfl)
  have hG_DragError : mg "DragError" = some (.ref (He.ga K "DragError")) := He.glo_ok X G (c.fact 57 rfl)
  have hF_Rule : ClsF K "Rule" := clsF_of (c.fact 53 rfl) (c.test 7 rfl)
  have hS_InvalidText : SupF P w K mg base 1 "InvalidText" "line" := supF_of (P := pw) (m := "not the text of a rule") (c.test 5 rfl) (He.glo_ok X G (c.fact 51 rfl)) hm_super (by kernel_rfl)
  have hR_InvalidText_DragError : TryL K "InvalidText" "DragError" := tryL_of (c.test 6 rfl)
  have hN_Rule_base : NoA K "Rule" "base" := He.noat_ok (c.fact 54 rfl)
  have dn_p_is_among := dn_of (ps := ["words", "value"]) X G c.d 0 rfl (c.fact 0 rfl) (fun _ _ _ _ _ _ us hl => match us, hl with | [_, _], _ => rfl)
  have h_p_is_among : Cal P w K mg base 1 "is_among" 2 p_is_among := c_p_is_among (k := 0) hm_isinstance hm_str  dn_p_is_among
  have dn_p_is_number := dn_of (ps := ["value"]) X G c.d 1 rfl (c.fact 1 rfl) (fun _ _ _ _ _ _ us hl => match us, hl with | [_], _ => rfl)
  have h_p_is_number : Cal P w K mg base 1 "is_number" 1 p_is_number := c_p_is_number (k := 0) hm_isinstance hm_bool hm_int  dn_p_is_number
  have dn_p_is_point := dn_of (ps := ["value"]) X G c.d 2 rfl (c.fact 2 rfl) (fun _ _ _ _ _ _ us hl => match us, hl with | [_], _ => rfl)
  have h_p_is_point : Cal P w K mg base 2 "is_point" 1 p_is_point := c_p_is_point (k := 1) hm_len hm_isinstance hm_tuple gc_THINGS (h_p_is_number.mono (by decide)) (h_p_is_among.mono (by decide)) dn_p_is_point
  have dn_p_is_comparison := dn_of (ps := ["value"]) X G c.d 3 rfl (c.fact 3 rfl) (fun _ _ _ _ _ _ us hl => match us, hl with | [_], _ => rfl)
  have h_p_is_comparison : Cal P w K mg base 3 "is_comparison" 1 p_is_comparison := c_p_is_comparison (k := 2) hm_list hm_len hm_isinstance hm_tuple gc_TURNED (h_p_is_point.mono (by decide)) (h_p_is_among.mono (by decide)) dn_p_is_comparison
  have dn_p_is_good_condition := dn_of (ps := ["value"]) X G c.d 4 rfl (c.fact 4 rfl) (fun _ _ _ _ _ _ us hl => match us, hl with | [_], _ => rfl)
  have h_p_is_good_condition : Cal P w K mg base 4 "is_good_condition" 1 p_is_good_condition := c_p_is_good_condition (k := 3) hm_all hm_len hm_isinstance hm_tuple gc_JOINTS (h_p_is_comparison.mono (by decide)) (h_p_is_among.mono (by decide)) dn_p_is_good_condition
  have dn_p_is_good_rule := dn_of (ps := ["value"]) X G c.d 5 rfl (c.fact 5 rfl) (fun _ _ _ _ _ _ us hl => match us, hl with | [_], _ => rfl)
  have h_p_is_good_rule : Cal P w K mg base 5 "is_good_rule" 1 p_is_good_rule := c_p_is_good_rule (k := 4) hm_all hm_len hm_isinstance hm_tuple (h_p_is_good_condition.mono (by decide)) dn_p_is_good_rule
  have dn_p_Rule_init := dnA_of (ps := ["self", "down", "up"]) (at_ := (fun K => He.ma K (He.ga K "Rule") "__init__")) c 0 rfl (fun _ _ _ _ _ _ us hl => match us, hl with | [_, _, _], _ => rfl)
  have hK_Rule_init := mkC_of (c := "Rule") X G (c.fact 55 rfl) (c.fact 56 rfl) (c_p_Rule_init (P := P) (w := w) (mg := mg) (base := base) (k := 5) (j := 0) (by decide) hF_Rule hN_Rule_base (h_p_is_good_rule.mono (by decide)) dn_p_Rule_init)
  have dn_p_point_in := dn_of (ps := ["words"]) X G c.d 6 rfl (c.fact 6 rfl) (fun _ _ _ _ _ _ us hl => match us, hl with | [_], _ => rfl)
  have h_p_point_in : Cal P w K mg base 1 "point_in" 1 p_point_in := c_p_point_in (k := 0) hm_len hm_int gc_FIGURES  dn_p_point_in
  have dn_p_comparison_in := dn_of (ps := ["words"]) X G c.d 7 rfl (c.fact 7 rfl) (fun _ _ _ _ _ _ us hl => match us, hl with | [_], _ => rfl)
  have h_p_comparison_in : Cal P w K mg base 4 "comparison_in" 1 p_comparison_in := c_p_comparison_in (k := 3) hm_tuple (h_p_is_comparison.mono (by decide)) (h_p_point_in.mono (by decide)) dn_p_comparison_in
  have dn_p_split_at := dn_of (ps := ["words", "joint"]) X G c.d 8 rfl (c.fact 8 rfl) (fun _ _ _ _ _ _ us hl => match us, hl with | [_, _], _ => rfl)
  have h_p_split_at : Cal P w K mg base 1 "split_at" 2 p_split_at := c_p_split_at (k := 0)  dn_p_split_at
  have dn_p_joined := dn_of (ps := ["joint", "parts"]) X G c.d 9 rfl (c.fact 9 rfl) (fun _ _ _ _ _ _ us hl => match us, hl with | [_, _], _ => rfl)
  have h_p_joined : Cal P w K mg base 1 "joined" 2 p_joined := c_p_joined (k := 0) hm_len hm_tuple  dn_p_joined
  have dn_p_joint_of := dn_of (ps := ["condition"]) X G c.d 10 rfl (c.fact 10 rfl) (fun _ _ _ _ _ _ us hl => match us, hl with | [_], _ => rfl)
  have h_p_joint_of : Cal P w K mg base 1 "joint_of" 1 p_joint_of := c_p_joint_of (k := 0) gc_JOINTS  dn_p_joint_of
  have dn_p_point_words := dn_of (ps := ["point"]) X G c.d 11 rfl (c.fact 11 rfl) (fun _ _ _ _ _ _ us hl => match us, hl with | [_], _ => rfl)
  have h_p_point_words : Cal P w K mg base 1 "point_words" 1 p_point_words := c_p_point_words (k := 0) hm_str  dn_p_point_words
  have dn_p_comparison_words := dn_of (ps := ["comparison"]) X G c.d 12 rfl (c.fact 12 rfl) (fun _ _ _ _ _ _ us hl => match us, hl with | [_], _ => rfl)
  have h_p_comparison_words : Cal P w K mg base 2 "comparison_words" 1 p_comparison_words := c_p_comparison_words (k := 1) (h_p_point_words.mono (by decide)) dn_p_comparison_words
  have dn_p_parts_of := dn_of (ps := ["condition"]) X G c.d 13 rfl (c.fact 13 rfl) (fun _ _ _ _ _ _ us hl => match us, hl with | [_], _ => rfl)
  have h_p_parts_of : Cal P w K mg base 1 "parts_of" 1 p_parts_of := c_p_parts_of (k := 0) hm_list gc_JOINTS  dn_p_parts_of
  have dn_p_condition_line := dn_of (ps := ["word", "condition"]) X G c.d 14 rfl (c.fact 14 rfl) (fun _ _ _ _ _ _ us hl => match us, hl with | [_, _], _ => rfl)
  have h_p_condition_line : Cal P w K mg base 3 "condition_line" 2 p_condition_line := c_p_condition_line (k := 2) (h_p_parts_of.mono (by decide)) (h_p_comparison_words.mono (by decide)) (h_p_joint_of.mono (by decide)) dn_p_condition_line
  have dn_p_condition_in := dn_of (ps := ["line", "word"]) X G c.d 15 rfl (c.fact 15 rfl) (fun _ _ _ _ _ _ us hl => match us, hl with | [_, _], _ => rfl)
  have h_p_condition_in : Cal P w K mg base 5 "condition_in" 2 p_condition_in := c_p_condition_in (k := 4) gc_JOINTS (h_p_condition_line.mono (by decide)) (h_p_is_good_condition.mono (by decide)) (h_p_joined.mono (by decide)) (h_p_split_at.mono (by decide)) (h_p_comparison_in.mono (by decide)) dn_p_condition_in
  have dn_p_rule_in17 := dn_of (ps := ["text"]) X G c.d 16 rfl (c.fact 16 rfl) (fun _ _ _ _ _ _ us hl => match us, hl with | [_], _ => rfl)
  have h_p_rule_in : Cal P w K mg base 6 "rule_in" 1 p_rule_in17 := c_p_rule_in17 (k := 5) (j := 1) (by decide) (hS_InvalidText.mono (by decide)) hm_len hm_enumerate hm_isinstance hm_str gc_WORDS (h_p_condition_in.mono (by decide)) dn_p_rule_in17
  have dn_p_Rule_told17 := dnA_of (ps := ["cls", "text"]) (at_ := (fun K => He5.wf K (He.ga K "Rule") "classmethod" "told")) c 1 rfl (fun _ _ _ _ _ _ us hl => match us, hl with | [_, _], _ => rfl)
  have hC_Rule_told := calC_of (c := "Rule") (m := "told") X G (c.fact 55 rfl) (c.test 8 rfl) (c_p_Rule_told17 (P := P) (w := w) (mg := mg) (base := base) (k := 9) (j := 6) (by decide) (hK_Rule_init.mono (by decide)) (h_p_rule_in.mono (by decide)) dn_p_Rule_told17)
  have dn_p_Rule_source := dnA_of (ps := ["self"]) (at_ := (fun K => He5.wf K (He.ga K "Rule") "property" "source")) c 2 rfl (fun _ _ _ _ _ _ us hl => match us, hl with | [_], _ => rfl)
  have hP_Rule_source := calP_of (c := "Rule") (m := "source") (c.test 9 rfl) (c_p_Rule_source (P := P) (w := w) (mg := mg) (base := base) (k := 3) (j := 0) (by decide) hF_Rule hN_Rule_base dn_p_Rule_source)
  have dn_l_source := dn_of (ps := ["_law_script", "_law_k"]) X G c.d 17 rfl (c.fact 17 rfl) (fun _ _ _ _ _ _ us hl => match us, hl with | [_, _], _ => rfl)
  have h_l_source : Cal P w K mg base 1 "_law_source" 2 l_source := c_l_source (k := 0) hm_int hm_len hm_abs  dn_l_source
  have dn_l_draw := dn_of (ps := ["_law_source_here", "_law_many"]) X G c.d 18 rfl (c.fact 18 rfl) (fun _ _ _ _ _ _ us hl => match us, hl with | [_, _], _ => rfl)
  have h_l_draw : Cal P w K mg base 1 "_law_draw" 2 l_draw := c_l_draw (k := 0) hm_int  dn_l_draw
  have dn_l_of := dn_of (ps := ["_law_source_here", "_law_items"]) X G c.d 19 rfl (c.fact 19 rfl) (fun _ _ _ _ _ _ us hl => match us, hl with | [_, _], _ => rfl)
  have h_l_of : Cal P w K mg base 2 "_law_of" 2 l_of := c_l_of (k := 1) hm_len (h_l_draw.mono (by decide)) dn_l_of
  have dn_l_known := dn_of (ps := ["_law_source_here"]) X G c.d 20 rfl (c.fact 20 rfl) (fun _ _ _ _ _ _ us hl => match us, hl with | [_], _ => rfl)
  have h_l_known : Cal P w K mg base 3 "_law_known" 1 l_known := c_l_known (k := 2) (h_l_draw.mono (by decide)) (h_l_of.mono (by decide)) dn_l_known
  have dn_l_point := dn_of (ps := ["_law_source_here"]) X G c.d 21 rfl (c.fact 21 rfl) (fun _ _ _ _ _ _ us hl => match us, hl with | [_], _ => rfl)
  have h_l_point : Cal P w K mg base 3 "_law_point" 1 l_point := c_l_point (k := 2) (h_l_of.mono (by decide)) (h_l_draw.mono (by decide)) dn_l_point
  have dn_l_comparison := dn_of (ps := ["_law_source_here"]) X G c.d 22 rfl (c.fact 22 rfl) (fun _ _ _ _ _ _ us hl => match us, hl with | [_], _ => rfl)
  have h_l_comparison : Cal P w K mg base 4 "_law_comparison" 1 l_comparison := c_l_comparison (k := 3) (h_l_point.mono (by decide)) (h_l_of.mono (by decide)) dn_l_comparison
  have dn_l_condition := dn_of (ps := ["_law_source_here"]) X G c.d 23 rfl (c.fact 23 rfl) (fun _ _ _ _ _ _ us hl => match us, hl with | [_], _ => rfl)
  have h_l_condition : Cal P w K mg base 5 "_law_condition" 1 l_condition := c_l_condition (k := 4) hm_tuple hm_range (h_l_of.mono (by decide)) (h_l_comparison.mono (by decide)) dn_l_condition
  have dn_l_rule := dn_of (ps := ["_law_source_here"]) X G c.d 24 rfl (c.fact 24 rfl) (fun _ _ _ _ _ _ us hl => match us, hl with | [_], _ => rfl)
  have h_l_rule : Cal P w K mg base 6 "_law_rule" 1 l_rule := c_l_rule (k := 5) (h_l_condition.mono (by decide)) (h_l_known.mono (by decide)) (h_l_draw.mono (by decide)) dn_l_rule
  have dn_l_parts := dn_of (ps := ["_law_condition_here"]) X G c.d 25 rfl (c.fact 25 rfl) (fun _ _ _ _ _ _ us hl => match us, hl with | [_], _ => rfl)
  have h_l_parts : Cal P w K mg base 1 "_law_parts" 1 l_parts := c_l_parts (k := 0) hm_list  dn_l_parts
  have dn_l_text := dn_of (ps := ["_law_rule_here"]) X G c.d 26 rfl (c.fact 26 rfl) (fun _ _ _ _ _ _ us hl => match us, hl with | [_], _ => rfl)
  have h_l_text : Cal P w K mg base 2 "_law_text" 1 l_text := c_l_text (k := 1) hm_zip hm_len hm_str (h_l_parts.mono (by decide)) dn_l_text
  have dn_l_read := dn_of (ps := ["_law_text_here"]) X G c.d 27 rfl (c.fact 27 rfl) (fun _ _ _ _ _ _ us hl => match us, hl with | [_], _ => rfl)
  have h_l_read : Cal P w K mg base 14 "_law_read" 1 l_read := c_l_read (k := 13) (j := 10) (by decide) hF_Rule hR_InvalidText_DragError hG_InvalidText hG_DragError (hC_Rule_told.mono (by decide)) (hP_Rule_source.mono (by decide)) hm_isinstance  dn_l_read
  have dn_l_is_part := dn_of (ps := ["_law_words"]) X G c.d 28 rfl (c.fact 28 rfl) (fun _ _ _ _ _ _ us hl => match us, hl with | [_], _ => rfl)
  have h_l_is_part : Cal P w K mg base 1 "_law_is_part" 1 l_is_part := c_l_is_part (k := 0) hm_len hm_range hm_str  dn_l_is_part
  have dn_l_is_line := dn_of (ps := ["_law_line", "_law_word"]) X G c.d 29 rfl (c.fact 29 rfl) (fun _ _ _ _ _ _ us hl => match us, hl with | [_, _], _ => rfl)
  have h_l_is_line : Cal P w K mg base 2 "_law_is_line" 2 l_is_line := c_l_is_line (k := 1) hm_len (h_l_is_part.mono (by decide)) dn_l_is_line
  have dn_p_is_rule := dn_of (ps := ["value"]) X G c.d 30 rfl (c.fact 30 rfl) (fun _ _ _ _ _ _ us hl => match us, hl with | [_], _ => rfl)
  have h_p_is_rule : Cal P w K mg base 6 "is_rule" 1 p_is_rule := c_p_is_rule (k := 5) (h_p_is_good_rule.mono (by decide)) dn_p_is_rule
  have dn_l_spoilt17 := dn_of (ps := ["_law_source_here", "_law_text_here"]) X G c.d 31 rfl (c.fact 31 rfl) (fun _ _ _ _ _ _ us hl => match us, hl with | [_, _], _ => rfl)
  have h_l_spoilt : Cal P w K mg base 3 "_law_spoilt" 2 l_spoilt17 := c_l_spoilt17 (k := 2) hm_len (h_l_of.mono (by decide)) (h_l_draw.mono (by decide)) dn_l_spoilt17
  exact fn_ok F sc_p_law rfl fun cdv A outer s H E ck => b_p_law hm_range hm_min hm_len (h_l_read.mono (by decide)) (h_l_of.mono (by decide)) (h_l_spoilt.mono (by decide)) (h_l_text.mono (by decide)) (h_p_is_rule.mono (by decide)) (h_l_is_line.mono (by decide)) (h_l_rule.mono (by decide)) (h_l_source.mono (by decide)) ck
end LW
open PySem PySem.W
open PySem.Calls PyProof.Rows
theorem PySem.Challenge.cw_dragswaps_k17_texts_spoilt_holds : PySem.Challenge.rw_dragswaps_k17_texts_spoilt.Holds := by
  w_on; o_law
  refine HandSHeadRun.head_any (r := PySem.W.OpenLaw.row PySem.Challenge.rw_dragswaps_k17_texts_spoilt) (q := PySem.W.view (PySem.W.OpenLaw.row PySem.Challenge.rw_dragswaps_k17_texts_spoilt).prog [107]) (H := LW.hk) (ob := LW.ob) (M := 20000) (loose := LW.looseD) (d := HandSHeadRun.topDef (PySem.W.OpenLaw.row PySem.Challenge.rw_dragswaps_k17_texts_spoilt).prog 107) (kwd := []) LW.ob_eq
    (by kernel_rfl) (fun s => by kernel_rfl) LW.runs (by kernel_rfl) (by kernel_rfl) (by kernel_rfl) (by rfl) (by first | assumption | decide +kernel) (by decide +kernel) ⟨rfl, rfl, rfl, rfl, rfl, by decide +kernel⟩ ?hw ?hc
  case hw => w_witness2
  case hc =>
    refine MP.walk_ofM (l := PySem.Challenge.rw_dragswaps_k17_texts_spoilt) (n := 63) (k := 15) (x := "_law_script") (m := LW.p_law) rfl (by decide) (by kernel_rfl) ⟨rfl, by decide, by decide⟩ ?F (fun ns h _ => LW.holds ns h)
    intro w mg h Y G
    obtain ⟨K, KX, c⟩ := Y
    refine ⟨K, KX, by simpa using c.test 4 rfl, fun fa hmg0 => ?_⟩
    have e : (HandSHeadRun.topDef (PySem.W.OpenLaw.row PySem.Challenge.rw_dragswaps_k17_texts_spoilt).prog 107).name = ("law" : PySem.Str) := by kernel_rfl
    rw [e] at hmg0
    exact LW.facts KX G c hmg0

