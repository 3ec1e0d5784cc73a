import PyProof.Rows.All
import HandS.ForMost
import HandS.ForExc
import HandS.Defaults
import HandS.HeadHook3
import HandS.IsInst
import HandS.Deep
import HandS.Wide
import HandS.Conv
import KE.KDictKeyed
import HandS.TupAny
import HandS.TupMul
import HandS.RaiseMore
import HandS.Small
import HandS.Strs
import HandS.Style
import HandS.Head0
import HandS.Head1
import HandS.Head2
import HandS.HeadEnd
import HandS.EndBits
import HandS.HeadNt
import HandS.Zip
import PyProof.Rows.SortShellAny
import HandS.DictComp
import HandS.FStr
import HandS.SetFor
import HandS.Set
import KE.KCallOwn
import KE.KOpsOwn
import HandS.ClsMeth
import HandS.Property
import HandS.SlotsOwn
import HandS.Star
import HandS.Codes
import PyProof.Draws
import HandS.TryMany
import HandS.ExcOwn
import HandS.HeadHook1
import HandS.GenList
import PySem.Challenge.RW_dragswaps_k24_whole_pulls_and_rules
set_option maxHeartbeats 2000000
set_option Elab.async false
set_option linter.all false
set_option maxRecDepth 100000
namespace MP
open PySem L2
open PySem.Spec PyProof.Rows
abbrev Frag := PySem.W.Frag
/-- the values of a dict in the ground -/
def valsD (K : Frag) (a : Addr) (vs : List V) : Bool := match K.lookup a with
  | some ⟨_, _, .dict es _, _⟩ => He.relAll vs (es.toList.map (·.val))
  | _ => false
/-! ## the Hook: .. and tests of one's own -/
abbrev AlM : Type := He.AlT × Bool × List He5.FnW
def obsM (fa : List He.Fa) (fn : List He.DefD) (ts : List He.Tab) (tt : List (Frag → Bool)) (da : List He5.DefA) (K : Frag) : AlM := (He.obsT fa fn ts K, (tt.all fun t => t K) && da.all fun d => d.ok K, da.map fun d => He5.fnA K (d.at_ K))
def valM (fn : List He.DefD) (ts : List He.Tab) (da : List He5.DefA) (w : World) : AlM := (He.valT fn ts w, true, da.map He5.DefA.val)
def memS (s : Stmt) (j : Nat) : Stmt := match s with
  | .ClassDef _ _ _ b _ _ _ _ _ _ _ => b.getD j (.Pass ⟨0, 0, 0, 0⟩)
  | _ => .Pass ⟨0, 0, 0, 0⟩
def clsB (c : Str) (K : Frag) : Bool := PySem.W.selfFirst K (He.ga K c) && (PySem.W.noSeq K (He.ga K c) && (decide (PySem.W.findIn K (.ref (He.ga K c)) "__class__" = some (some (.builtin "object.__class__"))) &&
  (decide (PySem.W.specialIn K (.builtin "object.__class__") "__get__" = some (some (.builtin "getset_descriptor.__get__"))) && (decide (PySem.W.takesIn K (.builtin "object.__class__") = some true) &&
  (decide (PySem.W.mroIn K (He.ga K c) (.type "object") = some true) && (decide (PySem.W.kitOne K (.ref (He.ga K c)) (.ref (He.ga K c)) = some true) && (["NoneType", "bool", "int", "str", "tuple", "list", "dict"] : List String).all fun t => decide (PySem.W.kitOne K (.type t) (.ref (He.ga K c)) = some false)))))))
def methB (c m : Str) (K : Frag) : Bool := PySem.W.fnIn K (He.ma K (He.ga K c) m)
def propB (c f : Str) (K : Frag) : Bool := decide (PySem.W.findIn K (.ref (He.ga K c)) f = some (some (.ref (He.ma K (He.ga K c) f)))) && (decide (PySem.W.specialIn K (.ref (He.ma K (He.ga K c) f)) "__get__" = some (some (.builtin "property.__get__"))) &&
  (decide (PySem.W.takesIn K (.ref (He.ma K (He.ga K c) f)) = some true) && (match PySem.W.recIn K (He.ma K (He.ga K c) f) "property" with
    | some (.ref _ :: _) => true
    | _ => false)))
def cmetB (c m : Str) (K : Frag) : Bool := He5.wrapB K (He.ga K c) "classmethod" "classmethod.__get__" m && (PySem.W.fnIn K (He5.wf K (He.ga K c) "classmethod" m) && (PySem.W.readsIn K (He.ga K c) (.type "type") &&
  decide (PySem.W.specialIn K (.ref (He.ga K c)) "__getattribute__" = some (some (.builtin "type.__getattribute__")))))
def noDict (x : Str) (K : Frag) : Bool := match K.lookup (He.ga K x) with
  | some o => decide (o.cls = .type "tuple") && o.dict.isNone
  | none => false
/-- what is looked at: the module's dict, some of its objects with what they name, and the classes with all that hangs on them -/
def kidsS (g : Addr → Option Obj) (a : Addr) : List Addr := match g a with
  | some o => (He.refsD o).filter fun b => !(Nat.beq b mainGlobals)
  | none => []
def treeS (g : Addr → Option Obj) : Nat → Addr → List Addr
  | 0, a => [a]
  | n + 1, a => a :: (kidsS g a).flatMap (treeS g n)
structure Sel where
  flat : List Str
  deep : List Str
def selS (q : Sel) (g : Addr → Option Obj) : List Addr :=
  mainGlobals :: ((if q.deep.isEmpty then [] else [cStatics]) ++ q.flat.flatMap (fun x => treeS g 1 (He.ga (He.frG g [mainGlobals]) x)) ++ q.deep.flatMap (fun x => treeS g 4 (He.ga (He.frG g [mainGlobals]) x)))
def obsMG (n : Sel) (fa : List He.Fa) (fn : List He.DefD) (ts : List He.Tab) (tt : List (Frag → Bool)) (da : List He5.DefA) (g : Addr → Option Obj) : AlM := obsM fa fn ts tt da (He.frG g (selS n g))
def SaysM (fa : List He.Fa) (fn : List He.DefD) (ts : List He.Tab) (tt : List (Frag → Bool)) (da : List He5.DefA) (w : World) (K : Frag) : Prop := obsM fa fn ts tt da K = valM fn ts da w
def hookM (n : Sel) (fa : List He.Fa) (fn : List He.DefD) (ts : List He.Tab) (tt : List (Frag → Bool)) (da : List He5.DefA) : PySem.W.Hook where
  α := AlM
  obs := fun s => obsMG n fa fn ts tt da s.heap.get?
  val := fun w => valM fn ts da w
  says := fun w h => ∃ K : Frag, K.In h ∧ SaysM fa fn ts tt da w K
  of := fun _ _ e => ⟨_, He.frG_in, e⟩
  keeps := fun _ _ _ ⟨K, hK, c⟩ k => ⟨K, PySem.W.Frag.In.keeps hK k, c⟩
theorem obsMG_eq {n : Sel} {fa : List He.Fa} {fn : List He.DefD} {ts : List He.Tab} {tt : List (Frag → Bool)} {da : List He5.DefA} {g : Addr → Option Obj} {s : Shared} (q : ∀ a, g a = s.heap.get? a) : obsMG n fa fn ts tt da g = (hookM n fa fn ts tt da).obs s := by
  have e : g = s.heap.get? := funext q
  subst e
  rfl
theorem run3 {α β γ δ : Type} {x : Option α} {f : α → β} {g : α → γ} {h : α → δ} {a : β} {b : γ} {c : δ} (k : x.map (fun s => (f s, g s)) = some (a, b)) (l : x.map h = some c) : x.map (fun s => (f s, g s, h s)) = some (a, b, c) := by
  cases x with
  | none => cases k
  | some s =>
    obtain ⟨k1, k2⟩ := Prod.mk.inj (Option.some.inj k)
    exact congrArg some (Prod.ext k1 (Prod.ext k2 (Option.some.inj l)))
section
variable {fa : List He.Fa} {fn : List He.DefD} {ts : List He.Tab} {tt : List (Frag → Bool)} {da : List He5.DefA} {w : World} {K : Frag}
theorem SaysM.t (c : SaysM fa fn ts tt da w K) : He.SaysT fa fn ts w K := congrArg (fun z : AlM => z.1) c
theorem SaysM.d (c : SaysM fa fn ts tt da w K) : He.SaysD fa fn K := c.t.d
theorem SaysM.fact (c : SaysM fa fn ts tt da w K) (i : Nat) {f : He.Fa} (q : fa[i]? = some f) : f.ok K = true := c.d.fact i q
theorem SaysM.test (c : SaysM fa fn ts tt da w K) (i : Nat) {f : Frag → Bool} (q : tt[i]? = some f) : f K = true :=
  List.all_eq_true.mp (Bool.and_eq_true_iff.mp (show ((tt.all fun t => t K) && da.all fun d => d.ok K) = true from congrArg (fun z : AlM => z.2.1) c)).1 f (List.mem_of_getElem? q)
theorem SaysM.defA (c : SaysM fa fn ts tt da w K) (i : Nat) {d : He5.DefA} (h : da[i]? = some d) : ∃ fd, FunD K d.name d.qual d.params d.body d.scope (d.dvs K) (d.kws K) (d.at_ K) fd := by
  have c2 := (Bool.and_eq_true_iff.mp (show ((tt.all fun t => t K) && da.all fun d => d.ok K) = true from congrArg (fun z : AlM => z.2.1) c)).2
  have e : da.map (fun d => He5.fnA K (d.at_ K)) = da.map He5.DefA.val := congrArg (fun z : AlM => z.2.2) c
  have e2 : (da.map fun d => He5.fnA K (d.at_ K))[i]? = (da.map He5.DefA.val)[i]? := by rw [e]
  rw [List.getElem?_map, List.getElem?_map, h] at e2
  exact He5.DefA.funD (Option.some.inj e2) (List.all_eq_true.mp c2 d (List.mem_of_getElem? h))
theorem SaysM.keys (c : SaysM fa fn ts tt da w K) (i : Nat) {t : He.Tab} (q : ts[i]? = some t) : He.dicW K (t.1 K) = some (He.keysIn w.params t.2) := by
  have e : ts.map (fun t => He.dicW K (t.1 K)) = ts.map fun t => some (He.keysIn w.params t.2) := congrArg (fun z : AlM => z.1.2) c
  have e2 := congrArg (fun l => l[i]?) e
  simp only [List.getElem?_map, q, Option.map_some] at e2
  exact Option.some.inj e2
end

def catB (c f : Str) (zs : List Str) (K : Frag) : Bool := PySem.W.readsIn K (He.ga K c) (.type "type") && (match PySem.W.findCls K (.ref (He.ga K c)) (.type "type") f with
  | some (.val (.ref a)) => PySem.W.handedIn (.ref a) && (match K.lookup a with
    | some ⟨.type t, none, .seq its _, _⟩ => decide (t = "tuple") && (decide (its.size ≤ sizeLine) && He.relAll ((zs.map He.Dv.str).map (He.Dv.v K)) its.toList)
    | _ => false)
  | _ => false)
end MP
set_option maxHeartbeats 2000000
namespace LW
open PySem L2 MP
open PySem.Spec PyProof.Rows
abbrev pw : Program := PySem.Challenge.pw_dragswaps_k24_whole_pulls_and_rules
def top (i : Nat) : Stmt := pw.main.body.getD i (.Pass ⟨0, 0, 0, 0⟩)
/-! ### the head -/
def fnD : List He.DefD := ([⟨("is_among", none), "is_among", "is_among", defArgs (top 14), defBody (top 14), defScope (top 14), [], []⟩, ⟨("is_number", none), "is_number", "is_number", defArgs (top 13), defBody (top 13), defScope (top 13), [], []⟩, ⟨("is_point", none), "is_point", "is_point", defArgs (top 15), defBody (top 15), defScope (top 15), [], []⟩, ⟨("is_comparison", none), "is_comparison", "is_comparison", defArgs (top 16), defBody (top 16), defScope (top 16), [], []⟩, ⟨("is_good_condition", none), "is_good_condition", "is_good_condition", defArgs (top 17), defBody (top 17), defScope (top 17), [], []⟩, ⟨("is_good_rule", none), "is_good_rule", "is_good_rule", defArgs (top 18), defBody (top 18), defScope (top 18), [], []⟩, ⟨("need_rule", none), "need_rule", "need_rule", defArgs (top 20), defBody (top 20), defScope (top 20), [], []⟩, ⟨("is_good_drag", none), "is_good_drag", "is_good_drag", defArgs (top 19), defBody (top 19), defScope (top 19), [], []⟩, ⟨("need_drag", none), "need_drag", "need_drag", defArgs (top 21), defBody (top 21), defScope (top 21), [], []⟩, ⟨("point_at", none), "point_at", "point_at", defArgs (top 27), defBody (top 27), defScope (top 27), [], []⟩, ⟨("is_so", none), "is_so", "is_so", defArgs (top 28), defBody (top 28), defScope (top 28), [], []⟩, ⟨("parts_of", none), "parts_of", "parts_of", defArgs (top 24), defBody (top 24), defScope (top 24), [], []⟩] : List He.DefD) ++ ([⟨("holds", none), "holds", "holds", defArgs (top 29), defBody (top 29), defScope (top 29), [], []⟩, ⟨("others_of", none), "others_of", "others_of", defArgs (top 30), defBody (top 30), defScope (top 30), [], []⟩, ⟨("spans_at", none), "spans_at", "spans_at", defArgs (top 31), defBody (top 31), defScope (top 31), [], []⟩, ⟨("turn_of", none), "turn_of", "turn_of", defArgs (top 32), defBody (top 32), defScope (top 32), [], []⟩, ⟨("rest_of", none), "rest_of", "rest_of", defArgs (top 33), defBody (top 33), defScope (top 33), [], []⟩, ⟨("need_pointer", none), "need_pointer", "need_pointer", defArgs (top 22), defBody (top 22), defScope (top 22), [], []⟩, ⟨("are_pointers", none), "are_pointers", "are_pointers", defArgs (top 35), defBody (top 35), defScope (top 35), [], []⟩, ⟨("need_pointers", none), "need_pointers", "need_pointers", defArgs (top 36), defBody (top 36), defScope (top 36), [], []⟩, ⟨("_law_source", none), "_law_source", "_law_source", defArgs (top 44), defBody (top 44), defScope (top 44), [], []⟩, ⟨("_law_draw", none), "_law_draw", "_law_draw", defArgs (top 45), defBody (top 45), defScope (top 45), [], []⟩, ⟨("_law_of", none), "_law_of", "_law_of", defArgs (top 46), defBody (top 46), defScope (top 46), [], []⟩, ⟨("_law_known", none), "_law_known", "_law_known", defArgs (top 50), defBody (top 50), defScope (top 50), [], []⟩] : List He.DefD) ++ ([⟨("_law_point", none), "_law_point", "_law_point", defArgs (top 47), defBody (top 47), defScope (top 47), [], []⟩, ⟨("_law_comparison", none), "_law_comparison", "_law_comparison", defArgs (top 48), defBody (top 48), defScope (top 48), [], []⟩, ⟨("_law_condition", none), "_law_condition", "_law_condition", defArgs (top 49), defBody (top 49), defScope (top 49), [], []⟩, ⟨("_law_rule", none), "_law_rule", "_law_rule", defArgs (top 51), defBody (top 51), defScope (top 51), [], []⟩, ⟨("_law_drag", none), "_law_drag", "_law_drag", defArgs (top 52), defBody (top 52), defScope (top 52), [], []⟩, ⟨("_law_pointer", none), "_law_pointer", "_law_pointer", defArgs (top 53), defBody (top 53), defScope (top 53), [], []⟩, ⟨("places_of", none), "places_of", "places_of", defArgs (top 34), defBody (top 34), defScope (top 34), [], []⟩, ⟨("way", none), "way", "way", defArgs (top 40), defBody (top 40), defScope (top 40), [], []⟩, ⟨("_law_moved", none), "_law_moved", "_law_moved", defArgs (top 54), defBody (top 54), defScope (top 54), [], []⟩, ⟨("need_place", none), "need_place", "need_place", defArgs (top 23), defBody (top 23), defScope (top 23), [], []⟩, ⟨("need_all", none), "need_all", "need_all", defArgs (top 37), defBody (top 37), defScope (top 37), [], []⟩, ⟨("settle", none), "settle", "settle", defArgs (top 39), defBody (top 39), defScope (top 39), [], []⟩] : List He.DefD) ++ ([⟨("goes", none), "goes", "goes", defArgs (top 38), defBody (top 38), defScope (top 38), [], []⟩, ⟨("law", none), "law", "law", defArgs (top 55), defBody (top 55), defScope (top 55), [], []⟩] : List He.DefD)
def faD : List He.Fa := ([.glo "is_among", .glo "is_number", .glo "is_point", .glo "is_comparison", .glo "is_good_condition", .glo "is_good_rule", .glo "need_rule", .glo "is_good_drag", .glo "need_drag", .glo "point_at", .glo "is_so", .glo "parts_of"] : List He.Fa) ++ ([.glo "holds", .glo "others_of", .glo "spans_at", .glo "turn_of", .glo "rest_of", .glo "need_pointer", .glo "are_pointers", .glo "need_pointers", .glo "_law_source", .glo "_law_draw", .glo "_law_of", .glo "_law_known"] : List He.Fa) ++ ([.glo "_law_point", .glo "_law_comparison", .glo "_law_condition", .glo "_law_rule", .glo "_law_drag", .glo "_law_pointer", .glo "places_of", .glo "way", .glo "_law_moved", .glo "need_place", .glo "need_all", .glo "settle"] : List He.Fa) ++ ([.glo "goes", .glo "law", .free "isinstance", .free "str", .free "bool", .free "int", .free "len", .free "tuple", .free "list", .free "all", .free "any", .free "sum"] : List He.Fa) ++ ([.free "range", .free "abs", .free "min", .free "sorted", .free "zip", .glo "THINGS", .glo "TURNED", .glo "JOINTS", .int "MOST_POINTERS" 40, .glo "InvalidRule", .exc "InvalidRule", .glo "InvalidDrag"] : List He.Fa) ++ ([.exc "InvalidDrag", .glo "Flickers", .exc "Flickers", .glo "InvalidPointer", .exc "InvalidPointer", .glo "NothingToUndo", .exc "NothingToUndo", .glo "InvalidPlace", .exc "InvalidPlace", .exm "Flickers" "Flickers" true, .cls "Pull", .noat "Pull" "past"] : List He.Fa) ++ ([.noat "Pull" "now", .noat "Pull" "drag", .noat "Pull" "rule", .meth "Pull" "to", .meth "Pull" "__eq__", .mkr "Pull", .glo "Pull", .meth "Pull" "__bool__", .meth "Pull" "undo", .meth "Pull" "__getitem__", .meth "Pull" "__contains__", .meth "Pull" "log"] : List He.Fa) ++ ([.meth "Pull" "__iadd__", .meth "Pull" "go_on"] : List He.Fa)
def tabD : List He.Tab := [(fun K => He.ga K "TURNED", ["below", "above", "not below", "not above"])]
def testD : List (Frag → Bool) := ([fun K => He.tupB K "THINGS" ((["held", "place", "next"] : List Str).map He.Dv.str), fun K => valsD K (He.ga K "TURNED") ((["above", "below", "not above", "not below"] : List Str).map V.str), fun K => He.tupB K "JOINTS" ((["and", "or"] : List Str).map He.Dv.str), clsB "Pull", methB "Pull" "to", methB "Pull" "__eq__", methB "Pull" "__bool__", propB "Pull" "place", methB "Pull" "undo", propB "Pull" "drawn", propB "Pull" "pointer", propB "Pull" "order"] : List (Frag → Bool)) ++ ([methB "Pull" "__getitem__", methB "Pull" "__contains__", methB "Pull" "log", methB "Pull" "__iadd__", methB "Pull" "go_on", propB "Pull" "order"] : List (Frag → Bool))
def daD : List He5.DefA := ([⟨(fun K => He.ma K (He.ga K "Pull") "__init__"), "__init__", "Pull.__init__", defArgs (memS (top 42) 0), defBody (memS (top 42) 0), defScope (memS (top 42) 0), [], []⟩, ⟨(fun K => He5.wf K (He.ga K "Pull") "property" "pointer"), "pointer", "Pull.pointer", defArgs (memS (top 42) 1), defBody (memS (top 42) 1), defScope (memS (top 42) 1), [], []⟩, ⟨(fun K => He5.wf K (He.ga K "Pull") "property" "place"), "place", "Pull.place", defArgs (memS (top 42) 2), defBody (memS (top 42) 2), defScope (memS (top 42) 2), [], []⟩, ⟨(fun K => He5.wf K (He.ga K "Pull") "property" "order"), "order", "Pull.order", defArgs (memS (top 42) 3), defBody (memS (top 42) 3), defScope (memS (top 42) 3), [], []⟩, ⟨(fun K => He5.wf K (He.ga K "Pull") "property" "order"), "order", "Pull.order", defArgs (memS (top 42) 3), defBody (memS (top 42) 3), defScope (memS (top 42) 3), [], []⟩, ⟨(fun K => He5.wf K (He.ga K "Pull") "property" "drawn"), "drawn", "Pull.drawn", defArgs (memS (top 42) 4), defBody (memS (top 42) 4), defScope (memS (top 42) 4), [], []⟩, ⟨(fun K => He.ma K (He.ga K "Pull") "go_on"), "go_on", "Pull.go_on", defArgs (memS (top 42) 5), defBody (memS (top 42) 5), defScope (memS (top 42) 5), [], []⟩, ⟨(fun K => He.ma K (He.ga K "Pull") "to"), "to", "Pull.to", defArgs (memS (top 42) 6), defBody (memS (top 42) 6), defScope (memS (top 42) 6), [], []⟩, ⟨(fun K => He.ma K (He.ga K "Pull") "__iadd__"), "__iadd__", "Pull.__iadd__", defArgs (memS (top 42) 7), defBody (memS (top 42) 7), defScope (memS (top 42) 7), [], []⟩, ⟨(fun K => He.ma K (He.ga K "Pull") "undo"), "undo", "Pull.undo", defArgs (memS (top 42) 8), defBody (memS (top 42) 8), defScope (memS (top 42) 8), [], []⟩, ⟨(fun K => He.ma K (He.ga K "Pull") "__getitem__"), "__getitem__", "Pull.__getitem__", defArgs (memS (top 42) 10), defBody (memS (top 42) 10), defScope (memS (top 42) 10), [], []⟩, ⟨(fun K => He.ma K (He.ga K "Pull") "__contains__"), "__contains__", "Pull.__contains__", defArgs (memS (top 42) 12), defBody (memS (top 42) 12), defScope (memS (top 42) 12), [], []⟩] : List He5.DefA) ++ ([⟨(fun K => He.ma K (He.ga K "Pull") "__bool__"), "__bool__", "Pull.__bool__", defArgs (memS (top 42) 13), defBody (memS (top 42) 13), defScope (memS (top 42) 13), [], []⟩, ⟨(fun K => He.ma K (He.ga K "Pull") "__eq__"), "__eq__", "Pull.__eq__", defArgs (memS (top 42) 15), defBody (memS (top 42) 15), defScope (memS (top 42) 15), [], []⟩, ⟨(fun K => He.ma K (He.ga K "Pull") "log"), "log", "Pull.log", defArgs (memS (top 42) 16), defBody (memS (top 42) 16), defScope (memS (top 42) 16), [], []⟩] : List He5.DefA)
def looseD : List Str := (["_wall", "DragError", "InvalidRule", "InvalidDrag", "InvalidPointer", "InvalidPlace", "Flickers", "NothingToUndo", "THINGS", "TURNED", "JOINTS", "is_number"] : List Str) ++ (["is_among", "is_point", "is_comparison", "is_good_condition", "is_good_rule", "is_good_drag", "need_rule", "need_drag", "need_pointer", "need_place", "parts_of", "MOST_POINTERS"] : List Str) ++ (["point_at", "is_so", "holds", "others_of", "spans_at", "turn_of", "rest_of", "places_of", "are_pointers", "need_pointers", "need_all", "goes"] : List Str) ++ (["settle", "way", "Pull", "_law_source", "_law_draw", "_law_of", "_law_point", "_law_comparison", "_law_condition", "_law_known", "_law_rule", "_law_drag"] : List Str) ++ (["_law_pointer", "_law_moved"] : List Str)
def selD : Sel := ⟨(["is_among", "is_number", "is_point", "is_comparison", "is_good_condition", "is_good_rule", "need_rule", "is_good_drag", "need_drag", "point_at", "is_so", "parts_of"] : List Str) ++ (["holds", "others_of", "spans_at", "turn_of", "rest_of", "need_pointer", "are_pointers", "need_pointers", "_law_source", "_law_draw", "_law_of", "_law_known"] : List Str) ++ (["_law_point", "_law_comparison", "_law_condition", "_law_rule", "_law_drag", "_law_pointer", "places_of", "way", "_law_moved", "need_place", "need_all", "settle"] : List Str) ++ (["goes", "law", "THINGS", "TURNED", "JOINTS", "MOST_POINTERS"] : List Str), ["InvalidRule", "InvalidDrag", "Flickers", "InvalidPointer", "NothingToUndo", "InvalidPlace", "Pull"]⟩
abbrev RowH : PySem.W.OpenRow := PySem.W.OpenLaw.row PySem.Challenge.rw_dragswaps_k24_whole_pulls_and_rules
abbrev hk : PySem.W.Hook := hookM selD faD fnD tabD testD daD
def ob (s : PySem.W.SharedT) : AlM := obsMG selD faD fnD tabD testD daD (HandSHeadRun.getT s)
theorem ob_eq (s : PySem.W.SharedT) : ob s = hk.obs s.abs := obsMG_eq (HandSHeadRun.getT_eq s)
theorem runsOF (w : World) (os : OsState) : (HandSHeadRun.endF (HandSHeadRun.stepQ (HandSHeadRun.denQ HandSHeadRun.tabQ) RowH.prog (w.withFollow "special-get-raises" false)) 20000 RowH.prog (w.withFollow "special-get-raises" false) os).map (fun s => ob s) = some (hk.val (w.withFollow "special-get-raises" false)) := by kernel_rfl
theorem runsLF (w : World) (os : OsState) : (HandSHeadRun.endF (HandSHeadRun.stepQ (HandSHeadRun.denQ HandSHeadRun.tabQ) RowH.prog (w.withFollow "special-get-raises" false)) 20000 RowH.prog (w.withFollow "special-get-raises" false) os).map (fun s => (HandSHeadRun.looksF RowH.prog (PySem.W.boot_heap (w.withFollow "special-get-raises" false).params) s.abs, HandSHeadRun.seenQ (PySem.W.view RowH.prog [55]) looseD (importedModules RowH.prog.main.body) (fun s => PySem.W.xlAt (PySem.W.view RowH.prog [55]) [] s && PySem.W.recOk RowH.toRowW.records s) s.abs)) = some (true, PySem.W.openGood (PySem.W.view RowH.prog [55]) looseD) := by kernel_rfl
theorem runsF (w : World) : HandSHeadRun.RunEq RowH (PySem.W.view RowH.prog [55]) hk ob 20000 looseD (w.withFollow "special-get-raises" false) := fun os => MP.run3 (runsLF w os) (runsOF w os)
theorem runsOT (w : World) (os : OsState) : (HandSHeadRun.endF (HandSHeadRun.stepQ (HandSHeadRun.denQ HandSHeadRun.tabQ) RowH.prog (w.withFollow "special-get-raises" true)) 20000 RowH.prog (w.withFollow "special-get-raises" true) os).map (fun s => ob s) = some (hk.val (w.withFollow "special-get-raises" true)) := by kernel_rfl
theorem runsLT (w : World) (os : OsState) : (HandSHeadRun.endF (HandSHeadRun.stepQ (HandSHeadRun.denQ HandSHeadRun.tabQ) RowH.prog (w.withFollow "special-get-raises" true)) 20000 RowH.prog (w.withFollow "special-get-raises" true) os).map (fun s => (HandSHeadRun.looksF RowH.prog (PySem.W.boot_heap (w.withFollow "special-get-raises" true).params) s.abs, HandSHeadRun.seenQ (PySem.W.view RowH.prog [55]) looseD (importedModules RowH.prog.main.body) (fun s => PySem.W.xlAt (PySem.W.view RowH.prog [55]) [] s && PySem.W.recOk RowH.toRowW.records s) s.abs)) = some (true, PySem.W.openGood (PySem.W.view RowH.prog [55]) looseD) := by kernel_rfl
theorem runsT (w : World) : HandSHeadRun.RunEq RowH (PySem.W.view RowH.prog [55]) hk ob 20000 looseD (w.withFollow "special-get-raises" true) := fun os => MP.run3 (runsLT w os) (runsOT w os)
theorem runs (w : World) : HandSHeadRun.RunEq RowH (PySem.W.view RowH.prog [55]) hk ob 20000 looseD w :=
  PySem.W.byRow2 "special-get-raises" (P := fun w => HandSHeadRun.RunEq RowH (PySem.W.view RowH.prog [55]) hk ob 20000 looseD w) runsF runsT w

end LW
namespace MP
open PySem L2
open PySem.Spec PyProof.Rows

/-! ## data, stores, the monad -/
inductive D where
  | non | bl (b : Bool) | int (i : Int) | str (s : Str)
  | tup (ds : List D) | lst (ds : List D) | dic (ks : List Key) (ds : List D)
  | scr (ns : List Int) | ref (n : Nat) | kset (ds : List D) | cls (c : Str) | exv | tupn (ds : List D)
  deriving Inhabited

inductive Cell where
  | dead | lst (ds : List D) | dic (ks : List Key) (ds : List D) | ins (c : Str) (fs : List Str) (ds : List D) | kset (ds : List D)
  deriving Inhabited

abbrev Store := List Cell
structure Exn where
  cls : Str
  arg : Option D

inductive R (α : Type) where
  | ok (a : α) (st : Store) | exn (e : Exn) (st : Store) | stuck

def M (α : Type) : Type := Store → R α
def M.pure {α : Type} (a : α) : M α := fun st => .ok a st
def M.bind {α β : Type} (m : M α) (f : α → M β) : M β := fun st => match m st with
  | .ok a st' => f a st'
  | .exn e st' => .exn e st'
  | .stuck => .stuck
instance : Monad M := { pure := M.pure, bind := M.bind }
def M.stuck {α : Type} : M α := fun _ => .stuck
def M.raise {α : Type} (e : Exn) : M α := fun st => .exn e st
def M.get : M Store := fun st => .ok st st
theorem M.ext {α : Type} {m m' : M α} (h : ∀ st, m st = m' st) : m = m' := funext h
instance : LawfulMonad M := LawfulMonad.mk'
  (id_map := fun x => M.ext fun st => by show (match x st with | .ok a st' => R.ok a st' | .exn e st' => .exn e st' | .stuck => .stuck) = x st; cases x st <;> rfl)
  (pure_bind := fun _ _ => rfl)
  (bind_assoc := fun x f g => M.ext fun st => by
    show M.bind (M.bind x f) g st = M.bind x (fun a => M.bind (f a) g) st
    unfold M.bind
    cases x st <;> rfl)
theorem bind_def {α β : Type} (m : M α) (f : α → M β) (st : Store) : (m >>= f) st = (match m st with
  | .ok a st' => f a st'
  | .exn e st' => .exn e st'
  | .stuck => .stuck) := rfl
theorem pure_def {α : Type} (a : α) (st : Store) : (Pure.pure a : M α) st = .ok a st := rfl

def wpR {α : Type} (r : R α) (Q : α → Store → Prop) (X : Exn → Store → Prop) : Prop := match r with
  | .ok a st => Q a st
  | .exn e st => X e st
  | .stuck => False
theorem wpR.mono {α : Type} {r : R α} {Q Q' : α → Store → Prop} {X X' : Exn → Store → Prop} (h : wpR r Q X) (hQ : ∀ a st, Q a st → Q' a st) (hX : ∀ e st, X e st → X' e st) : wpR r Q' X' := by
  cases r with
  | ok a st => exact hQ _ _ h
  | exn e st => exact hX _ _ h
  | stuck => exact h
theorem wpR.bind {α β : Type} {m : M α} {f : α → M β} {st : Store} {Q : β → Store → Prop} {X : Exn → Store → Prop} : wpR ((m >>= f) st) Q X ↔ wpR (m st) (fun a st' => wpR (f a st') Q X) X := by
  rw [bind_def]
  cases m st <;> exact Iff.rfl

/-! ## places: where the store's cells lie, what else is reserved -/
structure Lo where
  l : List (Option Addr)
  z : List Addr
  x : Option Addr := none
def Lo.av (o : Lo) (a : Addr) : Prop := some a ∉ o.l ∧ a ∉ o.z

def KTup (K : PySem.W.Frag) (a : Addr) (xs : List V) : Prop :=
  ∃ (o : Obj) (its : Array Value) (n : Nat), K.lookup a = some o ∧ o.cls = .type "tuple" ∧ o.data = .seq its n ∧ its.size ≤ sizeLine ∧ Vals xs its.toList

def KLst (K : PySem.W.Frag) (a : Addr) (xs : List V) : Prop :=
  ∃ (o : Obj) (its : Array Value) (n : Nat), K.lookup a = some o ∧ o.cls = .type "list" ∧ o.dict = none ∧ o.data = .seq its n ∧ its.size ≤ sizeLine ∧ Vals xs its.toList

/-! ### dicts with nested tuples of numbers as keys, all with the value True -/
mutual
def nk : D → Option NestedKey
  | .non => some .none
  | .bl b => some (.num (if b = true then 1 else 0))
  | .int i => some (.num i)
  | .tup ds => (nks ds).map NestedKey.tup
  | _ => none
def nks : List D → Option (List NestedKey)
  | [] => some []
  | d :: ds => (nk d).bind fun k => (nks ds).map (k :: ·)
end
mutual
def hashN : NestedKey → Int
  | .none => reduceHash 0xFCA86420
  | .num i => hashInt i
  | .text _ => 0
  | .tup ks => reduceHash (Builtin.Tuple.tupleHashOf (hashesN ks))
def hashesN : List NestedKey → List Int
  | [] => []
  | k :: ks => hashN k :: hashesN ks
end
mutual
theorem nk_hash {w : World} : ∀ (d : D) (k : NestedKey), nk d = some k → k.hash w = hashN k
  | .non, k, h => by cases (show some NestedKey.none = some k from h); rfl
  | .bl b, k, h => by cases (show some (NestedKey.num _) = some k from h); rfl
  | .int i, k, h => by cases (show some (NestedKey.num _) = some k from h); rfl
  | .tup ds, k, h => by
    obtain ⟨ks, e, rfl⟩ := Option.map_eq_some_iff.mp (show (nks ds).map NestedKey.tup = some k from h)
    show reduceHash (Builtin.Tuple.tupleHashOf (NestedKey.hashes w ks)) = reduceHash (Builtin.Tuple.tupleHashOf (hashesN ks))
    rw [nks_hash ds ks e]
  | .str _, _, h => by cases (show none = some _ from h)
  | .lst _, _, h => by cases (show none = some _ from h)
  | .dic _ _, _, h => by cases (show none = some _ from h)
  | .scr _, _, h => by cases (show none = some _ from h)
  | .ref _, _, h => by cases (show none = some _ from h)
  | .kset _, _, h => by cases (show none = some _ from h)
  | .cls _, _, h => by cases (show none = some _ from h)
  | .exv, _, h => by cases (show none = some _ from h)
  | .tupn _, _, h => by cases (show none = some _ from h)
theorem nks_hash {w : World} : ∀ (ds : List D) (ks : List NestedKey), nks ds = some ks → NestedKey.hashes w ks = hashesN ks
  | [], ks, h => by cases (show some [] = some ks from h); rfl
  | d :: ds, ks, h => by
    obtain ⟨k, e1, e2⟩ := Option.bind_eq_some_iff.mp (show (nk d).bind (fun k => (nks ds).map (k :: ·)) = some ks from h)
    obtain ⟨r, e3, rfl⟩ := Option.map_eq_some_iff.mp e2
    show NestedKey.hash w k :: NestedKey.hashes w r = hashN k :: hashesN r
    rw [nk_hash d k e1, nks_hash ds r e3]
end
abbrev KA := List (NestedKey × Addr)
def entN (k : NestedKey × Addr) : DictEntry := ⟨hashN k.1, .ref k.2, .bool true⟩
def KsAt (h : Heap) (a : Addr) (o : Obj) (kas : KA) : Prop := kas.length ≤ sizeLine ∧ (a == sysModules) = false ∧ h.get? a = some o ∧ o.ExactDict ∧ ∃ es ep, o.data = .dict es ep ∧ es.toList = kas.map entN
def KsO (a : Addr) (o : Obj) (kas : KA) : HO := .ext fun h => KsAt h a o kas
def SetN (a : Addr) (kas : KA) : HO := .ext fun h => ∃ o, KsAt h a o kas
theorem KsAt.new {P : Program} {w : World} {H : Hp} {h : Heap} {a : Addr} {o : Obj} {kas : KA} (k : KsAt h a o kas) : ObjOk P w H h a (KsO a o kas) :=
  ⟨k, ⟨o, k.2.2.1⟩, fun _ _ p q => ⟨p.1, p.2.1, q _ p.2.2.1, p.2.2.2⟩⟩
theorem KsAt.newN {P : Program} {w : World} {H : Hp} {h : Heap} {a : Addr} {o : Obj} {kas : KA} (k : KsAt h a o kas) : ObjOk P w H h a (SetN a kas) :=
  ⟨⟨o, k⟩, ⟨o, k.2.2.1⟩, fun _ _ ⟨o', p⟩ q => ⟨o', p.1, p.2.1, q _ p.2.2.1, p.2.2.2⟩⟩
def KsR (ds : List D) (kas : KA) : Prop := ds.map nk = kas.map (fun k => some k.1) ∧ (kas.map (·.1)).Nodup ∧ ∀ k ∈ kas, k.1.depth ≤ 8

mutual
def Rep (K : PySem.W.Frag) (H : Hp) (o : Lo) : D → V → Prop
  | .non, v => v = .non
  | .bl b, v => v = .bl b
  | .int i, v => v = .int i
  | .str s, v => v = .str s
  | .tup ds, v => ∃ a xs, v = .ref a ∧ ((H a = some (.tup xs) ∧ o.av a) ∨ KTup K a xs) ∧ Reps K H o ds xs
  | .lst ds, v => ∃ a xs, v = .ref a ∧ H a = some (.lst xs) ∧ o.av a ∧ Reps K H o ds xs
  | .dic ks ds, v => ∃ a kvs, v = .ref a ∧ H a = some (.dK kvs) ∧ o.av a ∧ kvs.map (·.1) = ks ∧ Reps K H o ds (kvs.map (·.2))
  | .scr ns, v => ∃ a, v = .ref a ∧ ((∃ ob, H a = some (.frz ob (.lst (ns.map V.int))) ∧ o.av a) ∨ KLst K a (ns.map V.int))
  | .ref n, v => ∃ a, v = .ref a ∧ (o.l[n]? = some (some a) ∨ o.l[n]? = some none)
  | .kset ds, v => ∃ a ob kas, v = .ref a ∧ H a = some (KsO a ob kas) ∧ o.av a ∧ KsR ds kas ∧ Reps K H o ds (kas.map fun k => V.ref k.2)
  | .cls c, v => v = .ref (He.ga K c)
  | .exv, v => ∃ a, v = .ref a ∧ o.x = some a
  | .tupn ds, v => ∃ a ob xs, v = .ref a ∧ H a = some (.frz ob (.tup xs)) ∧ ob.dict = none ∧ o.av a ∧ Reps K H o ds xs
def Reps (K : PySem.W.Frag) (H : Hp) (o : Lo) : List D → List V → Prop
  | [], vs => vs = []
  | d :: ds, vs => ∃ v vs', vs = v :: vs' ∧ Rep K H o d v ∧ Reps K H o ds vs'
end

structure Lc (H : Hp) (o : Lo) (H' : Hp) (o' : Lo) : Prop where
  keep : ∀ a u, H a = some u → some a ∉ o.l → H' a = some u ∧ some a ∉ o'.l
  loc : ∀ (n : Nat) (x : Option Addr), o.l[n]? = some x → o'.l[n]? = some x ∨ o'.l[n]? = some none
  x : o'.x = o.x
structure Le (H : Hp) (o : Lo) (H' : Hp) (o' : Lo) : Prop extends Lc H o H' o' where
  z : o'.z = o.z
theorem Lc.refl (H : Hp) (o : Lo) : Lc H o H o := ⟨fun _ _ h n => ⟨h, n⟩, fun _ _ h => .inl h, rfl⟩
theorem Le.refl (H : Hp) (o : Lo) : Le H o H o := ⟨Lc.refl _ _, rfl⟩
theorem Lc.trans {H H1 H2 : Hp} {o o1 o2 : Lo} (a : Lc H o H1 o1) (b : Lc H1 o1 H2 o2) : Lc H o H2 o2 :=
  ⟨fun p u h n => let ⟨h1, n1⟩ := a.keep p u h n; b.keep p u h1 n1, fun n x h => by
    rcases a.loc n x h with h | h
    · exact b.loc n x h
    · exact .inr ((b.loc n none h).elim id id), b.x.trans a.x⟩
theorem Le.trans {H H1 H2 : Hp} {o o1 o2 : Lo} (a : Le H o H1 o1) (b : Le H1 o1 H2 o2) : Le H o H2 o2 := ⟨a.toLc.trans b.toLc, b.z.trans a.z⟩

section
variable {K : PySem.W.Frag} {H H' : Hp} {o o' : Lo}
theorem Lc.av (e : Lc H o H' o') (hz : ∀ a ∈ o'.z, a ∈ o.z ∨ H a = none) {a : Addr} {u : HO} (h : H a = some u) (v : o.av a) : H' a = some u ∧ o'.av a :=
  let ⟨h1, n1⟩ := e.keep a u h v.1
  ⟨h1, n1, fun q => (hz a q).elim v.2 fun e => by rw [h] at e; cases e⟩
mutual
theorem Rep.monoC (e : Lc H o H' o') (hz : ∀ a ∈ o'.z, a ∈ o.z ∨ H a = none) : ∀ (d : D) (v : V), Rep K H o d v → Rep K H' o' d v
  | .non, v, h => h
  | .bl _, v, h => h
  | .int _, v, h => h
  | .str _, v, h => h
  | .tup ds, v, h => by
    obtain ⟨a, xs, rfl, h1, h2⟩ := h
    refine ⟨a, xs, rfl, ?_, Reps.monoC e hz ds xs h2⟩
    rcases h1 with ⟨h1, h3⟩ | h1
    · exact .inl (e.av hz h1 h3)
    · exact .inr h1
  | .lst ds, v, h => by
    obtain ⟨a, xs, rfl, h1, h3, h2⟩ := h
    obtain ⟨h4, h5⟩ := e.av hz h1 h3
    exact ⟨a, xs, rfl, h4, h5, Reps.monoC e hz ds xs h2⟩
  | .dic ks ds, v, h => by
    obtain ⟨a, kvs, rfl, h1, h3, hk, h2⟩ := h
    obtain ⟨h4, h5⟩ := e.av hz h1 h3
    exact ⟨a, kvs, rfl, h4, h5, hk, Reps.monoC e hz ds _ h2⟩
  | .scr ns, v, h => by
    obtain ⟨a, rfl, h1⟩ := h
    refine ⟨a, rfl, ?_⟩
    rcases h1 with ⟨ob, h1, h3⟩ | h1
    · exact .inl ⟨ob, e.av hz h1 h3⟩
    · exact .inr h1
  | .ref n, v, h => by
    obtain ⟨a, rfl, h⟩ := h
    refine ⟨a, rfl, ?_⟩
    rcases h with h | h
    · exact e.loc n _ h
    · exact .inr ((e.loc n _ h).elim id id)
  | .cls _, v, h => h
  | .tupn ds, v, h => by
    obtain ⟨a, ob, xs, rfl, h1, hd, h3, h2⟩ := h
    obtain ⟨h4, h5⟩ := e.av hz h1 h3
    exact ⟨a, ob, xs, rfl, h4, hd, h5, Reps.monoC e hz ds xs h2⟩
  | .exv, v, h => by
    obtain ⟨a, rfl, h⟩ := h
    exact ⟨a, rfl, e.x.trans h⟩
  | .kset ds, v, h => by
    obtain ⟨a, ob, kas, rfl, h1, h3, h4, h2⟩ := h
    obtain ⟨h5, h6⟩ := e.av hz h1 h3
    exact ⟨a, ob, kas, rfl, h5, h6, h4, Reps.monoC e hz ds _ h2⟩
theorem Reps.monoC (e : Lc H o H' o') (hz : ∀ a ∈ o'.z, a ∈ o.z ∨ H a = none) : ∀ (ds : List D) (vs : List V), Reps K H o ds vs → Reps K H' o' ds vs
  | [], _, h => h
  | d :: ds, _, h => by
    obtain ⟨v, vs, rfl, h1, h2⟩ := h
    exact ⟨v, vs, rfl, Rep.monoC e hz d v h1, Reps.monoC e hz ds vs h2⟩
end
theorem Rep.mono (e : Le H o H' o') (d : D) (v : V) (h : Rep K H o d v) : Rep K H' o' d v := Rep.monoC e.toLc (fun a q => .inl (by rw [← e.z]; exact q)) d v h
theorem Reps.mono (e : Le H o H' o') (ds : List D) (vs : List V) (h : Reps K H o ds vs) : Reps K H' o' ds vs := Reps.monoC e.toLc (fun a q => .inl (by rw [← e.z]; exact q)) ds vs h

mutual
theorem Rep.avoid {p : Addr} (hp : p ∈ o.z) (hH : ∀ b, b ≠ p → H' b = H b) : ∀ (d : D) (v : V), Rep K H o d v → Rep K H' o d v
  | .non, v, h => h
  | .bl _, v, h => h
  | .int _, v, h => h
  | .str _, v, h => h
  | .tup ds, v, h => by
    obtain ⟨a, xs, rfl, h1, h2⟩ := h
    refine ⟨a, xs, rfl, ?_, Reps.avoid hp hH ds xs h2⟩
    rcases h1 with ⟨h1, h3⟩ | h1
    · exact .inl ⟨by rw [hH a (fun q => h3.2 (by rw [q]; exact hp))]; exact h1, h3⟩
    · exact .inr h1
  | .lst ds, v, h => by
    obtain ⟨a, xs, rfl, h1, h3, h2⟩ := h
    exact ⟨a, xs, rfl, by rw [hH a (fun q => h3.2 (by rw [q]; exact hp))]; exact h1, h3, Reps.avoid hp hH ds xs h2⟩
  | .dic ks ds, v, h => by
    obtain ⟨a, kvs, rfl, h1, h3, hk, h2⟩ := h
    exact ⟨a, kvs, rfl, by rw [hH a (fun q => h3.2 (by rw [q]; exact hp))]; exact h1, h3, hk, Reps.avoid hp hH ds _ h2⟩
  | .scr ns, v, h => by
    obtain ⟨a, rfl, h1⟩ := h
    refine ⟨a, rfl, ?_⟩
    rcases h1 with ⟨ob, h1, h3⟩ | h1
    · exact .inl ⟨ob, by rw [hH a (fun q => h3.2 (by rw [q]; exact hp))]; exact h1, h3⟩
    · exact .inr h1
  | .ref n, v, h => h
  | .cls _, v, h => h
  | .exv, v, h => h
  | .tupn ds, v, h => by
    obtain ⟨a, ob, xs, rfl, h1, hd, h3, h2⟩ := h
    exact ⟨a, ob, xs, rfl, by rw [hH a (fun q => h3.2 (by rw [q]; exact hp))]; exact h1, hd, h3, Reps.avoid hp hH ds xs h2⟩
  | .kset ds, v, h => by
    obtain ⟨a, ob, kas, rfl, h1, h3, h4, h2⟩ := h
    exact ⟨a, ob, kas, rfl, by rw [hH a (fun q => h3.2 (by rw [q]; exact hp))]; exact h1, h3, h4, Reps.avoid hp hH ds _ h2⟩
theorem Reps.avoid {p : Addr} (hp : p ∈ o.z) (hH : ∀ b, b ≠ p → H' b = H b) : ∀ (ds : List D) (vs : List V), Reps K H o ds vs → Reps K H' o ds vs
  | [], _, h => h
  | d :: ds, _, h => by
    obtain ⟨v, vs, rfl, h1, h2⟩ := h
    exact ⟨v, vs, rfl, Rep.avoid hp hH d v h1, Reps.avoid hp hH ds vs h2⟩
end
/-! ## lists of representations -/
theorem Reps.length : ∀ {ds : List D} {vs : List V}, Reps K H o ds vs → vs.length = ds.length
  | [], vs, h => by cases (show vs = [] from h); rfl
  | d :: ds, vs, h => by
    obtain ⟨v, vs', rfl, _, h2⟩ := h
    simp [Reps.length h2]
theorem Reps.get : ∀ {ds : List D} {vs : List V} {i : Nat} {d : D}, Reps K H o ds vs → ds[i]? = some d → ∃ v, vs[i]? = some v ∧ Rep K H o d v
  | [], _, _, _, _, e => by simp at e
  | d :: ds, vs, 0, d', h, e => by
    obtain ⟨v, vs', rfl, h1, _⟩ := h
    simp at e; subst e
    exact ⟨v, by simp, h1⟩
  | d :: ds, vs, i + 1, d', h, e => by
    obtain ⟨v, vs', rfl, _, h2⟩ := h
    obtain ⟨v', e1, e2⟩ := Reps.get (i := i) h2 (by simpa using e)
    exact ⟨v', by simpa using e1, e2⟩
theorem Reps.getV {ds : List D} {vs : List V} {i : Nat} {v : V} (h : Reps K H o ds vs) (e : vs[i]? = some v) : ∃ d, ds[i]? = some d ∧ Rep K H o d v := by
  have hi : i < ds.length := by rw [← h.length]; exact (List.getElem?_eq_some_iff.mp e).1
  obtain ⟨v', e1, e2⟩ := h.get (List.getElem?_eq_getElem hi)
  rw [e] at e1; cases e1
  exact ⟨_, List.getElem?_eq_getElem hi, e2⟩
theorem Reps.append : ∀ {ds : List D} {vs : List V} {ds' : List D} {vs' : List V}, Reps K H o ds vs → Reps K H o ds' vs' → Reps K H o (ds ++ ds') (vs ++ vs')
  | [], vs, _, _, h, h' => by cases (show vs = [] from h); exact h'
  | d :: ds, vs, _, _, h, h' => by
    obtain ⟨v, vs1, rfl, h1, h2⟩ := h
    exact ⟨v, vs1 ++ _, rfl, h1, Reps.append h2 h'⟩
theorem Reps.take : ∀ (n : Nat) {ds : List D} {vs : List V}, Reps K H o ds vs → Reps K H o (ds.take n) (vs.take n)
  | 0, _, _, _ => by simp [Reps]
  | n + 1, [], vs, h => by cases (show vs = [] from h); simp [Reps]
  | n + 1, d :: ds, vs, h => by
    obtain ⟨v, vs1, rfl, h1, h2⟩ := h
    exact ⟨v, vs1.take n, rfl, h1, Reps.take n h2⟩
theorem Reps.drop : ∀ (n : Nat) {ds : List D} {vs : List V}, Reps K H o ds vs → Reps K H o (ds.drop n) (vs.drop n)
  | 0, _, _, h => h
  | n + 1, [], vs, h => by cases (show vs = [] from h); simp [Reps]
  | n + 1, d :: ds, vs, h => by
    obtain ⟨v, vs1, rfl, h1, h2⟩ := h
    exact Reps.drop n h2
theorem Reps.set : ∀ {ds : List D} {vs : List V} (i : Nat) {d : D} {v : V}, Reps K H o ds vs → Rep K H o d v → Reps K H o (ds.set i d) (vs.set i v)
  | [], vs, _, _, _, h, _ => by cases (show vs = [] from h); simp [Reps]
  | d :: ds, vs, 0, d', v', h, r => by
    obtain ⟨v, vs1, rfl, h1, h2⟩ := h
    exact ⟨v', vs1, rfl, r, h2⟩
  | d :: ds, vs, i + 1, d', v', h, r => by
    obtain ⟨v, vs1, rfl, h1, h2⟩ := h
    exact ⟨v, vs1.set i v', rfl, h1, Reps.set i h2 r⟩
theorem Reps.one {d : D} {v : V} (h : Rep K H o d v) : Reps K H o [d] [v] := ⟨v, [], rfl, h, rfl⟩
theorem Reps.nil_iff {ds : List D} {vs : List V} (h : Reps K H o ds vs) : vs = [] ↔ ds = [] := by
  have e := h.length
  constructor
  · intro q; subst q; exact List.length_eq_zero_iff.mp e.symm
  · intro q; subst q; exact List.length_eq_zero_iff.mp e
theorem Reps.ints : ∀ {ns : List Int} {vs : List V}, Reps K H o (ns.map D.int) vs → vs = ns.map V.int
  | [], vs, h => h
  | n :: ns, vs, h => by
    obtain ⟨v, vs', rfl, h1, h2⟩ := h
    cases (show v = .int n from h1)
    rw [Reps.ints h2]; rfl
theorem Reps.bls : ∀ {bs : List Bool} {vs : List V}, Reps K H o (bs.map D.bl) vs → vs = bs.map V.bl
  | [], vs, h => h
  | n :: ns, vs, h => by
    obtain ⟨v, vs', rfl, h1, h2⟩ := h
    cases (show v = .bl n from h1)
    rw [Reps.bls h2]; rfl
theorem Reps.strs : ∀ {ss : List Str} {vs : List V}, Reps K H o (ss.map D.str) vs → vs = ss.map V.str
  | [], vs, h => h
  | n :: ns, vs, h => by
    obtain ⟨v, vs', rfl, h1, h2⟩ := h
    cases (show v = .str n from h1)
    rw [Reps.strs h2]; rfl
theorem Reps.ofStrs : ∀ (ss : List Str), Reps K H o (ss.map D.str) (ss.map V.str)
  | [] => rfl
  | s :: ss => ⟨_, _, rfl, rfl, Reps.ofStrs ss⟩
theorem Reps.ofInts : ∀ (ns : List Int), Reps K H o (ns.map D.int) (ns.map V.int)
  | [] => rfl
  | s :: ss => ⟨_, _, rfl, rfl, Reps.ofInts ss⟩
theorem KTup.sq {a : Addr} {xs : List V} (h : KTup K a xs) : SqT K H a xs := .inr h
theorem tup_sq {a : Addr} {xs : List V} (h : (H a = some (.tup xs) ∧ o.av a) ∨ KTup K a xs) : SqT K H a xs := h.elim (fun h => .inl (.inl h.1)) fun h => .inr h

/-! ## what keeps all representations -/
def LeR (K : PySem.W.Frag) (H : Hp) (o : Lo) (H' : Hp) (o' : Lo) : Prop := ∀ d v, Rep K H o d v → Rep K H' o' d v
theorem Le.rep (e : Le H o H' o') : LeR K H o H' o' := fun d v => Rep.mono e d v
theorem LeR.reps (e : LeR K H o H' o') : ∀ {ds : List D} {vs : List V}, Reps K H o ds vs → Reps K H' o' ds vs
  | [], _, h => h
  | d :: ds, _, h => by
    obtain ⟨v, vs, rfl, h1, h2⟩ := h
    exact ⟨v, vs, rfl, e d v h1, LeR.reps e h2⟩
theorem LeR.trans {H1 : Hp} {o1 : Lo} (a : LeR K H o H1 o1) (b : LeR K H1 o1 H' o') : LeR K H o H' o' := fun d v h => b d v (a d v h)

/-! ## the store -/
def CellOk (K : PySem.W.Frag) (H : Hp) (o : Lo) (x : Option (Option Addr)) : Cell → Prop
  | .dead => x = some none
  | .lst ds => ∃ a xs, x = some (some a) ∧ H a = some (.lst xs) ∧ Reps K H o ds xs
  | .dic ks ds => ∃ a kvs, x = some (some a) ∧ H a = some (.dK kvs) ∧ kvs.map (·.1) = ks ∧ Reps K H o ds (kvs.map (·.2))
  | .ins c fs ds => ∃ a dx vs, x = some (some a) ∧ H a = some (.ins (He.ga K c) dx vs) ∧ vs.map (·.1) = fs ∧ Reps K H o ds (vs.map (·.2))
  | .kset ds => ∃ a kas, x = some (some a) ∧ H a = some (SetN a kas) ∧ KsR ds kas ∧ Reps K H o ds (kas.map fun k => V.ref k.2)
structure StOk (K : PySem.W.Frag) (H : Hp) (o : Lo) (st : Store) : Prop where
  len : o.l.length = st.length
  nd : ∀ (n m : Nat) (a : Addr), o.l[n]? = some (some a) → o.l[m]? = some (some a) → n = m
  zt : ∀ a ∈ o.z, (∃ u, H a = some u) ∧ some a ∉ o.l
  cell : ∀ (n : Nat) (c : Cell), st[n]? = some c → CellOk K H o o.l[n]? c
variable {st : Store}
theorem StOk.live (s : StOk K H o st) {a : Addr} (h : some a ∈ o.l) : ∃ u, H a = some u := by
  obtain ⟨n, hn, e⟩ := List.getElem_of_mem h
  have e1 : o.l[n]? = some (some a) := by rw [List.getElem?_eq_getElem hn, e]
  have hs : n < st.length := by rw [← s.len]; exact hn
  have c := s.cell n _ (List.getElem?_eq_getElem hs)
  rw [e1] at c
  cases q : st[n] with
  | dead => rw [q] at c; cases c
  | lst ds => rw [q] at c; obtain ⟨b, xs, e2, h2, _⟩ := c; cases e2; exact ⟨_, h2⟩
  | dic ks ds => rw [q] at c; obtain ⟨b, xs, e2, h2, _⟩ := c; cases e2; exact ⟨_, h2⟩
  | ins cc fs ds => rw [q] at c; obtain ⟨b, dx, xs, e2, h2, _⟩ := c; cases e2; exact ⟨_, h2⟩
  | kset ds => rw [q] at c; obtain ⟨b, xs, e2, h2, _⟩ := c; cases e2; exact ⟨_, h2⟩
theorem StOk.avOf (s : StOk K H o st) {p : Addr} (h : H p = none) : o.av p :=
  ⟨fun q => (by obtain ⟨u, e⟩ := s.live q; rw [h] at e; cases e), fun q => (by obtain ⟨⟨u, e⟩, _⟩ := s.zt p q; rw [h] at e; cases e)⟩
theorem CellOk.mono {x : Option (Option Addr)} {c : Cell} (h : CellOk K H o x c) (r : LeR K H o H' o') (k : ∀ a u, x = some (some a) → H a = some u → H' a = some u) : CellOk K H' o' x c := by
  cases c with
  | dead => exact h
  | lst ds => obtain ⟨a, xs, e, h1, h2⟩ := h; exact ⟨a, xs, e, k a _ e h1, r.reps h2⟩
  | dic ks ds => obtain ⟨a, xs, e, h1, h3, h2⟩ := h; exact ⟨a, xs, e, k a _ e h1, h3, r.reps h2⟩
  | ins c fs ds => obtain ⟨a, dx, xs, e, h1, h3, h2⟩ := h; exact ⟨a, dx, xs, e, k a _ e h1, h3, r.reps h2⟩
  | kset ds => obtain ⟨a, xs, e, h1, h3, h2⟩ := h; exact ⟨a, xs, e, k a _ e h1, h3, r.reps h2⟩
theorem Le.new {p : Addr} {u : HO} (h : H p = none) : Le H o (upd H p u) o :=
  ⟨⟨fun a w e n => ⟨by rw [upd_ne (ne_of_none e h)]; exact e, n⟩, fun _ _ e => .inl e, rfl⟩, rfl⟩
theorem StOk.new {p : Addr} {u : HO} (s : StOk K H o st) (h : H p = none) : StOk K (upd H p u) o st :=
  ⟨s.len, s.nd, fun a ha => let ⟨⟨w, e⟩, n⟩ := s.zt a ha; ⟨⟨w, by rw [upd_ne (ne_of_none e h)]; exact e⟩, n⟩,
    fun n c e => (s.cell n c e).mono (Le.new h).rep fun a w _ e2 => by rw [upd_ne (ne_of_none e2 h)]; exact e2⟩
/-- a new object that is a value -/
theorem Rep.newTup {p : Addr} {ds : List D} {xs : List V} (s : StOk K H o st) (h : H p = none) (r : Reps K H o ds xs) : Rep K (upd H p (.tup xs)) o (.tup ds) (.ref p) :=
  ⟨p, xs, rfl, .inl ⟨upd_same, s.avOf h⟩, (Le.new h).rep.reps r⟩
theorem Rep.newLst {p : Addr} {ds : List D} {xs : List V} (s : StOk K H o st) (h : H p = none) (r : Reps K H o ds xs) : Rep K (upd H p (.lst xs)) o (.lst ds) (.ref p) :=
  ⟨p, xs, rfl, upd_same, s.avOf h, (Le.new h).rep.reps r⟩
theorem Rep.newDic {p : Addr} {kvs : List (Key × V)} {ds : List D} (s : StOk K H o st) (h : H p = none) (r : Reps K H o ds (kvs.map (·.2))) : Rep K (upd H p (.dK kvs)) o (.dic (kvs.map (·.1)) ds) (.ref p) :=
  ⟨p, kvs, rfl, upd_same, s.avOf h, rfl, (Le.new h).rep.reps r⟩
/-! ### a new cell -/
abbrev Lo.push (o : Lo) (p : Addr) : Lo := { o with l := o.l ++ [some p] }
theorem Le.alloc {p : Addr} {u : HO} (h : H p = none) : Le H o (upd H p u) (o.push p) :=
  ⟨⟨fun a w e n => ⟨by rw [upd_ne (ne_of_none e h)]; exact e, fun q => by
    rcases List.mem_append.mp q with q | q
    · exact n q
    · have q' : some a = some p := by simpa using q
      cases q'; rw [h] at e; cases e⟩, fun n x e => .inl (by
        rw [show (o.push p).l = o.l ++ [some p] from rfl, List.getElem?_append_left (List.getElem?_eq_some_iff.mp e).1]; exact e), rfl⟩, rfl⟩
theorem StOk.alloc {p : Addr} {u : HO} {c : Cell} (s : StOk K H o st) (h : H p = none) (hc : CellOk K (upd H p u) (o.push p) (some (some p)) c) : StOk K (upd H p u) (o.push p) (st ++ [c]) := by
  have av := s.avOf h
  refine ⟨by simp [s.len], fun n m a e1 e2 => ?_, fun a ha => ?_, fun n c' e => ?_⟩
  · have g : ∀ n, (o.l ++ [some p])[n]? = some (some a) → (n < o.l.length ∧ o.l[n]? = some (some a)) ∨ (n = o.l.length ∧ a = p) := fun n e => by
      by_cases hn : n < o.l.length
      · rw [List.getElem?_append_left hn] at e; exact .inl ⟨hn, e⟩
      · have hl := (List.getElem?_eq_some_iff.mp e).1
        simp at hl
        have : n = o.l.length := by omega
        subst this
        rw [List.getElem?_append_right (Nat.le_refl _)] at e
        simp at e
        exact .inr ⟨rfl, e.symm⟩
    rcases g n e1 with ⟨_, h1⟩ | ⟨rfl, h1⟩ <;> rcases g m e2 with ⟨_, h2⟩ | ⟨rfl, h2⟩
    · exact s.nd n m a h1 h2
    · subst h2; exact absurd (List.mem_of_getElem? h1) av.1
    · subst h1; exact absurd (List.mem_of_getElem? h2) av.1
    · rfl
  · obtain ⟨⟨w, e⟩, n⟩ := s.zt a ha
    refine ⟨⟨w, by rw [upd_ne (ne_of_none e h)]; exact e⟩, fun q => ?_⟩
    rcases List.mem_append.mp q with q | q
    · exact n q
    · have q' : some a = some p := by simpa using q
      cases q'; rw [h] at e; cases e
  · by_cases hn : n < st.length
    · rw [List.getElem?_append_left hn] at e
      have hn2 : n < o.l.length := by rw [s.len]; exact hn
      show CellOk _ _ _ ((o.l ++ [some p])[n]?) _
      rw [List.getElem?_append_left hn2]
      exact (s.cell n c' e).mono (Le.alloc h).rep fun a w _ e2 => by rw [upd_ne (ne_of_none e2 h)]; exact e2
    · have hl := (List.getElem?_eq_some_iff.mp e).1
      simp at hl
      have e3 : n = st.length := by omega
      subst e3
      rw [List.getElem?_append_right (Nat.le_refl _)] at e
      simp at e
      subst e
      show CellOk _ _ _ ((o.l ++ [some p])[st.length]?) _
      rw [← s.len, List.getElem?_append_right (Nat.le_refl _)]
      simpa using hc
theorem Rep.alloc {p : Addr} {u : HO} (s : StOk K H o st) : Rep K (upd H p u) (o.push p) (.ref st.length) (.ref p) :=
  ⟨p, rfl, .inl (by show (o.l ++ [some p])[st.length]? = _; rw [← s.len, List.getElem?_append_right (Nat.le_refl _)]; simp)⟩
/-! ### a cell is changed -/
theorem Le.write {a : Addr} {u : HO} (h : some a ∈ o.l) : Le H o (upd H a u) o :=
  ⟨⟨fun b w e n => ⟨by rw [upd_ne (fun q => n (by rw [q]; exact h))]; exact e, n⟩, fun _ _ e => .inl e, rfl⟩, rfl⟩
theorem StOk.write {n : Nat} {a : Addr} {u : HO} {c : Cell} (s : StOk K H o st) (hl : o.l[n]? = some (some a)) (hc : CellOk K (upd H a u) o (some (some a)) c) : StOk K (upd H a u) o (st.set n c) := by
  have hm : some a ∈ o.l := List.mem_of_getElem? hl
  refine ⟨by simp [s.len], s.nd, fun b hb => ?_, fun m c' e => ?_⟩
  · obtain ⟨⟨w, e⟩, nm⟩ := s.zt b hb
    exact ⟨⟨w, by rw [upd_ne (fun q => nm (by rw [q]; exact hm))]; exact e⟩, nm⟩
  · by_cases hn : n = m
    · subst hn
      have hn' : n < st.length := by rw [← s.len]; exact (List.getElem?_eq_some_iff.mp hl).1
      rw [List.getElem?_set_self hn'] at e
      cases e
      rw [hl]; exact hc
    · rw [List.getElem?_set_ne hn] at e
      exact (s.cell m c' e).mono (Le.write hm).rep fun b w e1 e2 => by
        rw [upd_ne (fun q => hn (by subst q; exact s.nd n m _ hl e1))]; exact e2
/-! ### a cell ends; what it held is a value from now on -/
theorem Le.free {n : Nat} : Le H o H { o with l := o.l.set n none } :=
  ⟨⟨fun a u e h => ⟨e, fun q => by
    rcases List.mem_or_eq_of_mem_set q with q | q
    · exact h q
    · cases q⟩, fun m x e => by
      by_cases hn : n = m
      · subst hn
        right
        exact List.getElem?_set_self (List.getElem?_eq_some_iff.mp e).1
      · left; show (o.l.set n none)[m]? = some x; rw [List.getElem?_set_ne hn]; exact e, rfl⟩, rfl⟩
theorem StOk.free {n : Nat} {a : Addr} (s : StOk K H o st) (hl : o.l[n]? = some (some a)) : StOk K H { o with l := o.l.set n none } (st.set n .dead) ∧ Lo.av { o with l := o.l.set n none } a := by
  have hn0 : n < o.l.length := (List.getElem?_eq_some_iff.mp hl).1
  have g : ∀ (m : Nat) (b : Addr), (o.l.set n none)[m]? = some (some b) → m ≠ n ∧ o.l[m]? = some (some b) := fun m b e => by
    by_cases hn : n = m
    · subst hn; rw [List.getElem?_set_self hn0] at e; cases e
    · rw [List.getElem?_set_ne hn] at e; exact ⟨Ne.symm hn, e⟩
  refine ⟨⟨by simp [s.len], fun m k b e1 e2 => s.nd m k b (g m b e1).2 (g k b e2).2, fun b hb => ?_, fun m c e => ?_⟩, fun q => ?_, fun q => (s.zt a q).2 (List.mem_of_getElem? hl)⟩
  · obtain ⟨h1, h2⟩ := s.zt b hb
    refine ⟨h1, fun q => ?_⟩
    obtain ⟨m, hm, e⟩ := List.getElem_of_mem q
    exact h2 (List.mem_of_getElem? (g m b (by rw [List.getElem?_eq_getElem hm, e])).2)
  · by_cases hn : n = m
    · subst hn
      rw [List.getElem?_set_self (by rw [← s.len]; exact hn0)] at e
      cases e
      exact List.getElem?_set_self hn0
    · rw [List.getElem?_set_ne hn] at e
      show CellOk _ _ _ ((o.l.set n none)[m]?) c
      rw [List.getElem?_set_ne hn]
      exact (s.cell m c e).mono Le.free.rep fun b w _ e2 => e2
  · obtain ⟨m, hm, e⟩ := List.getElem_of_mem q
    obtain ⟨h1, h2⟩ := g m a (by rw [List.getElem?_eq_getElem hm, e])
    exact h1 (s.nd m n a h2 hl)

/-! ### an address is reserved -/
abbrev Lo.hold (o : Lo) (p : Addr) : Lo := { o with z := p :: o.z }
theorem Lc.hold {p : Addr} {u : HO} (h : H p = none) : Lc H o (upd H p u) (o.hold p) := ⟨fun a w e n => ⟨by rw [upd_ne (ne_of_none e h)]; exact e, n⟩, fun _ _ e => .inl e, rfl⟩
theorem LeR.hold {p : Addr} {u : HO} (h : H p = none) : LeR K H o (upd H p u) (o.hold p) := fun d v r =>
  Rep.monoC (Lc.hold h) (fun a q => by
    rcases List.mem_cons.mp q with q | q
    · exact .inr (by rw [q]; exact h)
    · exact .inl q) d v r
theorem StOk.hold {p : Addr} {u : HO} (s : StOk K H o st) (h : H p = none) : StOk K (upd H p u) (o.hold p) st :=
  ⟨s.len, s.nd, fun a ha => by
    rcases List.mem_cons.mp ha with q | q
    · subst q; exact ⟨⟨u, upd_same⟩, (s.avOf h).1⟩
    · obtain ⟨⟨w, e⟩, n⟩ := s.zt a q
      exact ⟨⟨w, by rw [upd_ne (ne_of_none e h)]; exact e⟩, n⟩,
    fun n c e => (s.cell n c e).mono (LeR.hold h) fun a w _ e2 => by rw [upd_ne (ne_of_none e2 h)]; exact e2⟩
/-- what is reserved may be written -/
theorem LeR.rewrite {p : Addr} {u : HO} (h : p ∈ o.z) : LeR K H o (upd H p u) o := fun d v r => by
  exact Rep.avoid h (fun b hb => by rw [upd_ne hb]) d v r
theorem StOk.rewrite {p : Addr} {u : HO} (s : StOk K H o st) (h : p ∈ o.z) : StOk K (upd H p u) o st :=
  ⟨s.len, s.nd, fun a ha => by
    obtain ⟨⟨w, e⟩, n⟩ := s.zt a ha
    by_cases q : a = p
    · subst q; exact ⟨⟨u, upd_same⟩, n⟩
    · exact ⟨⟨w, by rw [upd_ne q]; exact e⟩, n⟩,
    fun n c e => (s.cell n c e).mono (LeR.rewrite h) fun a w e1 e2 => by
      rw [upd_ne (fun q => by subst q; exact (s.zt a h).2 (List.mem_of_getElem? e1))]; exact e2⟩
theorem LeR.unhold {zs : List Addr} (h : ∀ a ∈ zs, a ∈ o.z) : LeR K H o H { o with z := zs } := fun d v r => Rep.monoC (K := K) (H := H) (H' := H) (o := o) (o' := { o with z := zs }) ⟨fun _ _ h n => ⟨h, n⟩, fun _ _ h => .inl h, rfl⟩ (fun a q => .inl (h a q)) d v r
theorem StOk.unhold {zs : List Addr} (s : StOk K H o st) (h : ∀ a ∈ zs, a ∈ o.z) : StOk K H { o with z := zs } st :=
  ⟨s.len, s.nd, fun a ha => s.zt a (h a ha), fun n c e => (s.cell n c e).mono (LeR.unhold h) fun a w _ e2 => e2⟩

/-! ## what keeps representations, and the things themselves -/
def Kp (H : Hp) (o : Lo) (H' : Hp) (o' : Lo) : Prop := ∀ a u, H a = some u → o.av a → H' a = some u ∧ o'.av a
structure LeW (K : PySem.W.Frag) (H : Hp) (o : Lo) (H' : Hp) (o' : Lo) : Prop where
  rep : LeR K H o H' o'
  kp : Kp H o H' o'
theorem LeW.refl {K : PySem.W.Frag} {H : Hp} {o : Lo} : LeW K H o H o := ⟨fun _ _ x => x, fun _ _ h v => ⟨h, v⟩⟩
theorem LeW.trans {K : PySem.W.Frag} {H H1 H2 : Hp} {o o1 o2 : Lo} (a : LeW K H o H1 o1) (b : LeW K H1 o1 H2 o2) : LeW K H o H2 o2 :=
  ⟨a.rep.trans b.rep, fun p u h v => let ⟨h1, v1⟩ := a.kp p u h v; b.kp p u h1 v1⟩
theorem Le.w {K : PySem.W.Frag} {H H' : Hp} {o o' : Lo} (e : Le H o H' o') : LeW K H o H' o' :=
  ⟨e.rep, fun p u h v => let ⟨h1, v1⟩ := e.keep p u h v.1; ⟨h1, v1, fun q => v.2 (by rw [← e.z]; exact q)⟩⟩
theorem LeW.hold {K : PySem.W.Frag} {H : Hp} {o : Lo} {p : Addr} {u : HO} (h : H p = none) : LeW K H o (upd H p u) (o.hold p) :=
  ⟨LeR.hold h, fun a w e v => by
    have hn : a ≠ p := ne_of_none e h
    exact ⟨by rw [upd_ne hn]; exact e, v.1, fun q => (List.mem_cons.mp q).elim hn v.2⟩⟩
theorem LeW.rewrite {K : PySem.W.Frag} {H : Hp} {o : Lo} {p : Addr} {u : HO} (h : p ∈ o.z) : LeW K H o (upd H p u) o :=
  ⟨LeR.rewrite h, fun a w e v => ⟨by rw [upd_ne (fun q => v.2 (by rw [q]; exact h))]; exact e, v⟩⟩

/-! ## the frame -/
abbrev Env := List (Option D)
def EnvOk (K : PySem.W.Frag) (H : Hp) (o : Lo) (ρ : Env) (σ : L2.St) : Prop := σ.length = ρ.length ∧ ∀ (i : Nat) (d : D), ρ[i]? = some (some d) → ∃ v, σ[i]? = some (some v) ∧ Rep K H o d v
theorem EnvOk.mono {ρ : Env} {σ : L2.St} (e : EnvOk K H o ρ σ) (r : LeR K H o H' o') : EnvOk K H' o' ρ σ := ⟨e.1, fun i d h => let ⟨v, h1, h2⟩ := e.2 i d h; ⟨v, h1, r d v h2⟩⟩
theorem EnvOk.set {ρ : Env} {σ : L2.St} (e : EnvOk K H o ρ σ) (i : Nat) {d : D} {v : V} (r : Rep K H o d v) : EnvOk K H o (ρ.set i (some d)) (σ.set i (some v)) := by
  refine ⟨by simp [e.1], fun j d' h => ?_⟩
  by_cases hj : i = j
  · subst hj
    have hi : i < ρ.length := by have := (List.getElem?_eq_some_iff.mp h).1; simpa using this
    rw [List.getElem?_set_self hi] at h
    cases h
    exact ⟨v, List.getElem?_set_self (by rw [e.1]; exact hi), r⟩
  · rw [List.getElem?_set_ne hj] at h
    rw [List.getElem?_set_ne hj]
    exact e.2 j d' h
theorem EnvOk.clear {ρ : Env} {σ : L2.St} (e : EnvOk K H o ρ σ) (i : Nat) : EnvOk K H o (ρ.set i none) (σ.set i none) := by
  refine ⟨by simp [e.1], fun j d' h => ?_⟩
  by_cases hj : i = j
  · subst hj
    have hi : i < ρ.length := by have := (List.getElem?_eq_some_iff.mp h).1; simpa using this
    rw [List.getElem?_set_self hi] at h
    cases h
  · rw [List.getElem?_set_ne hj] at h
    rw [List.getElem?_set_ne hj]
    exact e.2 j d' h
end
end MP

namespace MP
open PySem L2
open PySem.Spec PyProof.Rows
abbrev Den := Env → M D
abbrev DenL := Env → M (List D)
abbrev DenB := Env → M Bool

/-- how an exception of the data looks to the layer -/
def ExIs (K : Frag) (H : Hp) (o : Lo) (e : Exn) (c : Value) (d : Option Addr) : Prop :=
  c = .ref (He.ga K e.cls) ∧ match e.arg with
    | none => d = none
    | some x => ∃ a v, d = some a ∧ H a = some (.xd [("line", v)]) ∧ Rep K H o x v
def XOk (K : Frag) (E : XK) (H : Hp) (o : Lo) (e : Exn) (st : Store) : Prop :=
  ∀ H' o' c d, Le H o H' o' → StOk K H' o' st → ExIs K H' o' e c d → E c d H'
theorem XOk.mono {K : Frag} {E : XK} {H H' : Hp} {o o' : Lo} {e : Exn} {st : Store} (x : XOk K E H o e st) (l : Le H o H' o') : XOk K E H' o' e st :=
  fun H2 o2 c d l2 => x H2 o2 c d (l.trans l2)
/-- a value is handed on -/
def VOk (K : Frag) (H : Hp) (o : Lo) (Q : VK) (d : D) (st : Store) : Prop := ∀ v H' o', Le H o H' o' → StOk K H' o' st → Rep K H' o' d v → Q v H'
theorem VOk.mono {K : Frag} {H H' : Hp} {o o' : Lo} {Q : VK} {d : D} {st : Store} (x : VOk K H o Q d st) (l : Le H o H' o') : VOk K H' o' Q d st :=
  fun v H2 o2 l2 => x v H2 o2 (l.trans l2)
def LOk (K : Frag) (H : Hp) (o : Lo) (Q : List V → Hp → Prop) (ds : List D) (st : Store) : Prop := ∀ vs H' o', Le H o H' o' → StOk K H' o' st → Reps K H' o' ds vs → Q vs H'
theorem LOk.mono {K : Frag} {H H' : Hp} {o o' : Lo} {Q : List V → Hp → Prop} {d : List D} {st : Store} (x : LOk K H o Q d st) (l : Le H o H' o') : LOk K H' o' Q d st :=
  fun v H2 o2 l2 => x v H2 o2 (l.trans l2)
def BOk (K : Frag) (H : Hp) (o : Lo) (Q : Bool → Hp → Prop) (b : Bool) (st : Store) : Prop := ∀ H' o', Le H o H' o' → StOk K H' o' st → Q b H'
theorem BOk.mono {K : Frag} {H H' : Hp} {o o' : Lo} {Q : Bool → Hp → Prop} {d : Bool} {st : Store} (x : BOk K H o Q d st) (l : Le H o H' o') : BOk K H' o' Q d st :=
  fun H2 o2 l2 => x H2 o2 (l.trans l2)

def tD (K : Frag) (E : XK) (f : Den) : TE := fun σ H Q => ∃ o ρ st, EnvOk K H o ρ σ ∧ StOk K H o st ∧ wpR (f ρ st) (VOk K H o Q) (XOk K E H o)
def tL (K : Frag) (E : XK) (f : DenL) : TA := fun σ H Q => ∃ o ρ st, EnvOk K H o ρ σ ∧ StOk K H o st ∧ wpR (f ρ st) (LOk K H o Q) (XOk K E H o)
def tT (K : Frag) (E : XK) (f : DenB) : TT := fun σ H Q => ∃ o ρ st, EnvOk K H o ρ σ ∧ StOk K H o st ∧ wpR (f ρ st) (BOk K H o Q) (XOk K E H o)
abbrev PD (X : Cx) (E : XK) (e : Expr) (f : Den) : Prop := PE X e (tD X.K E f)
abbrev PL (X : Cx) (E : XK) (es : List Expr) (f : DenL) : Prop := PA X es (tL X.K E f)
abbrev PB (X : Cx) (E : XK) (e : Expr) (f : DenB) : Prop := PT X e (tT X.K E f)
/-- by values -/
def rOne (K : Frag) (E : XK) (op : D → M D) : V → Hp → VK → Prop := fun x H Q => ∃ dx o st, Rep K H o dx x ∧ StOk K H o st ∧ wpR (op dx st) (VOk K H o Q) (XOk K E H o)
def rTwo (K : Frag) (E : XK) (op : D → D → M D) : R2 := fun x y H Q => ∃ dx dy o st, Rep K H o dx x ∧ Rep K H o dy y ∧ StOk K H o st ∧ wpR (op dx dy st) (VOk K H o Q) (XOk K E H o)
def rLst (K : Frag) (E : XK) (op : List D → M D) : List V → Hp → VK → Prop := fun xs H Q => ∃ ds o st, Reps K H o ds xs ∧ StOk K H o st ∧ wpR (op ds st) (VOk K H o Q) (XOk K E H o)
abbrev OpD (X : Cx) (E : XK) (f : Value → Value → Sem Value) (op : D → D → M D) : Prop := OpR X f (rTwo X.K E op)
abbrev UnD (X : Cx) (E : XK) (f : Value → Sem Value) (op : D → M D) : Prop := UnR X f (rOne X.K E op)
abbrev IxD (X : Cx) (E : XK) (op : D → D → M D) : Prop := IxR X (rTwo X.K E op)
abbrev CallD (X : Cx) (E : XK) (f : Value) (op : List D → M D) : Prop := CallR X f (rLst X.K E op)

theorem PE.imp {X : Cx} {e : Expr} {t t' : TE} (h : PE X e t) (m : ∀ σ H Q, t' σ H Q → t σ H Q) : PE X e t' := ⟨fun pins s σ H Q I q => h.run pins s σ H Q I (m σ H Q q)⟩
theorem PA.imp {X : Cx} {e : List Expr} {t t' : TA} (h : PA X e t) (m : ∀ σ H Q, t' σ H Q → t σ H Q) : PA X e t' := ⟨fun pos pins s σ H Q I q => h.run pos pins s σ H Q I (m σ H Q q)⟩
theorem PT.imp {X : Cx} {e : Expr} {t t' : TT} (h : PT X e t) (m : ∀ σ H Q, t' σ H Q → t σ H Q) : PT X e t' := ⟨fun pins s σ H Q I q => h.run pins s σ H Q I (m σ H Q q)⟩

section
variable {K : Frag} {E : XK} {σ : L2.St} {H : Hp} {Q : VK}
theorem tD_bind {f : Den} {g : D → Den} (h : tD K E (fun ρ => f ρ >>= fun d => g d ρ) σ H Q) :
    tD K E f σ H fun v H1 => ∃ d o ρ st, Rep K H1 o d v ∧ EnvOk K H1 o ρ σ ∧ StOk K H1 o st ∧ wpR (g d ρ st) (VOk K H1 o Q) (XOk K E H1 o) := by
  obtain ⟨o, ρ, st, he, hs, h⟩ := h
  refine ⟨o, ρ, st, he, hs, ?_⟩
  refine (wpR.bind.mp h).mono (fun d st1 h1 v H1 o1 l s1 r => ⟨d, o1, ρ, st1, r, he.mono l.rep, s1, ?_⟩) fun _ _ x => x
  exact h1.mono (fun _ _ x => x.mono l) fun _ _ x => x.mono l
theorem tL_bind {f : DenL} {g : List D → Den} (h : tD K E (fun ρ => f ρ >>= fun d => g d ρ) σ H Q) :
    tL K E f σ H fun v H1 => ∃ d o ρ st, Reps K H1 o d v ∧ EnvOk K H1 o ρ σ ∧ StOk K H1 o st ∧ wpR (g d ρ st) (VOk K H1 o Q) (XOk K E H1 o) := by
  obtain ⟨o, ρ, st, he, hs, h⟩ := h
  refine ⟨o, ρ, st, he, hs, ?_⟩
  refine (wpR.bind.mp h).mono (fun d st1 h1 v H1 o1 l s1 r => ⟨d, o1, ρ, st1, r, he.mono l.rep, s1, ?_⟩) fun _ _ x => x
  exact h1.mono (fun _ _ x => x.mono l) fun _ _ x => x.mono l
theorem tT_bind {f : DenB} {g : Bool → Den} (h : tD K E (fun ρ => f ρ >>= fun d => g d ρ) σ H Q) :
    tT K E f σ H fun b H1 => tD K E (g b) σ H1 Q := by
  obtain ⟨o, ρ, st, he, hs, h⟩ := h
  refine ⟨o, ρ, st, he, hs, ?_⟩
  refine (wpR.bind.mp h).mono (fun d st1 h1 H1 o1 l s1 => ⟨o1, ρ, st1, he.mono l.rep, s1, ?_⟩) fun _ _ x => x
  exact h1.mono (fun _ _ x => x.mono l) fun _ _ x => x.mono l
/-- two in a row -/
theorem tD_two {f g : Den} {op : D → D → M D} (h : tD K E (fun ρ => f ρ >>= fun x => g ρ >>= fun y => op x y) σ H Q) :
    tD K E f σ H fun x H1 => tD K E g σ H1 fun y H2 => rTwo K E op x y H2 Q := by
  obtain ⟨o, ρ, st, he, hs, h⟩ := h
  refine ⟨o, ρ, st, he, hs, ?_⟩
  refine (wpR.bind.mp h).mono (fun d st1 h1 v H1 o1 l s1 r => ⟨o1, ρ, st1, he.mono l.rep, s1, ?_⟩) fun _ _ x => x
  refine (wpR.bind.mp h1).mono (fun d2 st2 h2 v2 H2 o2 l2 s2 r2 => ⟨d, d2, o2, st2, Rep.mono l2 d v r, r2, s2, ?_⟩) fun _ _ x => x.mono l
  exact h2.mono (fun _ _ x => x.mono (l.trans l2)) fun _ _ x => x.mono (l.trans l2)
theorem tD_one {f : Den} {op : D → M D} (h : tD K E (fun ρ => f ρ >>= fun x => op x) σ H Q) : tD K E f σ H fun x H1 => rOne K E op x H1 Q := by
  obtain ⟨o, ρ, st, he, hs, h⟩ := h
  refine ⟨o, ρ, st, he, hs, ?_⟩
  refine (wpR.bind.mp h).mono (fun d st1 h1 v H1 o1 l s1 r => ⟨d, o1, st1, r, s1, ?_⟩) fun _ _ x => x
  exact h1.mono (fun _ _ x => x.mono l) fun _ _ x => x.mono l
theorem tD_lst {f : DenL} {op : List D → M D} (h : tD K E (fun ρ => f ρ >>= fun x => op x) σ H Q) : tL K E f σ H fun x H1 => rLst K E op x H1 Q := by
  obtain ⟨o, ρ, st, he, hs, h⟩ := h
  refine ⟨o, ρ, st, he, hs, ?_⟩
  refine (wpR.bind.mp h).mono (fun d st1 h1 v H1 o1 l s1 r => ⟨d, o1, st1, r, s1, ?_⟩) fun _ _ x => x
  exact h1.mono (fun _ _ x => x.mono l) fun _ _ x => x.mono l
theorem tD_pure {d : D} (v : V) (hv : ∀ H o, Rep K H o d v) (h : tD K E (fun _ => pure d) σ H Q) : Q v H := by
  obtain ⟨o, ρ, st, he, hs, h⟩ := h
  exact h v H o (Le.refl _ _) hs (hv _ _)
end

section
variable {X : Cx} {E : XK} {a b : Expr} {f g : Den} {pos : Pos}
theorem pd_bin {op : Operator} {p : D → D → M D} (ho : OpD X E (binaryOp op) p) (ha : PD X E a f) (hb : PD X E b g) : PD X E (.BinOp a op b pos) (fun ρ => f ρ >>= fun x => g ρ >>= fun y => p x y) :=
  PE.imp (pe_op ho ha hb) fun _ _ _ h => tD_two h
theorem pd_un {op : UnaryOp} {p : D → M D} (ho : UnD X E (unaryOp op) p) (ha : PD X E a f) : PD X E (.UnaryOp op a pos) (fun ρ => f ρ >>= fun x => p x) :=
  PE.imp (pe_un ho ha) fun _ _ _ h => tD_one h
theorem pd_cmp {op : CmpOp} {p : D → D → M D} (ho : OpD X E (compareOp op) p) (ha : PD X E a f) (hb : PD X E b g) (hm : behindInMarks op b = false) : PD X E (.Compare a [op] [b] pos) (fun ρ => f ρ >>= fun x => g ρ >>= fun y => p x y) :=
  PE.imp (pe_cmpR ho ha hb hm) fun _ _ _ h => tD_two h
theorem pd_ix {p : D → D → M D} (ho : IxD X E p) (ha : PD X E a f) (hb : PD X E b g) (hs : PlainIx b) : PD X E (.Subscript a b pos) (fun ρ => f ρ >>= fun x => g ρ >>= fun y => p x y) :=
  PE.imp (pe_ix ho ha hb hs) fun _ _ _ h => tD_two h
/-- a truth value -/
def asB : D → M Bool
  | .bl b => pure b
  | _ => M.stuck
theorem tT_of {K : Frag} {σ : L2.St} {H : Hp} {Q : Bool → Hp → Prop} {f : Den} (h : tT K E (fun ρ => f ρ >>= asB) σ H Q) : tD K E f σ H fun x H1 => ∃ k, x = .bl k ∧ Q k H1 := by
  obtain ⟨o, ρ, st, he, hs, h⟩ := h
  refine ⟨o, ρ, st, he, hs, ?_⟩
  refine (wpR.bind.mp h).mono (fun d st1 h1 v H1 o1 l s1 r => ?_) fun _ _ x => x
  cases d with
  | bl b => exact ⟨b, r, h1 H1 o1 l s1⟩
  | _ => exact False.elim h1
theorem pb_cmp {op : CmpOp} {p : D → D → M D} (ho : OpD X E (compareOp op) p) (ha : PD X E a f) (hb : PD X E b g) (hm : behindInMarks op b = false) : PB X E (.Compare a [op] [b] pos) (fun ρ => (f ρ >>= fun x => g ρ >>= fun y => p x y) >>= asB) :=
  PT.imp (pt_cmpR ho ha hb hm) fun _ _ _ h => by
    have h1 := tT_of h
    exact tD_two h1
theorem pb_val {e : Expr} (h : PD X E e f) (he : ∀ whole, isTrue e X.env whole = (do let v ← whole; standAt e.pos; holding [v] (truthy v))) : PB X E e (fun ρ => f ρ >>= asB) :=
  PT.imp (pt_val h he) fun _ _ _ h => tT_of h
end
end MP

namespace MP
open PySem L2
open PySem.Spec PyProof.Rows
abbrev big : Nat := 16000000
theorem big_le : big ≤ sizeLine := by rw [sizeLine_eq]; decide
theorem big_lt : big < sizeLine := by rw [sizeLine_eq]; decide

/-! ## lists that are read -/
def lstOf : D → M (List D)
  | .lst ds => pure ds
  | .ref n => fun st => match st[n]? with
    | some (.lst ds) => .ok ds st
    | _ => .stuck
  | _ => M.stuck
section
variable {K : Frag} {E : XK} {H : Hp} {o : Lo} {st : Store} {X : Cx}
theorem lstOf_wp {d : D} {v : V} {Q : List D → Store → Prop} {Z : Exn → Store → Prop} (r : Rep K H o d v) (s : StOk K H o st) (h : wpR (lstOf d st) Q Z) :
    ∃ ds a xs, v = .ref a ∧ H a = some (.lst xs) ∧ Reps K H o ds xs ∧ Q ds st := by
  cases d with
  | lst ds => obtain ⟨a, xs, e, h1, _, h2⟩ := r; exact ⟨ds, a, xs, e, h1, h2, h⟩
  | ref n =>
    have h' : wpR (match st[n]? with | some (.lst ds) => R.ok ds st | _ => .stuck) Q Z := h
    cases q : st[n]? with
    | none => rw [q] at h'; exact False.elim h'
    | some c =>
      rw [q] at h'
      cases c with
      | lst ds =>
        obtain ⟨a, xs, e1, e2, e3⟩ := s.cell n _ q
        obtain ⟨b, rfl, h1⟩ := r
        have : a = b := by
          rw [e1] at h1
          rcases h1 with h1 | h1
          · cases h1; rfl
          · cases h1
        subst this
        exact ⟨ds, a, xs, rfl, e2, e3, h'⟩
      | _ => exact False.elim h'
  | _ => exact False.elim h

/-! ## closing a value -/
theorem fin_flat {d : D} {v : V} {Q : VK} {op : R D} (h : wpR op (VOk K H o Q) (XOk K E H o)) (e : op = .ok d st) (s : StOk K H o st) (r : ∀ H o, Rep K H o d v) : Q v H := by
  subst e; exact h v H o (Le.refl _ _) s (r _ _)
theorem ok_flat {d : D} {v : V} {Q : VK} (h : VOk K H o Q d st) (s : StOk K H o st) (r : Rep K H o d v) : Q v H := h v H o (Le.refl _ _) s r
theorem ok_newTup {ds : List D} {xs : List V} {p : Addr} {Q : VK} (h : VOk K H o Q (.tup ds) st) (s : StOk K H o st) (r : Reps K H o ds xs) (hp : H p = none) : Q (.ref p) (upd H p (.tup xs)) :=
  h _ _ o (Le.new hp) (s.new hp) (Rep.newTup s hp r)
theorem ok_newLst {ds : List D} {xs : List V} {p : Addr} {Q : VK} (h : VOk K H o Q (.lst ds) st) (s : StOk K H o st) (r : Reps K H o ds xs) (hp : H p = none) : Q (.ref p) (upd H p (.lst xs)) :=
  h _ _ o (Le.new hp) (s.new hp) (Rep.newLst s hp r)

/-! ## + -/
def guardM (c : Bool) (m : M D) : M D := bif c then m else M.stuck
theorem guardM_wp {c : Bool} {m : M D} {Q : D → Store → Prop} {Z : Exn → Store → Prop} (h : wpR (guardM c m st) Q Z) : c = true ∧ wpR (m st) Q Z := by
  cases c with
  | true => exact ⟨rfl, h⟩
  | false => exact False.elim h
def catL (x y : D) : M D := lstOf x >>= fun a => lstOf y >>= fun b => guardM (decide (a.length + b.length ≤ big)) (pure (.lst (a ++ b)))
def opAdd : D → D → M D
  | .int i, .int j => pure (.int (i + j))
  | .str i, .str j => guardM (decide (i.length + j.length ≤ big)) (pure (.str (i ++ j)))
  | .tup xs, .tup ys => guardM (decide (xs.length + ys.length ≤ big)) (pure (.tup (xs ++ ys)))
  | .lst xs, y => catL (.lst xs) y
  | .ref n, y => catL (.ref n) y
  | _, _ => M.stuck
theorem catL_ok {x y : V} {dx dy : D} {Q : VK} (r1 : Rep K H o dx x) (r2 : Rep K H o dy y) (s : StOk K H o st) (h : wpR (catL dx dy st) (VOk K H o Q) (XOk K E H o)) : rCat x y H Q := by
  obtain ⟨da, a, xs, rfl, e1, q1, h⟩ := lstOf_wp r1 s (wpR.bind.mp h)
  obtain ⟨db, b, ys, rfl, e2, q2, h⟩ := lstOf_wp r2 s (wpR.bind.mp h)
  obtain ⟨hl, h⟩ := guardM_wp h
  refine ⟨a, b, xs, ys, rfl, rfl, e1, e2, ?_, fun p hp => ok_newLst h s (q1.append q2) hp⟩
  rw [q1.length, q2.length]
  exact Nat.le_trans (of_decide_eq_true hl) big_le
theorem od_add : OpD X E (binaryOp .Add) opAdd := by
  intro pins s σ H x y v u Q I rx ry h
  obtain ⟨dx, dy, o, st, r1, r2, so, h⟩ := h
  cases dx with
  | int i =>
    cases dy with
    | int j => exact op_add pins s σ H x y v u Q I rx ry ⟨i, j, r1, r2, ok_flat h so rfl⟩
    | _ => exact False.elim h
  | str i =>
    cases dy with
    | str j =>
      obtain ⟨hl, h⟩ := guardM_wp h
      exact op_add_str pins s σ H x y v u Q I rx ry ⟨i, j, r1, r2, Nat.le_trans (of_decide_eq_true hl) big_le, ok_flat h so rfl⟩
    | _ => exact False.elim h
  | tup ds =>
    cases dy with
    | tup es =>
      obtain ⟨hl, h⟩ := guardM_wp h
      obtain ⟨a, xs, rfl, k1, q1⟩ := r1
      obtain ⟨b, ys, rfl, k2, q2⟩ := r2
      refine op_catA pins s σ H _ _ v u Q I rx ry ⟨a, b, xs, ys, rfl, rfl, tup_sq k1, tup_sq k2, ?_, ?_⟩
      · rw [q1.length, q2.length]; exact Nat.le_trans (of_decide_eq_true hl) big_le
      · refine ⟨fun e => ?_, fun e1 e2 => ?_, fun _ _ p hp => ok_newTup h so (q1.append q2) hp⟩
        · have e' := (q1.nil_iff).mp e
          subst e'
          exact ok_flat h so ⟨b, ys, rfl, k2, q2⟩
        · have e' := (q2.nil_iff).mp e2
          subst e'
          exact ok_flat h so ⟨a, xs, rfl, k1, by simpa using q1⟩
    | _ => exact False.elim h
  | lst ds => exact op_cat pins s σ H x y v u Q I rx ry (catL_ok r1 r2 so h)
  | ref n => exact op_cat pins s σ H x y v u Q I rx ry (catL_ok r1 r2 so h)
  | _ => exact False.elim h

/-! ## ints -/
def opSub : D → D → M D
  | .int i, .int j => pure (.int (i - j))
  | _, _ => M.stuck
theorem od_sub : OpD X E (binaryOp .Sub) opSub := by
  intro pins s σ H x y v u Q I rx ry h
  obtain ⟨dx, dy, o, st, r1, r2, so, h⟩ := h
  cases dx <;> cases dy <;> first | exact False.elim h | skip
  exact op_sub pins s σ H x y v u Q I rx ry ⟨_, _, r1, r2, ok_flat h so rfl⟩
def opMul : D → D → M D
  | .int i, .int j => guardM (decide (i.natAbs.log2 + j.natAbs.log2 < 1000000)) (pure (.int (i * j)))
  | .lst xs, .int k => guardM (decide (-(2 ^ 63) ≤ k ∧ k < 2 ^ 63 ∧ xs.length * k.toNat ≤ big)) (pure (.lst (List.replicate k.toNat xs).flatten))
  | .tup xs, .int k => guardM (!xs.isEmpty && decide (2 ≤ k ∧ k ≤ 1000 ∧ xs.length ≤ 1000)) (pure (.tup (List.replicate k.toNat xs).flatten))
  | _, _ => M.stuck
theorem Reps.rep {ds : List D} {vs : List V} (h : Reps K H o ds vs) : ∀ n : Nat, Reps K H o (List.replicate n ds).flatten (List.replicate n vs).flatten
  | 0 => rfl
  | n + 1 => by
    rw [List.replicate_succ, List.replicate_succ, List.flatten_cons, List.flatten_cons]
    exact h.append (Reps.rep h n)
theorem od_mul : OpD X E (binaryOp .Mult) opMul := by
  intro pins s σ H x y v u Q I rx ry h
  obtain ⟨dx, dy, o, st, r1, r2, so, h⟩ := h
  cases dx <;> cases dy <;> first | exact False.elim h | skip
  · obtain ⟨hc, h⟩ := guardM_wp h
    exact op_mulW pins s σ H x y v u Q I rx ry ⟨_, _, r1, r2, (by have e := of_decide_eq_true hc; exact e), ok_flat h so rfl⟩
  · obtain ⟨hc, h⟩ := guardM_wp h
    rw [Bool.and_eq_true] at hc
    have h0 := hc.1
    obtain ⟨h1, h2, h3⟩ := of_decide_eq_true hc.2
    obtain ⟨a, xs, rfl, k1, q1⟩ := r1
    refine op_repT pins s σ H _ y v u Q I rx ry ⟨a, _, xs, rfl, r2, tup_sq k1, fun e => by rw [q1.nil_iff.mp e] at h0; exact absurd h0 (by decide), h1, h2, by rw [q1.length]; exact h3, fun p hp => ok_newTup h so (q1.rep _) hp⟩
  · obtain ⟨hc, h⟩ := guardM_wp h
    obtain ⟨h1, h2, h3⟩ := of_decide_eq_true hc
    obtain ⟨a, xs, rfl, k1, k2, q1⟩ := r1
    exact op_rep pins s σ H _ y v u Q I rx ry ⟨a, _, xs, rfl, r2, k1, h1, h2, by rw [q1.length]; exact Nat.le_trans h3 big_le, fun p hp => ok_newLst h so (q1.rep _) hp⟩
def opDiv : D → D → M D
  | .int i, .int j => guardM (decide (0 < j ∧ j.natAbs.log2 < 9000)) (pure (.int (i / j)))
  | _, _ => M.stuck
theorem od_div : OpD X E (binaryOp .FloorDiv) opDiv := by
  intro pins s σ H x y v u Q I rx ry h
  obtain ⟨dx, dy, o, st, r1, r2, so, h⟩ := h
  cases dx <;> cases dy <;> first | exact False.elim h | skip
  obtain ⟨hc, h⟩ := guardM_wp h
  exact op_fdivW pins s σ H x y v u Q I rx ry ⟨_, _, r1, r2, (by have e := of_decide_eq_true hc; exact e), ok_flat h so rfl⟩
def opMod : D → D → M D
  | .int i, .int j => guardM (decide (0 < j)) (pure (.int (i % j)))
  | _, _ => M.stuck
theorem od_mod : OpD X E (binaryOp .Mod) opMod := by
  intro pins s σ H x y v u Q I rx ry h
  obtain ⟨dx, dy, o, st, r1, r2, so, h⟩ := h
  cases dx <;> cases dy <;> first | exact False.elim h | skip
  obtain ⟨hc, h⟩ := guardM_wp h
  exact op_mod pins s σ H x y v u Q I rx ry ⟨_, _, r1, r2, (by have e := of_decide_eq_true hc; exact e), ok_flat h so rfl⟩
def opPow : D → D → M D
  | .int i, .int j => guardM (decide (0 ≤ j ∧ j ≤ 1000000 ∧ i.natAbs < 2 ^ 64)) (pure (.int (i ^ j.toNat)))
  | _, _ => M.stuck
theorem od_pow : OpD X E (binaryOp .Pow) opPow := by
  intro pins s σ H x y v u Q I rx ry h
  obtain ⟨dx, dy, o, st, r1, r2, so, h⟩ := h
  cases dx <;> cases dy <;> first | exact False.elim h | skip
  obtain ⟨hc, h⟩ := guardM_wp h
  exact op_pow pins s σ H x y v u Q I rx ry ⟨_, _, r1, r2, (by have e := of_decide_eq_true hc; exact e), ok_flat h so rfl⟩
def opNeg : D → M D
  | .int i => pure (.int (-i))
  | _ => M.stuck
theorem ud_neg : UnD X E (unaryOp .USub) opNeg := by
  intro pins s σ H x v Q I rx h
  obtain ⟨dx, o, st, r1, so, h⟩ := h
  cases dx <;> first | exact False.elim h | skip
  exact un_neg pins s σ H x v Q I rx ⟨_, r1, ok_flat h so rfl⟩
def opCmp (p : Int → Int → Bool) : D → D → M D
  | .int i, .int j => pure (.bl (p i j))
  | _, _ => M.stuck
theorem od_cmp {f : Value → Value → Sem Value} {p : Int → Int → Bool} (hf : OpR X f (rI0 fun i j => .bl (p i j))) : OpD X E f (opCmp p) := by
  intro pins s σ H x y v u Q I rx ry h
  obtain ⟨dx, dy, o, st, r1, r2, so, h⟩ := h
  cases dx <;> cases dy <;> first | exact False.elim h | skip
  exact hf pins s σ H x y v u Q I rx ry ⟨_, _, r1, r2, ok_flat h so rfl⟩
abbrev opLt := opCmp fun i j => decide (i < j)
abbrev opLe := opCmp fun i j => decide (i ≤ j)
abbrev opGt := opCmp fun i j => decide (j < i)
abbrev opGe := opCmp fun i j => decide (j ≤ i)
theorem od_lt : OpD X E (compareOp .Lt) opLt := od_cmp op_lt
theorem od_le : OpD X E (compareOp .LtE) opLe := od_cmp op_le
theorem od_gt : OpD X E (compareOp .Gt) opGt := od_cmp op_gt
theorem od_ge : OpD X E (compareOp .GtE) opGe := od_cmp op_ge

/-! ## is None -/
def isNon : D → Bool
  | .non => true
  | _ => false
theorem Rep.isNon {d : D} {v : V} (r : Rep K H o d v) : decide (v = .non) = isNon d := by
  cases d with
  | non => cases (show v = .non from r); rfl
  | bl b => cases (show v = .bl b from r); rfl
  | int b => cases (show v = .int b from r); rfl
  | str b => cases (show v = .str b from r); rfl
  | tup ds => obtain ⟨a, xs, rfl, _⟩ := r; rfl
  | lst ds => obtain ⟨a, xs, rfl, _⟩ := r; rfl
  | dic ks ds => obtain ⟨a, xs, rfl, _⟩ := r; rfl
  | scr ds => obtain ⟨a, rfl, _⟩ := r; rfl
  | ref ds => obtain ⟨a, rfl, _⟩ := r; rfl
  | kset ds => obtain ⟨a, xs, kas, rfl, _⟩ := r; rfl
  | cls c => cases (show v = .ref _ from r); rfl
  | exv => obtain ⟨a, rfl, _⟩ := r; rfl
  | tupn ds => obtain ⟨a, _, _, rfl, _⟩ := r; rfl
def opIsN (neg : Bool) : D → D → M D
  | x, .non => pure (.bl (if neg then !isNon x else isNon x))
  | _, _ => M.stuck
theorem od_isN : OpD X E (compareOp .Is) (opIsN false) := by
  intro pins s σ H x y v u Q I rx ry h
  obtain ⟨dx, dy, o, st, r1, r2, so, h⟩ := h
  cases dy with
  | non => exact op_isN pins s σ H x y v u Q I rx ry ⟨r2, by rw [r1.isNon]; exact ok_flat h so rfl⟩
  | _ => exact False.elim h
theorem od_notN : OpD X E (compareOp .IsNot) (opIsN true) := by
  intro pins s σ H x y v u Q I rx ry h
  obtain ⟨dx, dy, o, st, r1, r2, so, h⟩ := h
  cases dy with
  | non => exact op_notN pins s σ H x y v u Q I rx ry ⟨r2, by rw [r1.isNon]; exact ok_flat h so rfl⟩
  | _ => exact False.elim h

/-! ## data of any depth: ==, in -/
mutual
def D.py : D → PyData
  | .bl b => .bool b
  | .int i => .int i
  | .str s => .str s
  | .tup ds => .tuple (pys ds)
  | .lst ds => .list (pys ds)
  | _ => .none
def pys : List D → List PyData
  | [] => []
  | d :: ds => d.py :: pys ds
end
mutual
def D.okD : D → Bool
  | .non | .bl _ | .int _ => true
  | .str s => PyData.strOk s
  | .tup ds | .lst ds => okDs ds
  | _ => false
def okDs : List D → Bool
  | [] => true
  | d :: ds => d.okD && okDs ds
end
theorem pys_map : ∀ ds : List D, pys ds = ds.map D.py
  | [] => rfl
  | d :: ds => by show d.py :: pys ds = _; rw [pys_map ds]; rfl
theorem okDs_all : ∀ ds : List D, okDs ds = ds.all D.okD
  | [] => rfl
  | d :: ds => by show (d.okD && okDs ds) = _; rw [okDs_all ds]; rfl
mutual
theorem okD_lay : ∀ d : D, d.okD = true → d.py.canLay0 = true
  | .non, _ => by simp [D.py, PyData.canLay0]
  | .bl _, _ => by simp [D.py, PyData.canLay0]
  | .int _, _ => by simp [D.py, PyData.canLay0]
  | .str s, h => by
    have h' : PyData.strOk s = true := h
    simpa [D.py, PyData.canLay0] using h'
  | .tup ds, h => by
    have := okDs_lay ds h
    simpa [D.py, PyData.canLay0] using this
  | .lst ds, h => by
    have := okDs_lay ds h
    simpa [D.py, PyData.canLay0] using this
  | .dic _ _, h => by cases h
  | .scr _, h => by cases h
  | .ref _, h => by cases h
  | .kset _, h => by cases h
  | .cls _, h => by cases h
  | .exv, h => by cases h
  | .tupn _, h => by cases h
theorem okDs_lay : ∀ ds : List D, okDs ds = true → PyData.canLayAll0 (pys ds) = true
  | [], _ => by simp [pys, PyData.canLayAll0]
  | d :: ds, h => by
    have h' : (d.okD && okDs ds) = true := h
    rw [Bool.and_eq_true] at h'
    have e1 := okD_lay d h'.1
    have e2 := okDs_lay ds h'.2
    simp [pys, PyData.canLayAll0, e1, e2]
end
mutual
theorem Rep.dp : ∀ (d : D) (v : V), Rep K H o d v → d.okD = true → Dp K H v d.py
  | .non, v, r, _ => by cases (show v = .non from r); simpa [D.py] using Dp.non
  | .bl b, v, r, _ => by cases (show v = .bl b from r); simpa [D.py] using Dp.bl b
  | .int b, v, r, _ => by cases (show v = .int b from r); simpa [D.py] using Dp.int b
  | .str b, v, r, _ => by cases (show v = .str b from r); simpa [D.py] using Dp.str b
  | .tup ds, v, r, h => by
    obtain ⟨a, xs, rfl, k, q⟩ := r
    simpa [D.py] using Dp.tup (tup_sq k) (Reps.dp ds xs q h)
  | .lst ds, v, r, h => by
    obtain ⟨a, xs, rfl, k, _, q⟩ := r
    simpa [D.py] using Dp.lst (SqL.of k) (Reps.dp ds xs q h)
  | .dic _ _, _, _, h => by cases h
  | .scr _, _, _, h => by cases h
  | .ref _, _, _, h => by cases h
  | .kset _, _, _, h => by cases h
  | .cls _, _, _, h => by cases h
  | .exv, _, _, h => by cases h
  | .tupn _, _, _, h => by cases h
theorem Reps.dp : ∀ (ds : List D) (vs : List V), Reps K H o ds vs → okDs ds = true → DpAll K H vs (pys ds)
  | [], vs, r, _ => by cases (show vs = [] from r); simpa [pys] using DpAll.nil
  | d :: ds, vs, r, h => by
    obtain ⟨v, vs', rfl, r1, r2⟩ := r
    have h' : (d.okD && okDs ds) = true := h
    rw [Bool.and_eq_true] at h'
    simpa [pys] using DpAll.cons (Rep.dp d v r1 h'.1) (Reps.dp ds vs' r2 h'.2)
end
def D.sh (d : D) : Bool := d.okD && decide (d.py.depth ≤ 64)
theorem sh_shaped {d : D} (h : d.sh = true) : d.okD = true ∧ SeqAt.shaped d.py = true := by
  have h' := h
  unfold D.sh at h'
  rw [Bool.and_eq_true] at h'
  refine ⟨h'.1, ?_⟩
  show (d.py.canLay0 && decide (d.py.depth ≤ 64)) = true
  rw [okD_lay d h'.1, h'.2]; rfl
def deq (a b : D) : Bool := PyData.eqv a.py b.py
/-- a cell's list is read as a list -/
def dataOf : D → M D
  | .ref n => fun st => match st[n]? with
    | some (.lst ds) => .ok (.lst ds) st
    | _ => .stuck
  | d => pure d
theorem dataOf_wp {d : D} {v : V} {Q : D → Store → Prop} {Z : Exn → Store → Prop} (r : Rep K H o d v) (s : StOk K H o st) (h : wpR (dataOf d st) Q Z) :
    ∃ d', (d'.okD = true → Dp K H v d'.py) ∧ Q d' st := by
  cases d with
  | ref n =>
    have h' : wpR (match st[n]? with | some (.lst ds) => R.ok (.lst ds) st | _ => .stuck) Q Z := h
    cases q : st[n]? with
    | none => rw [q] at h'; exact False.elim h'
    | some c =>
      rw [q] at h'
      cases c with
      | lst ds =>
        obtain ⟨a, xs, e1, e2, e3⟩ := s.cell n _ q
        obtain ⟨b, rfl, h1⟩ := r
        have : a = b := by
          rw [e1] at h1
          rcases h1 with h1 | h1
          · cases h1; rfl
          · cases h1
        subst this
        exact ⟨_, fun z => by simpa [D.py] using Dp.lst (SqL.of e2) (Reps.dp ds xs e3 z), h'⟩
      | _ => exact False.elim h'
  | _ => exact ⟨_, fun z => Rep.dp _ _ r z, h⟩
def opEq (neg : Bool) (x y : D) : M D := dataOf x >>= fun a => dataOf y >>= fun b => guardM (a.sh && b.sh) (pure (.bl (if neg then !deq a b else deq a b)))
theorem opEq_wp {neg : Bool} {dx dy : D} {x y : V} {Q : VK} (r1 : Rep K H o dx x) (r2 : Rep K H o dy y) (so : StOk K H o st) (h : wpR (opEq neg dx dy st) (VOk K H o Q) (XOk K E H o)) :
    ∃ d e, Dp K H x d ∧ Dp K H y e ∧ SeqAt.shaped d = true ∧ SeqAt.shaped e = true ∧ Q (.bl (if neg then !PyData.eqv d e else PyData.eqv d e)) H := by
  obtain ⟨a, p1, h⟩ := dataOf_wp r1 so (wpR.bind.mp h)
  obtain ⟨b, p2, h⟩ := dataOf_wp r2 so (wpR.bind.mp h)
  obtain ⟨hc, h⟩ := guardM_wp h
  rw [Bool.and_eq_true] at hc
  obtain ⟨o1, s1⟩ := sh_shaped hc.1
  obtain ⟨o2, s2⟩ := sh_shaped hc.2
  exact ⟨_, _, p1 o1, p2 o2, s1, s2, ok_flat h so rfl⟩
theorem od_eq (hu : X.A.units + 64 < cLine) : OpD X E (compareOp .Eq) (opEq false) := by
  intro pins s σ H x y v u Q I rx ry h
  obtain ⟨dx, dy, o, st, r1, r2, so, h⟩ := h
  obtain ⟨d, e, p1, p2, s1, s2, q⟩ := opEq_wp r1 r2 so h
  exact op_eqD hu pins s σ H x y v u Q I rx ry ⟨d, e, p1, p2, s1, s2, q⟩
theorem od_ne (hu : X.A.units + 64 < cLine) : OpD X E (compareOp .NotEq) (opEq true) := by
  intro pins s σ H x y v u Q I rx ry h
  obtain ⟨dx, dy, o, st, r1, r2, so, h⟩ := h
  obtain ⟨d, e, p1, p2, s1, s2, q⟩ := opEq_wp r1 r2 so h
  exact op_neD hu pins s σ H x y v u Q I rx ry ⟨d, e, p1, p2, s1, s2, q⟩
theorem op_inT (hu : X.A.units + 65 < cLine) : OpR X (compareOp .In) (fun x y H Q => ∃ d ds, Dp X.K H x d ∧ Dp X.K H y (.tuple ds) ∧ SeqAt.shaped d = true ∧ SeqAt.shaped (.tuple ds) = true ∧ Q (.bl (ds.any fun z => PyData.eqv z d)) H) := by
  intro pins s σ H x y v u Q I rx ry h
  obtain ⟨d, ds, hd, he, sd, se, q⟩ := h
  obtain ⟨as, r1⟩ := Dp.reads I d x v hd rx
  obtain ⟨bs, r2⟩ := Dp.reads I (.tuple ds) y u he ry
  exact SeqAt.in_tuple_reads r2 r1 (SeqAt.canLay_of_shaped se) (SeqAt.canLay_of_shaped sd) (room_in_shaped sd hu) ⟨.bl _, H, I, rfl, q⟩
theorem op_notInT (hu : X.A.units + 65 < cLine) : OpR X (compareOp .NotIn) (fun x y H Q => ∃ d ds, Dp X.K H x d ∧ Dp X.K H y (.tuple ds) ∧ SeqAt.shaped d = true ∧ SeqAt.shaped (.tuple ds) = true ∧ Q (.bl (!ds.any fun z => PyData.eqv z d)) H) := by
  intro pins s σ H x y v u Q I rx ry h
  obtain ⟨d, ds, hd, he, sd, se, q⟩ := h
  obtain ⟨as, r1⟩ := Dp.reads I d x v hd rx
  obtain ⟨bs, r2⟩ := Dp.reads I (.tuple ds) y u he ry
  exact SeqAt.notIn_tuple_reads r2 r1 (SeqAt.canLay_of_shaped se) (SeqAt.canLay_of_shaped sd) (room_in_shaped sd hu) ⟨.bl _, H, I, rfl, q⟩
/-- keys of a dict -/
def keyD : D → Option Key
  | .int i => some (.inl i)
  | .str s => some (.inr s)
  | _ => none
theorem keyD_rep {d : D} {k : Key} {v : V} (e : keyD d = some k) (r : Rep K H o d v) : v = kV k := by
  cases d with
  | int i => cases e; exact r
  | str i => cases e; exact r
  | _ => cases e
def dget : List Key → List D → Key → Option D
  | k :: ks, d :: ds, q => if k = q then some d else dget ks ds q
  | _, _, _ => none
theorem dget_val : ∀ {kvs : List (Key × V)} {ds : List D} {q : Key}, Reps K H o ds (kvs.map (·.2)) →
    (dget (kvs.map (·.1)) ds q = none ∧ valV kvs q = none) ∨ ∃ d v, dget (kvs.map (·.1)) ds q = some d ∧ valV kvs q = some v ∧ Rep K H o d v
  | [], ds, q, r => .inl ⟨by cases ds <;> rfl, valV_nil⟩
  | p :: kvs, [], q, r => by cases (show (p :: kvs).map (·.2) = [] from r)
  | p :: kvs, d :: ds, q, r => by
    obtain ⟨v, vs', e, r1, r2⟩ := r
    obtain ⟨rfl, rfl⟩ := List.cons.inj e
    by_cases hp : p.1 = q
    · right
      exact ⟨d, p.2, by simp [dget, hp], valV_pos hp, r1⟩
    · rw [valV_neg hp]
      rcases dget_val (q := q) r2 with ⟨h1, h2⟩ | ⟨d', v', h1, h2, h3⟩
      · exact .inl ⟨by simp only [List.map_cons, dget, if_neg hp]; exact h1, h2⟩
      · exact .inr ⟨d', v', by simp only [List.map_cons, dget, if_neg hp]; exact h1, h2, h3⟩
/-- the dict at a value -/
def dicOf : D → M (List Key × List D)
  | .dic ks ds => pure (ks, ds)
  | .ref n => fun st => match st[n]? with
    | some (.dic ks ds) => .ok (ks, ds) st
    | _ => .stuck
  | _ => M.stuck
theorem dicOf_wp {d : D} {v : V} {Q : List Key × List D → Store → Prop} {Z : Exn → Store → Prop} (r : Rep K H o d v) (s : StOk K H o st) (h : wpR (dicOf d st) Q Z) :
    ∃ ks ds a kvs, v = .ref a ∧ H a = some (.dK kvs) ∧ kvs.map (·.1) = ks ∧ Reps K H o ds (kvs.map (·.2)) ∧ Q (ks, ds) st := by
  cases d with
  | dic ks ds => obtain ⟨a, kvs, e, h1, _, h3, h2⟩ := r; exact ⟨ks, ds, a, kvs, e, h1, h3, h2, h⟩
  | ref n =>
    have h' : wpR (match st[n]? with | some (.dic ks ds) => R.ok (ks, ds) st | _ => .stuck) Q Z := h
    cases q : st[n]? with
    | none => rw [q] at h'; exact False.elim h'
    | some c =>
      rw [q] at h'
      cases c with
      | dic ks ds =>
        obtain ⟨a, xs, e1, e2, e4, e3⟩ := s.cell n _ q
        obtain ⟨b, rfl, h1⟩ := r
        have : a = b := by
          rw [e1] at h1
          rcases h1 with h1 | h1
          · cases h1; rfl
          · cases h1
        subst this
        exact ⟨ks, ds, a, xs, rfl, e2, e4, e3, h'⟩
      | _ => exact False.elim h'
  | _ => exact False.elim h
def opIn (neg : Bool) (x y : D) : M D := match x, y with
  | .str i, .str j => pure (.bl (if neg then (Builtin.Str.occurrences j i 0 j.length 1).isEmpty else !(Builtin.Str.occurrences j i 0 j.length 1).isEmpty))
  | x, .tup es => dataOf x >>= fun a => guardM (a.sh && (D.tup es).sh) (pure (.bl (if neg then !(es.any fun z => deq z a) else es.any fun z => deq z a)))
  | x, .lst es => dataOf x >>= fun a => guardM (a.sh && (D.lst es).sh) (pure (.bl (if neg then !(es.any fun z => deq z a) else es.any fun z => deq z a)))
  | x, .ref n => dataOf x >>= fun a => lstOf (.ref n) >>= fun es => guardM (a.sh && (D.lst es).sh) (pure (.bl (if neg then !(es.any fun z => deq z a) else es.any fun z => deq z a)))
  | _, _ => M.stuck
theorem any_pys (es : List D) (a : D) : (pys es).any (fun z => PyData.eqv z a.py) = es.any fun z => deq z a := by
  rw [pys_map, List.any_map]; rfl
theorem opIn_wp {neg : Bool} {dx dy : D} {x y : V} {Q : VK} (r1 : Rep K H o dx x) (r2 : Rep K H o dy y) (so : StOk K H o st) (h : wpR (opIn neg dx dy st) (VOk K H o Q) (XOk K E H o)) :
    (∃ i j, x = .str i ∧ y = .str j ∧ Q (.bl (if neg then (Builtin.Str.occurrences j i 0 j.length 1).isEmpty else !(Builtin.Str.occurrences j i 0 j.length 1).isEmpty)) H) ∨
    (∃ d ds, Dp K H x d ∧ Dp K H y (.tuple ds) ∧ SeqAt.shaped d = true ∧ SeqAt.shaped (.tuple ds) = true ∧ Q (.bl (if neg then !ds.any (fun z => PyData.eqv z d) else ds.any fun z => PyData.eqv z d)) H) ∨
    (∃ d ds, Dp K H x d ∧ Dp K H y (.list ds) ∧ SeqAt.shaped d = true ∧ SeqAt.shaped (.list ds) = true ∧ Q (.bl (if neg then !ds.any (fun z => PyData.eqv z d) else ds.any fun z => PyData.eqv z d)) H) := by
  cases dy with
  | str j =>
    cases dx with
    | str i => exact .inl ⟨i, j, r1, r2, ok_flat h so rfl⟩
    | _ => exact False.elim h
  | tup es =>
    have h' : wpR ((dataOf dx >>= fun a => guardM (a.sh && (D.tup es).sh) (pure (.bl (if neg then !(es.any fun z => deq z a) else es.any fun z => deq z a)))) st) (VOk K H o Q) (XOk K E H o) := by
      cases dx <;> exact h
    obtain ⟨a, p1, h⟩ := dataOf_wp r1 so (wpR.bind.mp h')
    obtain ⟨hc, h⟩ := guardM_wp h
    rw [Bool.and_eq_true] at hc
    obtain ⟨o1, s1⟩ := sh_shaped hc.1
    obtain ⟨o2, s2⟩ := sh_shaped hc.2
    have d2 := Rep.dp _ _ r2 o2
    refine .inr (.inl ⟨_, pys es, p1 o1, by simpa [D.py] using d2, s1, by simpa [D.py] using s2, ?_⟩)
    rw [any_pys]
    exact ok_flat h so rfl
  | lst es =>
    have h' : wpR ((dataOf dx >>= fun a => guardM (a.sh && (D.lst es).sh) (pure (.bl (if neg then !(es.any fun z => deq z a) else es.any fun z => deq z a)))) st) (VOk K H o Q) (XOk K E H o) := by
      cases dx <;> exact h
    obtain ⟨a, p1, h⟩ := dataOf_wp r1 so (wpR.bind.mp h')
    obtain ⟨hc, h⟩ := guardM_wp h
    rw [Bool.and_eq_true] at hc
    obtain ⟨o1, s1⟩ := sh_shaped hc.1
    obtain ⟨o2, s2⟩ := sh_shaped hc.2
    have d2 := Rep.dp _ _ r2 o2
    refine .inr (.inr ⟨_, pys es, p1 o1, by simpa [D.py] using d2, s1, by simpa [D.py] using s2, ?_⟩)
    rw [any_pys]
    exact ok_flat h so rfl
  | ref n =>
    have h' : wpR ((dataOf dx >>= fun a => lstOf (.ref n) >>= fun es => guardM (a.sh && (D.lst es).sh) (pure (.bl (if neg then !(es.any fun z => deq z a) else es.any fun z => deq z a)))) st) (VOk K H o Q) (XOk K E H o) := by
      cases dx <;> exact h
    obtain ⟨a, p1, h⟩ := dataOf_wp r1 so (wpR.bind.mp h')
    obtain ⟨es, b, xs, rfl, e2, q2, h⟩ := lstOf_wp r2 so (wpR.bind.mp h)
    obtain ⟨hc, h⟩ := guardM_wp h
    rw [Bool.and_eq_true] at hc
    obtain ⟨o1, s1⟩ := sh_shaped hc.1
    obtain ⟨o2, s2⟩ := sh_shaped hc.2
    refine .inr (.inr ⟨_, pys es, p1 o1, Dp.lst (SqL.of e2) (Reps.dp es xs q2 o2), s1, by simpa [D.py] using s2, ?_⟩)
    rw [any_pys]
    exact ok_flat h so rfl
  | _ => cases dx <;> exact False.elim h
theorem od_in (hu : X.A.units + 65 < cLine) : OpD X E (compareOp .In) (opIn false) := by
  intro pins s σ H x y v u Q I rx ry h
  obtain ⟨dx, dy, o, st, r1, r2, so, h⟩ := h
  rcases opIn_wp r1 r2 so h with q | q | q
  · exact op_in_str pins s σ H x y v u Q I rx ry q
  · exact op_inT hu pins s σ H x y v u Q I rx ry q
  · exact op_inD hu pins s σ H x y v u Q I rx ry q
theorem od_notIn (hu : X.A.units + 65 < cLine) : OpD X E (compareOp .NotIn) (opIn true) := by
  intro pins s σ H x y v u Q I rx ry h
  obtain ⟨dx, dy, o, st, r1, r2, so, h⟩ := h
  rcases opIn_wp r1 r2 so h with ⟨i, j, e1, e2, q⟩ | q | q
  · exact op_notin_str pins s σ H x y v u Q I rx ry ⟨i, j, e1, e2, by simpa using q⟩
  · exact op_notInT hu pins s σ H x y v u Q I rx ry q
  · exact op_notInD hu pins s σ H x y v u Q I rx ry q
end
end MP

namespace MP
open PySem L2
open PySem.Spec PyProof.Rows
def optM : Option D → M D
  | some d => pure d
  | none => M.stuck
section
variable {K : Frag} {E : XK} {H : Hp} {o : Lo} {st : Store} {X : Cx}
theorem optM_wp {x : Option D} {Q : D → Store → Prop} {Z : Exn → Store → Prop} (h : wpR (optM x st) Q Z) : ∃ d, x = some d ∧ Q d st := by
  cases x with
  | some d => exact ⟨d, rfl, h⟩
  | none => exact False.elim h
theorem atI_rep {ds : List D} {vs : List V} {i : Int} {d : D} (r : Reps K H o ds vs) (e : atI ds i = some d) : ∃ v, atI vs i = some v ∧ Rep K H o d v := by
  unfold atI at e ⊢
  rw [r.length]
  cases q : ixN ds.length i with
  | none => rw [q] at e; cases e
  | some j =>
    rw [q] at e
    obtain ⟨v, h1, h2⟩ := r.get (show ds[j]? = some d from e)
    exact ⟨v, h1, h2⟩

/-! ## subscripts -/
def ixCell : Option Cell → D → M D
  | some (.lst ds), .int i => optM (atI ds i)
  | some (.dic ks ds), k => match keyD k with
    | some q => optM (dget ks ds q)
    | none => M.stuck
  | _, _ => M.stuck
def opIx : D → D → M D
  | .tup ds, .int i => optM (atI ds i)
  | .lst ds, .int i => optM (atI ds i)
  | .str z, .int i => guardM (decide (z.length ≤ big)) (match atI z.cps.toList i with
    | some c => pure (.str ⟨#[c]⟩)
    | none => M.stuck)
  | .scr ns, .int i => optM ((atI ns i).map D.int)
  | .dic ks ds, k => ixCell (some (.dic ks ds)) k
  | .ref n, k => fun st => ixCell st[n]? k st
  | _, _ => M.stuck
theorem atI_map {α β : Type} (f : α → β) (xs : List α) (i : Int) : atI (xs.map f) i = (atI xs i).map f := by
  unfold atI
  rw [List.length_map]
  cases ixN xs.length i with
  | none => rfl
  | some j => show (xs.map f)[j]? = (xs[j]?).map f; rw [List.getElem?_map]
theorem ix_dict (hu : X.A.units + 1 < cLine) : IxR X (fun x y H Q => ∃ a v, x = .ref a ∧ DGet H a y (some v) ∧ Q v H) := by
  intro value slice pins s σ H x y v u Q I rx ry h hs
  obtain ⟨a, z, rfl, g, q⟩ := h
  cases rx
  exact tail_any (dict_typeIs I g) PySem.F.slot_dict_getitem.lookup (d_getItem hu I g ry fun w' s3 I3 rw' => ⟨z, H, I3, rw', q⟩) hs
theorem id_ix (hu : X.A.units + 1 < cLine) : IxD X E opIx := by
  intro value slice pins s σ H x y v u Q I rx ry h hs
  obtain ⟨dx, dy, o, st, r1, r2, so, h⟩ := h
  have dic : ∀ {a : Addr} {kvs : List (Key × V)} {ks : List Key} {ds : List D} {dk : D}, x = .ref a → H a = some (.dK kvs) → kvs.map (·.1) = ks → Reps X.K H o ds (kvs.map (·.2)) → Rep X.K H o dk y → wpR (ixCell (some (.dic ks ds)) dk st) (VOk X.K H o Q) (XOk X.K E H o) →
      wpAny (model X.prog X.w) X.A (subscriptTail value slice v u) (EP X pins σ Q) X.xe s := fun {a kvs ks ds dk} e1 e2 e3 e4 r h => by
    subst e1 e3
    have h' : wpR ((match keyD dk with | some q => optM (dget (List.map (fun p : Key × V => p.1) kvs) ds q) | none => M.stuck) st) (VOk X.K H o Q) (XOk X.K E H o) := by
      cases dk <;> exact h
    cases q : keyD dk with
    | none => rw [q] at h'; exact False.elim h'
    | some k =>
      rw [q] at h'
      obtain ⟨d, e5, h5⟩ := optM_wp h'
      have ey := keyD_rep q r
      subst ey
      rcases dget_val (q := k) e4 with ⟨g1, _⟩ | ⟨d', w, g1, g2, g3⟩
      · rw [g1] at e5; cases e5
      · rw [g1] at e5; cases e5
        exact ix_dict hu value slice pins s σ H _ _ v u Q I rx ry ⟨a, w, rfl, by rw [← g2]; exact DGet.k e2, ok_flat h5 so g3⟩ hs
  have lst : ∀ {a : Addr} {xs : List V} {ds : List D} {i : Int}, x = .ref a → H a = some (.lst xs) → Reps X.K H o ds xs → y = .int i → wpR (optM (atI ds i) st) (VOk X.K H o Q) (XOk X.K E H o) →
      wpAny (model X.prog X.w) X.A (subscriptTail value slice v u) (EP X pins σ Q) X.xe s := fun {a xs ds i} e1 e2 e3 e4 h => by
    obtain ⟨d, e5, h5⟩ := optM_wp h
    obtain ⟨w, e6, e7⟩ := atI_rep e3 e5
    exact ix_list value slice pins s σ H x y v u Q I rx ry ⟨a, xs, i, w, e1, e4, SqL.of e2, e6, ok_flat h5 so e7⟩ hs
  cases dx with
  | tup ds =>
    cases dy with
    | int i =>
      obtain ⟨a, xs, rfl, k1, q1⟩ := r1
      obtain ⟨d, e5, h5⟩ := optM_wp h
      obtain ⟨w, e6, e7⟩ := atI_rep q1 e5
      exact ix_tup value slice pins s σ H _ y v u Q I rx ry ⟨a, xs, i, w, rfl, r2, tup_sq k1, e6, ok_flat h5 so e7⟩ hs
    | _ => exact False.elim h
  | lst ds =>
    cases dy with
    | int i => obtain ⟨a, xs, e, k1, _, q1⟩ := r1; exact lst e k1 q1 r2 h
    | _ => exact False.elim h
  | str z =>
    cases dy with
    | int i =>
      obtain ⟨hl, h⟩ := guardM_wp h
      cases q : atI z.cps.toList i with
      | none => rw [q] at h; exact False.elim h
      | some c =>
        rw [q] at h
        exact ix_str value slice pins s σ H x y v u Q I rx ry ⟨z, i, c, r1, r2, Nat.le_trans (of_decide_eq_true hl) big_le, q, ok_flat h so rfl⟩ hs
    | _ => exact False.elim h
  | scr ns =>
    cases dy with
    | int i =>
      obtain ⟨a, rfl, k1⟩ := r1
      obtain ⟨d, e5, h5⟩ := optM_wp h
      obtain ⟨j, e6, rfl⟩ := Option.map_eq_some_iff.mp e5
      have sq : SqL X.K H a (ns.map V.int) := by
        rcases k1 with ⟨ob, k1, _⟩ | k1
        · exact .inl (.inr ⟨ob, k1⟩)
        · exact .inr k1
      exact ix_list value slice pins s σ H _ y v u Q I rx ry ⟨a, _, i, .int j, rfl, r2, sq, by rw [atI_map, e6]; rfl, ok_flat h5 so rfl⟩ hs
    | _ => exact False.elim h
  | dic ks ds =>
    obtain ⟨a, kvs, e1, e2, _, e3, e4⟩ := r1
    exact dic e1 e2 e3 e4 r2 h
  | ref n =>
    have h' : wpR (ixCell st[n]? dy st) (VOk X.K H o Q) (XOk X.K E H o) := by cases dy <;> exact h
    cases q : st[n]? with
    | none => rw [q] at h'; cases dy <;> exact False.elim h'
    | some c =>
      rw [q] at h'
      obtain ⟨b, e0, h1⟩ := r1
      have at_ : ∀ {a}, o.l[n]? = some (some a) → x = .ref a := fun {a} e1 => by
        rw [e1] at h1
        rcases h1 with h1 | h1
        · cases h1; exact e0
        · cases h1
      cases c with
      | lst ds =>
        obtain ⟨a, xs, e1, e2, e3⟩ := so.cell n _ q
        cases dy with
        | int i => exact lst (at_ e1) e2 e3 r2 h'
        | _ => exact False.elim h'
      | dic ks ds =>
        obtain ⟨a, kvs, e1, e2, e4, e3⟩ := so.cell n _ q
        exact dic (at_ e1) e2 e4 e3 r2 h'
      | _ => cases dy <;> exact False.elim h'
  | _ => cases dy <;> exact False.elim h

/-! ## slices -/
def cutL {α : Type} (xs : List α) (lo hi : Option Int) : List α := (xs.drop (HT.sIx xs.length 0 lo)).take (HT.sIx xs.length xs.length hi - HT.sIx xs.length 0 lo)
theorem Reps.cut {ds : List D} {vs : List V} (r : Reps K H o ds vs) (lo hi : Option Int) : Reps K H o (cutL ds lo hi) (cutV vs lo hi) := by
  unfold cutL cutV
  rw [r.length]
  exact (r.drop _).take _
theorem cutL_whole {α : Type} {xs : List α} {lo hi : Option Int} (h1 : HT.sIx xs.length 0 lo = 0) (h2 : HT.sIx xs.length xs.length hi = xs.length) : cutL xs lo hi = xs := by
  unfold cutL
  rw [h1, h2]
  simp
def opSl (lo hi : Option Int) : D → M D
  | .tup ds => pure (.tup (cutL ds lo hi))
  | .lst ds => pure (.lst (cutL ds lo hi))
  | .str z => guardM (decide (z.length ≤ big)) (pure (.str (cutS z lo hi)))
  | .ref n => lstOf (.ref n) >>= fun ds => pure (.lst (cutL ds lo hi))
  | .tupn ds => guardM (decide (¬ (HT.sIx ds.length 0 lo = 0 ∧ HT.sIx ds.length ds.length hi = ds.length))) (pure (.tup (cutL ds lo hi)))
  | _ => M.stuck
abbrev SlD (X : Cx) (E : XK) (op : Option Int → Option Int → D → M D) : Prop := SlR X (fun x lo hi H Q => rOne X.K E (op lo hi) x H Q)
theorem sd_sl : SlD X E opSl := by
  intro pins s σ H x v vl vu lo hi sl Q I rx hs pl pu h
  obtain ⟨dx, o, st, r1, so, h⟩ := h
  cases dx with
  | tup ds =>
    obtain ⟨a, xs, rfl, k1, q1⟩ := r1
    refine sl_tupA pins s σ H _ v vl vu lo hi sl Q I rx hs pl pu ⟨a, xs, rfl, tup_sq k1, fun ⟨e1, e2⟩ => ?_, fun _ p hp => ok_newTup h so (q1.cut lo hi) hp⟩
    rw [q1.length] at e1 e2
    have h' : VOk X.K H o Q (.tup (cutL ds lo hi)) st := h
    rw [cutL_whole e1 e2] at h'
    exact ok_flat h' so ⟨a, xs, rfl, k1, q1⟩
  | lst ds =>
    obtain ⟨a, xs, rfl, k1, _, q1⟩ := r1
    exact sl_list pins s σ H _ v vl vu lo hi sl Q I rx hs pl pu ⟨a, xs, rfl, SqL.of k1, fun p hp => ok_newLst h so (q1.cut lo hi) hp⟩
  | str z =>
    obtain ⟨hl, h⟩ := guardM_wp h
    exact sl_str pins s σ H _ v vl vu lo hi sl Q I rx hs pl pu ⟨z, r1, Nat.le_trans (of_decide_eq_true hl) big_le, ok_flat h so rfl⟩
  | ref n =>
    obtain ⟨ds, a, xs, rfl, k1, q1, h⟩ := lstOf_wp r1 so (wpR.bind.mp h)
    exact sl_list pins s σ H _ v vl vu lo hi sl Q I rx hs pl pu ⟨a, xs, rfl, SqL.of k1, fun p hp => ok_newLst h so (q1.cut lo hi) hp⟩
  | tupn ds =>
    obtain ⟨a, ob, xs, rfl, k1, _, _, q1⟩ := r1
    obtain ⟨hl, h⟩ := guardM_wp h
    have hl := of_decide_eq_true hl
    refine sl_tupA pins s σ H _ v vl vu lo hi sl Q I rx hs pl pu ⟨a, xs, rfl, .inl (.inr ⟨ob, k1⟩), fun e => ?_, fun _ p hp => ok_newTup h so (q1.cut lo hi) hp⟩
    rw [q1.length] at e
    exact absurd e hl
  | _ => exact False.elim h
/-- a part of a slice -/
abbrev DenO := Env → M (Option Int)
def OOk (K : Frag) (H : Hp) (o : Lo) (Q : Option Int → Hp → Prop) (b : Option Int) (st : Store) : Prop := ∀ H' o', Le H o H' o' → StOk K H' o' st → Q b H'
theorem OOk.mono {K : Frag} {H H' : Hp} {o o' : Lo} {Q : Option Int → Hp → Prop} {d : Option Int} {st : Store} (x : OOk K H o Q d st) (l : Le H o H' o') : OOk K H' o' Q d st :=
  fun H2 o2 l2 => x H2 o2 (l.trans l2)
def tO (K : Frag) (E : XK) (f : DenO) : TO := fun σ H Q => ∃ o ρ st, EnvOk K H o ρ σ ∧ StOk K H o st ∧ wpR (f ρ st) (OOk K H o Q) (XOk K E H o)
abbrev PDO (X : Cx) (E : XK) (e : Option Expr) (f : DenO) : Prop := PO X e (tO X.K E f)
theorem PO.imp {e : Option Expr} {t t' : TO} (h : PO X e t) (m : ∀ σ H Q, t' σ H Q → t σ H Q) : PO X e t' := ⟨fun pins s σ H Q I q => h.run pins s σ H Q I (m σ H Q q)⟩
def asI : D → M (Option Int)
  | .int i => pure (some i)
  | _ => M.stuck
theorem pdo_none : PDO X E none (fun _ => pure none) := PO.imp po_none fun σ H Q h => by
  obtain ⟨o, ρ, st, he, hs, h⟩ := h
  exact h H o (Le.refl _ _) hs
theorem pdo_some {e : Expr} {f : Den} (h : PD X E e f) : PDO X E (some e) (fun ρ => f ρ >>= asI) := PO.imp (po_some h) fun σ H Q h => by
  obtain ⟨o, ρ, st, he, hs, h⟩ := h
  refine ⟨o, ρ, st, he, hs, ?_⟩
  refine (wpR.bind.mp h).mono (fun d st1 h1 v H1 o1 l s1 r => ?_) fun _ _ x => x
  cases d with
  | int i => exact ⟨i, r, h1 H1 o1 l s1⟩
  | _ => exact False.elim h1
theorem pd_slice {e : Expr} {lo hi : Option Expr} {f : Den} {fl fh : DenO} {pos p2 : Pos} (he : PD X E e f) (hl : PDO X E lo fl) (hh : PDO X E hi fh) :
    PD X E (.Subscript e (.Slice lo hi none p2) pos) (fun ρ => f ρ >>= fun x => fl ρ >>= fun l => fh ρ >>= fun u => opSl l u x) :=
  PE.imp (pe_slice (sd_sl (E := E)) he hl hh) fun σ H Q h => by
    obtain ⟨o, ρ, st, he, hs, h⟩ := h
    refine ⟨o, ρ, st, he, hs, ?_⟩
    refine (wpR.bind.mp h).mono (fun d st1 h1 v H1 o1 l1 s1 r => ⟨o1, ρ, st1, he.mono l1.rep, s1, ?_⟩) fun _ _ x => x
    refine (wpR.bind.mp h1).mono (fun l st2 h2 H2 o2 l2 s2 => ⟨o2, ρ, st2, (he.mono l1.rep).mono l2.rep, s2, ?_⟩) fun _ _ x => x.mono l1
    refine (wpR.bind.mp h2).mono (fun u st3 h3 H3 o3 l3 s3 => ⟨d, o3, st3, Rep.mono l3 _ _ (Rep.mono l2 _ _ r), s3, ?_⟩) fun _ _ x => (x.mono l1).mono l2
    exact h3.mono (fun _ _ x => ((x.mono l1).mono l2).mono l3) fun _ _ x => ((x.mono l1).mono l2).mono l3

/-! ## builtins by name -/
@[simp] def on1 (f : D → M D) : List D → M D
  | [d] => f d
  | _ => M.stuck
@[simp] def on2 (f : D → D → M D) : List D → M D
  | [d, e] => f d e
  | _ => M.stuck
theorem Reps.one_of {d : D} {vs : List V} (r : Reps K H o [d] vs) : ∃ v, vs = [v] ∧ Rep K H o d v := by
  obtain ⟨v, vs', rfl, h1, h2⟩ := r
  cases (show vs' = [] from h2)
  exact ⟨v, rfl, h1⟩
theorem Reps.two_of {d e : D} {vs : List V} (r : Reps K H o [d, e] vs) : ∃ v w, vs = [v, w] ∧ Rep K H o d v ∧ Rep K H o e w := by
  obtain ⟨v, vs', rfl, h1, h2⟩ := r
  obtain ⟨w, rfl, h3⟩ := Reps.one_of h2
  exact ⟨v, w, rfl, h1, h3⟩
theorem cd_on1 {f : Value} {op : D → M D} (hf : ∀ (pins : List (Addr × Obj)) (s : Shared) (σ : L2.St) (H : Hp) (v : V) (us : List Value) (Q : VK) (d : D) (o : Lo) (st : Store), L2.Inv X pins σ H s → Vals [v] us → Rep X.K H o d v → StOk X.K H o st → wpR (op d st) (VOk X.K H o Q) (XOk X.K E H o) →
    wpAny (model X.prog X.w) X.A (call f us) (EP X pins σ Q) X.xe s) : CallD X E f (on1 op) := by
  intro pins s σ H xs us Q I r h
  obtain ⟨ds, o, st, r1, so, h⟩ := h
  cases ds with
  | nil => exact False.elim h
  | cons d ds =>
    cases ds with
    | nil =>
      obtain ⟨v, e, q⟩ := r1.one_of
      subst e
      exact hf pins s σ H v us Q d o st I r q so h
    | cons _ _ => exact False.elim h
theorem cd_on2 {f : Value} {op : D → D → M D} (hf : ∀ (pins : List (Addr × Obj)) (s : Shared) (σ : L2.St) (H : Hp) (v w : V) (us : List Value) (Q : VK) (d e : D) (o : Lo) (st : Store), L2.Inv X pins σ H s → Vals [v, w] us → Rep X.K H o d v → Rep X.K H o e w → StOk X.K H o st → wpR (op d e st) (VOk X.K H o Q) (XOk X.K E H o) →
    wpAny (model X.prog X.w) X.A (call f us) (EP X pins σ Q) X.xe s) : CallD X E f (on2 op) := by
  intro pins s σ H xs us Q I r h
  obtain ⟨ds, o, st, r1, so, h⟩ := h
  cases ds with
  | nil => exact False.elim h
  | cons d ds =>
    cases ds with
    | nil => exact False.elim h
    | cons e ds =>
      cases ds with
      | nil =>
        obtain ⟨v, w, e, q, q2⟩ := r1.two_of
        subst e
        exact hf pins s σ H v w us Q d _ o st I r q q2 so h
      | cons _ _ => exact False.elim h
def cellLen : Option Cell → M D
  | some (.lst ds) => pure (.int ds.length)
  | some (.dic ks ds) => pure (.int ks.length)
  | _ => M.stuck
def biLen : D → M D
  | .tup ds => pure (.int ds.length)
  | .lst ds => pure (.int ds.length)
  | .str z => guardM (decide (z.length ≤ big)) (pure (.int z.length))
  | .scr ns => pure (.int ns.length)
  | .ref n => fun st => cellLen st[n]? st
  | _ => M.stuck
theorem call_len_dict : CallR X (.builtin "len") (fun xs H Q => ∃ a kvs, xs = [.ref a] ∧ H a = some (.dK kvs) ∧ Q (.int kvs.length) H) := by
  intro pins s σ H xs us Q I r h
  obtain ⟨a, kvs, rfl, e, q⟩ := h
  obtain ⟨u, rfl, rx⟩ := vals1 r
  cases rx
  exact d_len I (.inl e) fun t s' I' => ⟨.int kvs.length, H, I', ⟨t, rfl⟩, q⟩
theorem cd_len : CallD X E (.builtin "len") (on1 biLen) := cd_on1 fun pins s σ H v us Q d o st I r r1 so h => by
  cases d with
  | tup ds =>
    obtain ⟨a, ys, rfl, k1, q1⟩ := r1
    exact call_len_seq pins s σ H _ us Q I r ⟨a, ys, rfl, .inr (tup_sq k1), by rw [q1.length]; exact ok_flat h so rfl⟩
  | lst ds =>
    obtain ⟨a, ys, rfl, k1, _, q1⟩ := r1
    exact call_len_seq pins s σ H _ us Q I r ⟨a, ys, rfl, .inl (SqL.of k1), by rw [q1.length]; exact ok_flat h so rfl⟩
  | str z =>
    obtain ⟨hl, h⟩ := guardM_wp h
    cases (show v = .str z from r1)
    exact call_len_str pins s σ H _ us Q I r ⟨z, rfl, Nat.le_trans (of_decide_eq_true hl) big_le, ok_flat h so rfl⟩
  | scr ns =>
    obtain ⟨a, rfl, k1⟩ := r1
    have sq : SqL X.K H a (ns.map V.int) := by
      rcases k1 with ⟨ob, k1, _⟩ | k1
      · exact .inl (.inr ⟨ob, k1⟩)
      · exact .inr k1
    exact call_len_seq pins s σ H _ us Q I r ⟨a, _, rfl, .inl sq, by rw [List.length_map]; exact ok_flat h so rfl⟩
  | ref n =>
    have h' : wpR (cellLen st[n]? st) (VOk X.K H o Q) (XOk X.K E H o) := h
    cases q : st[n]? with
    | none => rw [q] at h'; exact False.elim h'
    | some c =>
      rw [q] at h'
      obtain ⟨b, rfl, h1⟩ := r1
      have at_ : ∀ {a}, o.l[n]? = some (some a) → b = a := fun {a} e1 => by
        rw [e1] at h1
        rcases h1 with h1 | h1
        · cases h1; rfl
        · cases h1
      cases c with
      | lst ds =>
        obtain ⟨a, ys, e1, e2, e3⟩ := so.cell n _ q
        cases at_ e1
        exact call_len_seq pins s σ H _ us Q I r ⟨_, ys, rfl, .inl (SqL.of e2), by rw [e3.length]; exact ok_flat h' so rfl⟩
      | dic ks ds =>
        obtain ⟨a, kvs, e1, e2, e4, e3⟩ := so.cell n _ q
        cases at_ e1
        refine call_len_dict pins s σ H _ us Q I r ⟨_, kvs, rfl, e2, ?_⟩
        rw [show kvs.length = ks.length by rw [← e4, List.length_map]]
        exact ok_flat h' so rfl
      | _ => exact False.elim h'
  | _ => exact False.elim h
def biAbs : D → M D
  | .int i => pure (.int (if i < 0 then -i else i))
  | _ => M.stuck
def biInt : D → M D
  | .int i => pure (.int i)
  | .bl b => pure (.int (if b then 1 else 0))
  | _ => M.stuck
def biBool : D → M D
  | .int i => pure (.bl (i != 0))
  | .bl b => pure (.bl b)
  | _ => M.stuck
def biStr : D → M D
  | .int i => guardM (decide (i.natAbs.log2 < 1920)) (pure (.str (Str.ofString (toString i))))
  | .str z => pure (.str z)
  | _ => M.stuck
def biMin : D → D → M D
  | .int i, .int j => pure (.int (if j < i then j else i))
  | _, _ => M.stuck
def biMax : D → D → M D
  | .int i, .int j => pure (.int (if j > i then j else i))
  | _, _ => M.stuck
def intsD : List D → Option (List Int)
  | [] => some []
  | .int i :: ds => (intsD ds).map (i :: ·)
  | _ => none
theorem intsD_eq : ∀ {ds : List D} {ns : List Int}, intsD ds = some ns → ds = ns.map D.int
  | [], ns, h => by cases h; rfl
  | .int i :: ds, ns, h => by
    obtain ⟨ms, h1, rfl⟩ := Option.map_eq_some_iff.mp (show (intsD ds).map (i :: ·) = some ns from h)
    rw [intsD_eq h1]; rfl
  | .non :: _, _, h => by cases h
  | .bl _ :: _, _, h => by cases h
  | .str _ :: _, _, h => by cases h
  | .tup _ :: _, _, h => by cases h
  | .lst _ :: _, _, h => by cases h
  | .dic _ _ :: _, _, h => by cases h
  | .scr _ :: _, _, h => by cases h
  | .ref _ :: _, _, h => by cases h
def blsD : List D → Option (List Bool)
  | [] => some []
  | .bl i :: ds => (blsD ds).map (i :: ·)
  | _ => none
theorem blsD_eq : ∀ {ds : List D} {ns : List Bool}, blsD ds = some ns → ds = ns.map D.bl
  | [], ns, h => by cases h; rfl
  | .bl i :: ds, ns, h => by
    obtain ⟨ms, h1, rfl⟩ := Option.map_eq_some_iff.mp (show (blsD ds).map (i :: ·) = some ns from h)
    rw [blsD_eq h1]; rfl
  | .non :: _, _, h => by cases h
  | .int _ :: _, _, h => by cases h
  | .str _ :: _, _, h => by cases h
  | .tup _ :: _, _, h => by cases h
  | .lst _ :: _, _, h => by cases h
  | .dic _ _ :: _, _, h => by cases h
  | .scr _ :: _, _, h => by cases h
  | .ref _ :: _, _, h => by cases h
def sumL (ds : List D) : M D := match intsD ds with
  | some ns => pure (.int ns.sum)
  | none => M.stuck
def biSum : D → M D
  | .lst ds => sumL ds
  | _ => M.stuck
def allL (ds : List D) : M D := match blsD ds with
  | some bs => pure (.bl (bs.all id))
  | none => M.stuck
def biAll : D → M D
  | .lst ds => allL ds
  | _ => M.stuck
def anyL (ds : List D) : M D := match blsD ds with
  | some bs => pure (.bl (bs.any id))
  | none => M.stuck
def biAny : D → M D
  | .lst ds => anyL ds
  | _ => M.stuck
def biList : D → M D
  | .tup ds => pure (.lst ds)
  | .lst ds => pure (.lst ds)
  | .ref n => lstOf (.ref n) >>= fun ds => pure (.lst ds)
  | _ => M.stuck
def biTuple : D → M D
  | .tup ds => pure (.tup ds)
  | .lst ds => pure (.tup ds)
  | .ref n => lstOf (.ref n) >>= fun ds => pure (.tup ds)
  | _ => M.stuck
theorem cd_abs : CallD X E (.builtin "abs") (on1 biAbs) := cd_on1 fun pins s σ H v us Q d o st I r r1 so h => by
  cases d <;> first | exact False.elim h | skip
  cases (show v = .int _ from r1)
  exact call_abs pins s σ H _ us Q I r ⟨_, rfl, ok_flat h so rfl⟩
theorem cd_int : CallD X E (.type "int") (on1 biInt) := cd_on1 fun pins s σ H v us Q d o st I r r1 so h => by
  cases d <;> first | exact False.elim h | skip
  · cases (show v = .bl _ from r1)
    exact call_int1 pins s σ H _ us Q I r (.inr ⟨_, rfl, ok_flat h so rfl⟩)
  · cases (show v = .int _ from r1)
    exact call_int1 pins s σ H _ us Q I r (.inl ⟨_, rfl, ok_flat h so rfl⟩)
theorem cd_bool : CallD X E (.type "bool") (on1 biBool) := cd_on1 fun pins s σ H v us Q d o st I r r1 so h => by
  cases d <;> first | exact False.elim h | skip
  · cases (show v = .bl _ from r1)
    exact call_bool1 pins s σ H _ us Q I r (.inr ⟨_, rfl, ok_flat h so rfl⟩)
  · cases (show v = .int _ from r1)
    exact call_bool1 pins s σ H _ us Q I r (.inl ⟨_, rfl, ok_flat h so rfl⟩)
theorem cd_str : CallD X E (.type "str") (on1 biStr) := cd_on1 fun pins s σ H v us Q d o st I r r1 so h => by
  cases d <;> first | exact False.elim h | skip
  · cases (show v = .int _ from r1)
    obtain ⟨hl, h⟩ := guardM_wp h
    exact call_str_int pins s σ H _ us Q I r ⟨_, rfl, of_decide_eq_true hl, ok_flat h so rfl⟩
  · cases (show v = .str _ from r1)
    exact SkE.call_str_str pins s σ H _ us Q I r ⟨_, rfl, ok_flat h so rfl⟩
theorem cd_min (hc : X.calm = true) : CallD X E (.builtin "min") (on2 biMin) := cd_on2 fun pins s σ H v w us Q d e o st I r r1 r2 so h => by
  cases d <;> cases e <;> first | exact False.elim h | skip
  cases (show v = .int _ from r1)
  cases (show w = .int _ from r2)
  exact call_min2 hc pins s σ H _ us Q I r ⟨_, _, rfl, ok_flat h so rfl⟩
theorem cd_max (hc : X.calm = true) : CallD X E (.builtin "max") (on2 biMax) := cd_on2 fun pins s σ H v w us Q d e o st I r r1 r2 so h => by
  cases d <;> cases e <;> first | exact False.elim h | skip
  cases (show v = .int _ from r1)
  cases (show w = .int _ from r2)
  exact call_max2 hc pins s σ H _ us Q I r ⟨_, _, rfl, ok_flat h so rfl⟩
theorem cd_all (hc : X.calm = true) : CallD X E (.builtin "all") (on1 biAll) := cd_on1 fun pins s σ H v us Q d o st I r r1 so h => by
  cases d <;> first | exact False.elim h | skip
  rename_i ds
  obtain ⟨a, ys, rfl, k1, _, q1⟩ := r1
  have h' : wpR (allL ds st) (VOk X.K H o Q) (XOk X.K E H o) := h
  unfold allL at h'
  cases q : blsD ds with
  | none => rw [q] at h'; exact False.elim h'
  | some bs =>
    rw [q] at h'
    rw [blsD_eq q] at q1
    rw [q1.bls] at k1
    exact cr_all hc pins s σ H _ us Q I r ⟨a, bs, rfl, SqL.of k1, ok_flat h' so rfl⟩
theorem cd_any (hc : X.calm = true) : CallD X E (.builtin "any") (on1 biAny) := cd_on1 fun pins s σ H v us Q d o st I r r1 so h => by
  cases d <;> first | exact False.elim h | skip
  rename_i ds
  obtain ⟨a, ys, rfl, k1, _, q1⟩ := r1
  have h' : wpR (anyL ds st) (VOk X.K H o Q) (XOk X.K E H o) := h
  unfold anyL at h'
  cases q : blsD ds with
  | none => rw [q] at h'; exact False.elim h'
  | some bs =>
    rw [q] at h'
    rw [blsD_eq q] at q1
    rw [q1.bls] at k1
    exact cr_any hc pins s σ H _ us Q I r ⟨a, bs, rfl, SqL.of k1, ok_flat h' so rfl⟩
theorem cd_list : CallD X E (.type "list") (on1 biList) := cd_on1 fun pins s σ H v us Q d o st I r r1 so h => by
  cases d <;> first | exact False.elim h | skip
  · obtain ⟨a, ys, rfl, k1, q1⟩ := r1
    exact call_list_of pins s σ H _ us Q I r ⟨a, ys, rfl, .inr (tup_sq k1), fun l hl => ok_newLst h so q1 hl⟩
  · obtain ⟨a, ys, rfl, k1, _, q1⟩ := r1
    exact call_list_of pins s σ H _ us Q I r ⟨a, ys, rfl, .inl (SqL.of k1), fun l hl => ok_newLst h so q1 hl⟩
  · obtain ⟨ds, a, ys, rfl, k1, q1, h⟩ := lstOf_wp r1 so (wpR.bind.mp h)
    exact call_list_of pins s σ H _ us Q I r ⟨a, ys, rfl, .inl (SqL.of k1), fun l hl => ok_newLst h so q1 hl⟩
theorem cd_tuple : CallD X E (.type "tuple") (on1 biTuple) := cd_on1 fun pins s σ H v us Q d o st I r r1 so h => by
  cases d <;> first | exact False.elim h | skip
  · obtain ⟨a, ys, rfl, k1, q1⟩ := r1
    exact call_tuple_of pins s σ H _ us Q I r ⟨a, ys, rfl, .inr ⟨tup_sq k1, ok_flat h so ⟨a, ys, rfl, k1, q1⟩⟩⟩
  · obtain ⟨a, ys, rfl, k1, _, q1⟩ := r1
    exact call_tuple_of pins s σ H _ us Q I r ⟨a, ys, rfl, .inl ⟨SqL.of k1, fun l hl => ok_newTup h so q1 hl⟩⟩
  · obtain ⟨ds, a, ys, rfl, k1, q1, h⟩ := lstOf_wp r1 so (wpR.bind.mp h)
    exact call_tuple_of pins s σ H _ us Q I r ⟨a, ys, rfl, .inl ⟨SqL.of k1, fun l hl => ok_newTup h so q1 hl⟩⟩
/-- isinstance(x, T), T a built-in type -/
def tyName : D → Option String
  | .non => some "NoneType"
  | .bl _ => some "bool"
  | .int _ => some "int"
  | .str _ => some "str"
  | .tup _ => some "tuple"
  | .lst _ => some "list"
  | .scr _ => some "list"
  | .dic _ _ => some "dict"
  | .ref _ => none
  | .kset _ => none
  | .cls _ => none
  | .exv => none
  | .tupn _ => none
theorem Rep.ty {d : D} {v : V} {t : String} (r : Rep K H o d v) (e : tyName d = some t) : TyX K H v (.type t) := by
  cases d with
  | non => cases e; cases (show v = .non from r); exact .base .non
  | bl b => cases e; cases (show v = .bl b from r); exact .base (.bl b)
  | int b => cases e; cases (show v = .int b from r); exact .base (.int b)
  | str b => cases e; cases (show v = .str b from r); exact .base (.str b)
  | tup ds =>
    cases e
    obtain ⟨a, xs, rfl, k, _⟩ := r
    rcases k with ⟨k, _⟩ | ⟨ob, its, n, h1, h2, _⟩
    · exact .base (.tup k)
    · exact .kTuple h1 h2
  | lst ds => cases e; obtain ⟨a, xs, rfl, k, _⟩ := r; exact .base (.lst k)
  | dic ks ds => cases e; obtain ⟨a, xs, rfl, k, _⟩ := r; exact .base (.dK k)
  | scr ns =>
    cases e
    obtain ⟨a, rfl, k⟩ := r
    rcases k with ⟨ob, k, _⟩ | ⟨ob, its, n, h1, h2, _⟩
    · exact .base (.frz k)
    · exact .kList h1 h2
  | ref n => cases e
  | kset ds => cases e
  | cls ds => cases e
  | exv => cases e
  | tupn ds => cases e
/-- what isinstance answers: a table -/
def isiT (T t : String) : Option Bool := match T, t with
  | "int", "int" => some true | "int", "bool" => some true | "int", "NoneType" => some false | "int", "str" => some false | "int", "tuple" => some false | "int", "list" => some false | "int", "dict" => some false
  | "bool", "int" => some false | "bool", "bool" => some true | "bool", "NoneType" => some false | "bool", "str" => some false | "bool", "tuple" => some false | "bool", "list" => some false | "bool", "dict" => some false
  | "str", "int" => some false | "str", "bool" => some false | "str", "NoneType" => some false | "str", "str" => some true | "str", "tuple" => some false | "str", "list" => some false | "str", "dict" => some false
  | "tuple", "int" => some false | "tuple", "bool" => some false | "tuple", "NoneType" => some false | "tuple", "str" => some false | "tuple", "tuple" => some true | "tuple", "list" => some false | "tuple", "dict" => some false
  | "list", "int" => some false | "list", "bool" => some false | "list", "NoneType" => some false | "list", "str" => some false | "list", "tuple" => some false | "list", "list" => some true | "list", "dict" => some false
  | _, _ => none
theorem isiT_ok {T t : String} {b : Bool} (h : isiT T t = some b) : kitB t T = some b := by
  unfold isiT at h
  split at h <;> first | cases h | skip
  all_goals decide +kernel
def opIsi (T : String) (d : D) : M D := match (tyName d).bind (isiT T) with
  | some b => pure (.bl b)
  | none => M.stuck
theorem pd_isi {T : String} {e : Expr} {p p1 pos : Pos} {x y : Str} {f : Den} (hg : Gl X x) (hm : X.mg x = none) (hv : bootBuiltins x = some (.builtin "isinstance")) (hg2 : Gl X y) (hm2 : X.mg y = none) (hv2 : bootBuiltins y = some (.type T))
    (he : PD X E e f) (hn : x ≠ "__name__") (hdb : (x == ("__debug__" : Str)) = false) (hn2 : y ≠ "__name__") (hdb2 : (y == ("__debug__" : Str)) = false)
    (hs : ∀ es, starEach (e :: es) X.env = (false, eval e X.env) :: starEach es X.env) :
    PD X E (.Call (.Name x p) [e, .Name y p1] [] pos) (fun ρ => f ρ >>= opIsi T) := by
  refine PE.imp (pe_callB call_isi hg hm hv (pa_cons he (pa_cons (pe_bltn hg2 hm2 hv2 (v := .ty T) rfl hn2 hdb2) pa_nil) (hs _)) hn hdb (hs _) rfl) fun σ H Q h => ?_
  obtain ⟨o, ρ, st, he, hs, h⟩ := h
  refine ⟨o, ρ, st, he, hs, ?_⟩
  refine (wpR.bind.mp h).mono (fun d st1 h1 v H1 o1 l s1 r => ?_) fun _ _ x => x
  unfold opIsi at h1
  cases q : tyName d with
  | none => rw [q] at h1; exact False.elim h1
  | some t =>
    rw [q] at h1
    have h2 : wpR ((match isiT T t with | some b => (pure (.bl b) : M D) | none => M.stuck) st1) (VOk X.K H o Q) (XOk X.K E H o) := h1
    cases q2 : isiT T t with
    | none => rw [q2] at h2; exact False.elim h2
    | some b =>
      rw [q2] at h2
      exact ⟨v, .ty T, .type t, .type T, b, rfl, .ty T, r.ty q, kit_ty (isiT_ok q2), h2 _ H1 o1 l s1 rfl⟩
end
end MP

namespace MP
open PySem L2
open PySem.Spec PyProof.Rows
section
variable {K : Frag} {E : XK} {H H' : Hp} {o o' : Lo} {st : Store} {X : Cx}

/-! ## names, constants -/
@[simp] def dVar (i : Nat) : Den := fun ρ => match ρ[i]? with
  | some (some d) => pure d
  | _ => M.stuck
@[simp] def dC (d : D) : Den := fun _ => pure d
theorem pd_var {i : Nat} {x : Str} {pos : Pos} (hN : X.N[i]? = some x) (hv : Vis X.env.scope x) (hd : (x == ("__debug__" : Str)) = false) (hcd : (x == ("__classdict__" : Str)) = false) : PD X E (.Name x pos) (dVar i) :=
  PE.imp (pe_var hN hv hd hcd) fun σ H Q h => by
    obtain ⟨o, ρ, st, he, hs, h⟩ := h
    have h' : wpR ((match ρ[i]? with | some (some d) => (pure d : M D) | _ => M.stuck) st) (VOk X.K H o Q) (XOk X.K E H o) := h
    cases q : ρ[i]? with
    | none => rw [q] at h'; exact False.elim h'
    | some x =>
      rw [q] at h'
      cases x with
      | none => exact False.elim h'
      | some d =>
        obtain ⟨v, h1, h2⟩ := he.2 i d q
        exact ⟨v, h1, h' v H o (Le.refl _ _) hs h2⟩
theorem pd_const {e : Expr} {v : V} {d : D} (h : PE X e (tC v)) (r : ∀ H o, Rep X.K H o d v) : PD X E e (dC d) := PE.imp h fun σ H Q h => by
  obtain ⟨o, ρ, st, he, hs, h⟩ := h
  exact h v H o (Le.refl _ _) hs (r _ _)

/-! ## argument lists, displays -/
@[simp] def dNil : DenL := fun _ => pure []
@[simp] def dCons (f : Den) (fs : DenL) : DenL := fun ρ => f ρ >>= fun d => fs ρ >>= fun ds => pure (d :: ds)
theorem pl_nil : PL X E [] dNil := PA.imp pa_nil fun σ H Q h => by
  obtain ⟨o, ρ, st, he, hs, h⟩ := h
  exact h [] H o (Le.refl _ _) hs rfl
theorem tL_cons {σ : L2.St} {Q : List V → Hp → Prop} {f : Den} {fs : DenL} (h : tL K E (dCons f fs) σ H Q) : tCons (tD K E f) (tL K E fs) σ H Q := by
  obtain ⟨o, ρ, st, he, hs, h⟩ := h
  refine ⟨o, ρ, st, he, hs, ?_⟩
  refine (wpR.bind.mp h).mono (fun d st1 h1 v H1 o1 l s1 r => ⟨o1, ρ, st1, he.mono l.rep, s1, ?_⟩) fun _ _ x => x
  refine (wpR.bind.mp h1).mono (fun ds st2 h2 vs H2 o2 l2 s2 rs => ?_) fun _ _ x => x.mono l
  exact h2 (v :: vs) H2 o2 (l.trans l2) s2 ⟨v, vs, rfl, Rep.mono l2 _ _ r, rs⟩
theorem pl_cons {e : Expr} {es : List Expr} {f : Den} {fs : DenL} (ha : PD X E e f) (hr : PL X E es fs) (hs : starEach (e :: es) X.env = (false, eval e X.env) :: starEach es X.env) : PL X E (e :: es) (dCons f fs) :=
  PA.imp (pa_cons ha hr hs) fun _ _ _ h => tL_cons h
@[simp] def dTup (fs : DenL) : Den := fun ρ => fs ρ >>= fun ds => guardM (decide (ds.length ≤ big)) (pure (.tup ds))
@[simp] def dLst (fs : DenL) : Den := fun ρ => fs ρ >>= fun ds => guardM (decide (ds.length ≤ big)) (pure (.lst ds))
def M.alloc (c : Cell) : M D := fun st => .ok (.ref st.length) (st ++ [c])
/-- a list of one's own -/
@[simp] def dOwn (fs : DenL) : Den := fun ρ => fs ρ >>= fun ds => guardM (decide (ds.length ≤ big)) (M.alloc (.lst ds))
theorem pd_tup {es : List Expr} {fs : DenL} {k : Nat} {pos : Pos} (h : PL X E es fs) : PD X E (.Tuple es k pos) (dTup fs) := PE.imp (pe_tup h) fun σ H Q h => by
  obtain ⟨o, ρ, st, he, hs, h⟩ := h
  refine ⟨o, ρ, st, he, hs, ?_⟩
  refine (wpR.bind.mp h).mono (fun ds st1 h1 vs H1 o1 l s1 r => ?_) fun _ _ x => x
  obtain ⟨hl, h2⟩ := guardM_wp h1
  exact ⟨by rw [r.length]; exact Nat.le_trans (of_decide_eq_true hl) big_le, fun p hp => ok_newTup (VOk.mono h2 l) s1 r hp⟩
theorem pd_lst {es : List Expr} {fs : DenL} {pos : Pos} (h : PL X E es fs) : PD X E (.List es pos) (dLst fs) := PE.imp (pe_lst h) fun σ H Q h => by
  obtain ⟨o, ρ, st, he, hs, h⟩ := h
  refine ⟨o, ρ, st, he, hs, ?_⟩
  refine (wpR.bind.mp h).mono (fun ds st1 h1 vs H1 o1 l s1 r => ?_) fun _ _ x => x
  obtain ⟨hl, h2⟩ := guardM_wp h1
  exact ⟨by rw [r.length]; exact Nat.le_trans (of_decide_eq_true hl) big_le, fun p hp => ok_newLst (VOk.mono h2 l) s1 r hp⟩
theorem ok_alloc {c : Cell} {u : HO} {p : Addr} {Q : VK} {Z : Exn → Store → Prop} (h : wpR (M.alloc c st) (VOk K H o Q) Z) (s : StOk K H o st) (hp : H p = none) (hc : CellOk K (upd H p u) (o.push p) (some (some p)) c) : Q (.ref p) (upd H p u) :=
  (show VOk K H o Q (.ref st.length) (st ++ [c]) from h) _ _ _ (Le.alloc hp) (s.alloc hp hc) (Rep.alloc s)
theorem cell_lst {ds : List D} {xs : List V} {p : Addr} (s : StOk K H o st) (hp : H p = none) (r : Reps K H o ds xs) : CellOk K (upd H p (.lst xs)) (o.push p) (some (some p)) (.lst ds) :=
  ⟨p, xs, rfl, upd_same, (Le.alloc hp).rep.reps r⟩
theorem pd_own {es : List Expr} {fs : DenL} {pos : Pos} (h : PL X E es fs) : PD X E (.List es pos) (dOwn fs) := PE.imp (pe_lst h) fun σ H Q h => by
  obtain ⟨o, ρ, st, he, hs, h⟩ := h
  refine ⟨o, ρ, st, he, hs, ?_⟩
  refine (wpR.bind.mp h).mono (fun ds st1 h1 vs H1 o1 l s1 r => ?_) fun _ _ x => x
  obtain ⟨hl, h2⟩ := guardM_wp h1
  exact ⟨by rw [r.length]; exact Nat.le_trans (of_decide_eq_true hl) big_le, fun p hp => ok_alloc (wpR.mono h2 (fun _ _ x => x.mono l) fun _ _ x => x) s1 hp (cell_lst s1 hp r)⟩

/-! ## a if c else b, and, or, not, chains -/
@[simp] def dIf (c : DenB) (f g : Den) : Den := fun ρ => c ρ >>= fun b => cond b (f ρ) (g ρ)
theorem pd_if {c a b : Expr} {pos : Pos} {fc : DenB} {f g : Den} (hc : PB X E c fc) (ha : PD X E a f) (hb : PD X E b g) : PD X E (.IfExp c a b pos) (dIf fc f g) := PE.imp (pe_ifExp hc ha hb) fun σ H Q h => by
  have h1 := tT_bind (g := fun b ρ => cond b (f ρ) (g ρ)) h
  obtain ⟨o, ρ, st, he, hs, h1⟩ := h1
  refine ⟨o, ρ, st, he, hs, h1.mono (fun b st1 q H1 o1 l s1 => ?_) fun _ _ x => x⟩
  have q' := q H1 o1 l s1
  cases b with
  | true => exact iteT q'
  | false => exact iteF q'
@[simp] def dAnd (f g : Den) : Den := fun ρ => f ρ >>= asB >>= fun c => cond c (g ρ) (pure (.bl false))
@[simp] def dOr (f g : Den) : Den := fun ρ => f ρ >>= asB >>= fun c => cond c (pure (.bl true)) (g ρ)
@[simp] def dNot (f : Den) : Den := fun ρ => f ρ >>= asB >>= fun c => pure (.bl (!c))
theorem tB_bind {σ : L2.St} {Q : VK} {f : Den} {g : Bool → Den} (h : tD K E (fun ρ => f ρ >>= asB >>= fun c => g c ρ) σ H Q) : tD K E f σ H fun x H1 => ∃ c, x = .bl c ∧ tD K E (g c) σ H1 Q := by
  obtain ⟨o, ρ, st, he, hs, h⟩ := h
  refine ⟨o, ρ, st, he, hs, ?_⟩
  refine (wpR.bind.mp (wpR.bind.mp h)).mono (fun d st1 h1 v H1 o1 l s1 r => ?_) fun _ _ x => x
  cases d with
  | bl b => exact ⟨b, r, o1, ρ, st1, he.mono l.rep, s1, wpR.mono h1 (fun _ _ x => x.mono l) fun _ _ x => x.mono l⟩
  | _ => exact False.elim h1
theorem pd_and {a b : Expr} {rest : List Expr} {pos : Pos} {f g : Den} (ha : PD X E a f) (hb : PD X E (.BoolOp .And (b :: rest) pos) g) : PD X E (.BoolOp .And (a :: b :: rest) pos) (dAnd f g) := PE.imp (pe_and ha hb) fun σ H Q h => by
  obtain ⟨o, ρ, st, he, hs, h1⟩ := tB_bind (g := fun c ρ => cond c (g ρ) (pure (.bl false))) h
  refine ⟨o, ρ, st, he, hs, h1.mono (fun d st1 q v H1 o1 l s1 r => ?_) fun _ _ x => x⟩
  obtain ⟨c, e, q'⟩ := q v H1 o1 l s1 r
  refine ⟨c, e, ?_⟩
  cases c with
  | true => exact iteT q'
  | false =>
    rw [if_neg Bool.false_ne_true]
    exact tD_pure (d := .bl false) (.bl false) (fun _ _ => rfl) q'
theorem pd_or {a b : Expr} {rest : List Expr} {pos : Pos} {f g : Den} (ha : PD X E a f) (hb : PD X E (.BoolOp .Or (b :: rest) pos) g) : PD X E (.BoolOp .Or (a :: b :: rest) pos) (dOr f g) := PE.imp (pe_or ha hb) fun σ H Q h => by
  obtain ⟨o, ρ, st, he, hs, h1⟩ := tB_bind (g := fun c ρ => cond c (pure (.bl true)) (g ρ)) h
  refine ⟨o, ρ, st, he, hs, h1.mono (fun d st1 q v H1 o1 l s1 r => ?_) fun _ _ x => x⟩
  obtain ⟨c, e, q'⟩ := q v H1 o1 l s1 r
  refine ⟨c, e, ?_⟩
  cases c with
  | false => exact iteF q'
  | true =>
    rw [if_pos rfl]
    exact tD_pure (d := .bl true) (.bl true) (fun _ _ => rfl) q'
theorem pd_not {a : Expr} {pos : Pos} {f : Den} (ha : PD X E a f) : PD X E (.UnaryOp .Not a pos) (dNot f) := PE.imp (pe_not ha) fun σ H Q h => by
  obtain ⟨o, ρ, st, he, hs, h1⟩ := tB_bind (g := fun c _ => pure (.bl (!c))) h
  refine ⟨o, ρ, st, he, hs, h1.mono (fun d st1 q v H1 o1 l s1 r => ?_) fun _ _ x => x⟩
  obtain ⟨c, e, q'⟩ := q v H1 o1 l s1 r
  exact ⟨c, e, tD_pure (d := .bl (!c)) (.bl (!c)) (fun _ _ => rfl) q'⟩
@[simp] def dBAnd (f g : DenB) : DenB := fun ρ => f ρ >>= fun c => cond c (g ρ) (pure false)
@[simp] def dBOr (f g : DenB) : DenB := fun ρ => f ρ >>= fun c => cond c (pure true) (g ρ)
@[simp] def dBNot (f : DenB) : DenB := fun ρ => f ρ >>= fun c => pure (!c)
abbrev PWB (X : Cx) (E : XK) (e : Expr) (f : DenB) : Prop := PW X e (tT X.K E f)
theorem PW.imp {e : Expr} {t t' : TT} (h : PW X e t) (m : ∀ σ H Q, t' σ H Q → t σ H Q) : PW X e t' := ⟨fun wh pins s σ H Q I q => h.run wh pins s σ H Q I (m σ H Q q)⟩
theorem tTT_bind {σ : L2.St} {Q : Bool → Hp → Prop} {f : DenB} {g : Bool → DenB} (h : tT K E (fun ρ => f ρ >>= fun c => g c ρ) σ H Q) : tT K E f σ H fun c H1 => tT K E (g c) σ H1 Q := by
  obtain ⟨o, ρ, st, he, hs, h⟩ := h
  refine ⟨o, ρ, st, he, hs, ?_⟩
  refine (wpR.bind.mp h).mono (fun d st1 h1 H1 o1 l s1 => ⟨o1, ρ, st1, he.mono l.rep, s1, ?_⟩) fun _ _ x => x
  exact wpR.mono h1 (fun _ _ x => x.mono l) fun _ _ x => x.mono l
theorem tT_pure {σ : L2.St} {Q : Bool → Hp → Prop} {b : Bool} (h : tT K E (fun _ => pure b) σ H Q) : Q b H := by
  obtain ⟨o, ρ, st, he, hs, h⟩ := h
  exact h H o (Le.refl _ _) hs
theorem pwb_and {a b : Expr} {rest : List Expr} {pos : Pos} {f g : DenB} (ha : PB X E a f) (hb : PWB X E (.BoolOp .And (b :: rest) pos) g) : PWB X E (.BoolOp .And (a :: b :: rest) pos) (dBAnd f g) := PW.imp (pw_and ha hb) fun σ H Q h => by
  obtain ⟨o, ρ, st, he, hs, h1⟩ := tTT_bind (g := fun c ρ => cond c (g ρ) (pure false)) h
  refine ⟨o, ρ, st, he, hs, h1.mono (fun c st1 q H1 o1 l s1 => ?_) fun _ _ x => x⟩
  have q' := q H1 o1 l s1
  cases c with
  | true => exact iteT q'
  | false => exact iteF (tT_pure q')
theorem pwb_or {a b : Expr} {rest : List Expr} {pos : Pos} {f g : DenB} (ha : PB X E a f) (hb : PWB X E (.BoolOp .Or (b :: rest) pos) g) : PWB X E (.BoolOp .Or (a :: b :: rest) pos) (dBOr f g) := PW.imp (pw_or ha hb) fun σ H Q h => by
  obtain ⟨o, ρ, st, he, hs, h1⟩ := tTT_bind (g := fun c ρ => cond c (pure true) (g ρ)) h
  refine ⟨o, ρ, st, he, hs, h1.mono (fun c st1 q H1 o1 l s1 => ?_) fun _ _ x => x⟩
  have q' := q H1 o1 l s1
  cases c with
  | false => exact iteF q'
  | true => exact iteT (tT_pure q')
theorem pb_not {a : Expr} {pos : Pos} {f : DenB} (ha : PB X E a f) : PB X E (.UnaryOp .Not a pos) (dBNot f) := PT.imp (pt_not ha) fun σ H Q h => by
  obtain ⟨o, ρ, st, he, hs, h1⟩ := tTT_bind (g := fun c _ => pure (!c)) h
  refine ⟨o, ρ, st, he, hs, h1.mono (fun c st1 q H1 o1 l s1 => ?_) fun _ _ x => x⟩
  exact tT_pure (q H1 o1 l s1)
@[simp] def dChain (p p' : D → D → M D) (f g h : Den) : Den := fun ρ => f ρ >>= fun x => g ρ >>= fun y => p x y >>= asB >>= fun c => cond c (h ρ >>= fun z => p' y z) (pure (.bl false))
theorem tD_chain {p p' : D → D → M D} {f g k : Den} {σ : L2.St} {Q : VK} (h : tD K E (dChain p p' f g k) σ H Q) : tChain (rTwo K E p) (rTwo K E p') (tD K E f) (tD K E g) (tD K E k) σ H Q := by
  obtain ⟨o, ρ, st, he, hs, h⟩ := h
  refine ⟨o, ρ, st, he, hs, ?_⟩
  refine (wpR.bind.mp h).mono (fun x st1 h1 v H1 o1 l1 s1 r1 => ⟨o1, ρ, st1, he.mono l1.rep, s1, ?_⟩) fun _ _ x => x
  refine (wpR.bind.mp h1).mono (fun y st2 h2 w H2 o2 l2 s2 r2 => ⟨x, y, o2, st2, Rep.mono l2 _ _ r1, r2, s2, ?_⟩) fun _ _ x => x.mono l1
  refine (wpR.bind.mp (wpR.bind.mp h2)).mono (fun z st3 h3 u H3 o3 l3 s3 r3 => ?_) fun _ _ x => (x.mono l1).mono l2
  cases z with
  | bl c =>
    refine ⟨c, r3, ?_⟩
    have h4 : wpR ((cond c (k ρ >>= fun z => p' y z) (pure (.bl false))) st3) (VOk K H3 o3 Q) (XOk K E H3 o3) := wpR.mono h3 (fun _ _ x => ((x.mono l1).mono l2).mono l3) fun _ _ x => ((x.mono l1).mono l2).mono l3
    cases c with
    | false =>
      rw [if_neg Bool.false_ne_true]
      exact h4 (.bl false) H3 o3 (Le.refl _ _) s3 rfl
    | true =>
      rw [if_pos rfl]
      refine ⟨o3, ρ, st3, ((he.mono l1.rep).mono l2.rep).mono l3.rep, s3, ?_⟩
      refine (wpR.bind.mp h4).mono (fun zz st4 h5 w4 H4 o4 l4 s4 r4 => ⟨y, zz, o4, st4, Rep.mono l4 _ _ (Rep.mono l3 _ _ r2), r4, s4, ?_⟩) fun _ _ x => x
      exact wpR.mono h5 (fun _ _ x => x.mono l4) fun _ _ x => x.mono l4
  | _ => exact False.elim h3
theorem pd_chain {op op' : CmpOp} {p p' : D → D → M D} {a b c : Expr} {f g k : Den} {pos : Pos} (h1 : OpD X E (compareOp op) p) (h2 : OpD X E (compareOp op') p') (ha : PD X E a f) (hb : PD X E b g) (hc : PD X E c k)
    (hm : lastMarks [op, op'] [b, c] = false) : PD X E (.Compare a [op, op'] [b, c] pos) (dChain p p' f g k) := PE.imp (pe_chain h1 h2 ha hb hc hm) fun _ _ _ h => tD_chain h
theorem pb_chain {op op' : CmpOp} {p p' : D → D → M D} {a b c : Expr} {f g k : Den} {pos : Pos} (h1 : OpD X E (compareOp op) p) (h2 : OpD X E (compareOp op') p') (ha : PD X E a f) (hb : PD X E b g) (hc : PD X E c k)
    (hm : lastMarks [op, op'] [b, c] = false) : PB X E (.Compare a [op, op'] [b, c] pos) (fun ρ => dChain p p' f g k ρ >>= asB) := PT.imp (pt_chain h1 h2 ha hb hc hm) fun _ _ _ h => tD_chain (tT_of h)

/-! ## calls -/
@[simp] def dCall (p : List D → M D) (fs : DenL) : Den := fun ρ => fs ρ >>= p
theorem pd_callB {id : String} {x : Str} {p : List D → M D} {e : Expr} {es : List Expr} {fs : DenL} {pn pos : Pos} (hc : CallD X E (.builtin id) p) (hg : Gl X x) (hm : X.mg x = none) (hv : bootBuiltins x = some (.builtin id)) (ha : PL X E (e :: es) fs)
    (hn : x ≠ "__name__") (hdb : (x == ("__debug__" : Str)) = false) (he : starEach (e :: es) X.env = (false, eval e X.env) :: starEach es X.env) (hpl : (backTo pos (starEach es X.env)).any (·.1) = false) :
    PD X E (.Call (.Name x pn) (e :: es) [] pos) (dCall p fs) := PE.imp (pe_callB hc hg hm hv ha hn hdb he hpl) fun _ _ _ h => tD_lst h
theorem pd_callTy {T : String} {x : Str} {p : List D → M D} {e : Expr} {es : List Expr} {fs : DenL} {pn pos : Pos} (hc : CallD X E (.type T) p) (hg : Gl X x) (hm : X.mg x = none) (hv : bootBuiltins x = some (.type T)) (ha : PL X E (e :: es) fs)
    (hn : x ≠ "__name__") (hdb : (x == ("__debug__" : Str)) = false) (he : starEach (e :: es) X.env = (false, eval e X.env) :: starEach es X.env) (hpl : (backTo pos (starEach es X.env)).any (·.1) = false) :
    PD X E (.Call (.Name x pn) (e :: es) [] pos) (dCall p fs) := PE.imp (pe_callTy hc hg hm hv ha hn hdb he hpl) fun _ _ _ h => tD_lst h
/-- the promise of a def by its meaning on data -/
def spD (K : Frag) (np : Nat) (p : List D → M D) : Sp := fun vs H Q E => ∃ o ds st, Reps K H o ds vs ∧ ds.length = np ∧ StOk K H o st ∧ wpR (p ds st) (VOk K H o Q) (XOk K E H o)
@[simp] def arity (np : Nat) (p : List D → M D) : List D → M D := fun ds => bif ds.length == np then p ds else M.stuck
theorem tD_call {np : Nat} {p : List D → M D} {fs : DenL} {σ : L2.St} {Q : VK} (h : tD K E (dCall (arity np p) fs) σ H Q) : tCall (spD K np p) [] E (tL K E fs) σ H Q := by
  obtain ⟨o, ρ, st, he, hs, h⟩ := h
  refine ⟨o, ρ, st, he, hs, ?_⟩
  refine (wpR.bind.mp h).mono (fun ds st1 h1 vs H1 o1 l s1 r => ?_) fun _ _ x => x
  have h2 : wpR ((bif ds.length == np then p ds else M.stuck) st1) (VOk K H o Q) (XOk K E H o) := h1
  cases q : ds.length == np with
  | false => rw [q] at h2; exact False.elim h2
  | true =>
    rw [q] at h2
    exact ⟨o1, ds, st1, by rw [List.append_nil]; exact r, eq_of_beq q, s1, wpR.mono h2 (fun _ _ x => x.mono l) fun _ _ x => x.mono l⟩
theorem pd_call {k np : Nat} {f : Addr} {fd : FuncData} {ps : List Str} {x : Str} {p : List D → M D} {e : Expr} {es : List Expr} {fs : DenL} {pn pos : Pos} (F : FnOk X.prog X.w X.K X.mg X.base (L2.CX X.prog X.w) k f fd ps (spD X.K np p)) (hr : Room k X.A) (hg : Gl X x) (hm : X.mg x = some (.ref f))
    (hk : PySem.W.keepIn X.K (.ref f) = true) (hb : Binds X.K fd ps []) (hx : Passes (L2.CX X.prog X.w) X E) (ha : PL X E (e :: es) fs) (hdb : (x == ("__debug__" : Str)) = false) (he : starEach (e :: es) X.env = (false, eval e X.env) :: starEach es X.env) (hpl : (backTo pos (starEach es X.env)).any (·.1) = false) :
    PD X E (.Call (.Name x pn) (e :: es) [] pos) (dCall (arity np p) fs) := PE.imp (pe_call F hr hg hm hk hb .nil hx ha hdb he hpl) fun _ _ _ h => tD_call h
theorem pd_call0 {k np : Nat} {f : Addr} {fd : FuncData} {ps : List Str} {x : Str} {p : List D → M D} {pn pos : Pos} (F : FnOk X.prog X.w X.K X.mg X.base (L2.CX X.prog X.w) k f fd ps (spD X.K np p)) (hr : Room k X.A) (hg : Gl X x) (hm : X.mg x = some (.ref f))
    (hk : PySem.W.keepIn X.K (.ref f) = true) (hb : Binds X.K fd ps []) (hx : Passes (L2.CX X.prog X.w) X E) (hdb : (x == ("__debug__" : Str)) = false) :
    PD X E (.Call (.Name x pn) [] [] pos) (dCall (arity np p) dNil) := PE.imp (pe_call0 F hr hg hm hk hb .nil hx hdb) fun σ H Q h => by
  obtain ⟨o, ρ, st, he, hs, h1⟩ := tD_call h
  exact h1 [] H o (Le.refl _ _) hs rfl
end
end MP

namespace MP
open PySem L2
open PySem.Spec PyProof.Rows
inductive Fl where
  | nx (ρ : Env) | rt (d : D) | bk (ρ : Env) | ct (ρ : Env)
abbrev DenS := Env → M Fl
section
variable {K : Frag} {E : XK} {H H' : Hp} {o o' : Lo} {st : Store} {X : Cx}
def EOk (K : Frag) (H : Hp) (o : Lo) (Q : L2.St → Hp → Prop) (ρ : Env) (st : Store) : Prop := ∀ σ' H' o', Le H o H' o' → StOk K H' o' st → EnvOk K H' o' ρ σ' → Q σ' H'
theorem EOk.mono {Q : L2.St → Hp → Prop} {ρ : Env} (x : EOk K H o Q ρ st) (l : Le H o H' o') : EOk K H' o' Q ρ st := fun σ H2 o2 l2 => x σ H2 o2 (l.trans l2)
def FOk (K : Frag) (H : Hp) (o : Lo) (D : Ends) : Fl → Store → Prop
  | .nx ρ, st => EOk K H o D.nx ρ st
  | .rt d, st => VOk K H o D.rt d st
  | .bk ρ, st => EOk K H o D.bk ρ st
  | .ct ρ, st => EOk K H o D.ct ρ st
theorem FOk.mono {D : Ends} {f : Fl} (x : FOk K H o D f st) (l : Le H o H' o') : FOk K H' o' D f st := by
  cases f with
  | nx ρ => exact EOk.mono x l
  | rt d => exact VOk.mono x l
  | bk ρ => exact EOk.mono x l
  | ct ρ => exact EOk.mono x l
def tS (K : Frag) (E : XK) (f : DenS) : TS := fun D σ H => ∃ o ρ st, EnvOk K H o ρ σ ∧ StOk K H o st ∧ wpR (f ρ st) (FOk K H o D) (XOk K E H o)
abbrev PDS (X : Cx) (E : XK) (s : Stmt) (f : DenS) : Prop := PS X s (tS X.K E f)
abbrev PDSs (X : Cx) (E : XK) (s : List Stmt) (f : DenS) : Prop := PSs X s (tS X.K E f)
theorem PS.imp {s : Stmt} {t t' : TS} (h : PS X s t) (m : ∀ D σ H, t' D σ H → t D σ H) : PS X s t' := ⟨fun pins s σ H D I q => h.run pins s σ H D I (m D σ H q)⟩
theorem PSs.imp {s : List Stmt} {t t' : TS} (h : PSs X s t) (m : ∀ D σ H, t' D σ H → t D σ H) : PSs X s t' := ⟨fun pins s σ H D I q => h.run pins s σ H D I (m D σ H q)⟩

@[simp] def dSkip : DenS := fun ρ => pure (.nx ρ)
def dSeq (f g : DenS) : DenS := fun ρ => f ρ >>= fun r => match r with
  | .nx ρ' => g ρ'
  | .rt d => pure (.rt d)
  | .bk ρ' => pure (.bk ρ')
  | .ct ρ' => pure (.ct ρ')
theorem ds_nil : PDSs X E [] dSkip := PSs.imp pss_nil fun D σ H h => by
  obtain ⟨o, ρ, st, he, hs, h⟩ := h
  exact h σ H o (Le.refl _ _) hs he
theorem tS_seq {f g : DenS} {D : Ends} {σ : L2.St} (h : tS K E (dSeq f g) D σ H) : tSeq (tS K E f) (tS K E g) D σ H := by
  obtain ⟨o, ρ, st, he, hs, h⟩ := h
  refine ⟨o, ρ, st, he, hs, ?_⟩
  refine (wpR.bind.mp h).mono (fun r st1 h1 => ?_) fun _ _ x => x
  cases r with
  | nx ρ' => exact fun σ' H1 o1 l s1 e1 => ⟨o1, ρ', st1, e1, s1, wpR.mono h1 (fun _ _ x => x.mono l) fun _ _ x => x.mono l⟩
  | rt d => exact h1
  | bk ρ' => exact h1
  | ct ρ' => exact h1
theorem ds_cons {s : Stmt} {ss : List Stmt} {f g : DenS} (h1 : PDS X E s f) (h2 : PDSs X E ss g) : PDSs X E (s :: ss) (dSeq f g) := PSs.imp (pss_cons h1 h2) fun _ _ _ h => tS_seq h
theorem ds_one {s : Stmt} {f : DenS} (h1 : PDS X E s f) : PDSs X E [s] f := pss_one h1
def dBreak : DenS := fun ρ => pure (.bk ρ)
def dCont : DenS := fun ρ => pure (.ct ρ)
theorem dp_pass {pos : Pos} : PDS X E (.Pass pos) dSkip := PS.imp ps_pass fun D σ H h => by
  obtain ⟨o, ρ, st, he, hs, h⟩ := h
  exact h σ H o (Le.refl _ _) hs he
theorem dp_break {pos : Pos} : PDS X E (.Break pos) dBreak := PS.imp ps_break fun D σ H h => by
  obtain ⟨o, ρ, st, he, hs, h⟩ := h
  exact h σ H o (Le.refl _ _) hs he
theorem dp_cont {pos : Pos} : PDS X E (.Continue pos) dCont := PS.imp ps_continue fun D σ H h => by
  obtain ⟨o, ρ, st, he, hs, h⟩ := h
  exact h σ H o (Le.refl _ _) hs he
theorem dp_doc {x : Str} {j : Nat} {pos pos' : Pos} : PDS X E (.Expr (.Constant (.str x) j pos) pos') dSkip := PS.imp ps_doc fun D σ H h => by
  obtain ⟨o, ρ, st, he, hs, h⟩ := h
  exact h σ H o (Le.refl _ _) hs he
def dRet (f : Den) : DenS := fun ρ => f ρ >>= fun d => pure (.rt d)
theorem dp_ret {e : Expr} {f : Den} {pos : Pos} (h : PD X E e f) : PDS X E (.Return (some e) pos) (dRet f) := PS.imp (ps_ret h) fun D σ H h => by
  obtain ⟨o, ρ, st, he, hs, h⟩ := h
  refine ⟨o, ρ, st, he, hs, ?_⟩
  exact (wpR.bind.mp h).mono (fun d st1 h1 => h1) fun _ _ x => x
def dRetN : DenS := fun _ => pure (.rt .non)
theorem dp_retN {pos : Pos} : PDS X E (.Return none pos) dRetN := PS.imp ps_retN fun D σ H h => by
  obtain ⟨o, ρ, st, he, hs, h⟩ := h
  exact h .non H o (Le.refl _ _) hs rfl
def dExpr (f : Den) : DenS := fun ρ => f ρ >>= fun _ => pure (.nx ρ)
theorem dp_expr {e : Expr} {f : Den} {pos : Pos} (h : PD X E e f) (hs : swapsWith e none pos.line X.env = pure false) : PDS X E (.Expr e pos) (dExpr f) := PS.imp (ps_expr h hs) fun D σ H h => by
  obtain ⟨o, ρ, st, he, hs, h⟩ := h
  refine ⟨o, ρ, st, he, hs, ?_⟩
  exact (wpR.bind.mp h).mono (fun d st1 h1 v H1 o1 l s1 r => h1 σ H1 o1 l s1 (he.mono l.rep)) fun _ _ x => x
def dIfS (c : DenB) (f g : DenS) : DenS := fun ρ => c ρ >>= fun b => cond b (f ρ) (g ρ)
theorem dp_if {c : Expr} {a b : List Stmt} {fc : DenB} {f g : DenS} {pos : Pos} (hc : PB X E c fc) (ha : PDSs X E a f) (hb : PDSs X E b g) : PDS X E (.If c a b pos) (dIfS fc f g) := PS.imp (ps_if hc ha hb) fun D σ H h => by
  obtain ⟨o, ρ, st, he, hs, h⟩ := h
  refine ⟨o, ρ, st, he, hs, ?_⟩
  refine (wpR.bind.mp h).mono (fun b st1 h1 H1 o1 l s1 => ?_) fun _ _ x => x
  cases b with
  | true => exact iteT ⟨o1, ρ, st1, he.mono l.rep, s1, wpR.mono h1 (fun _ _ x => x.mono l) fun _ _ x => x.mono l⟩
  | false => exact iteF ⟨o1, ρ, st1, he.mono l.rep, s1, wpR.mono h1 (fun _ _ x => x.mono l) fun _ _ x => x.mono l⟩

/-! ## targets -/
abbrev DenG := D → Env → M Env
def tG (K : Frag) (E : XK) (f : DenG) : TG := fun v σ H Q => ∃ o ρ st d, EnvOk K H o ρ σ ∧ StOk K H o st ∧ Rep K H o d v ∧ wpR (f d ρ st) (EOk K H o Q) (XOk K E H o)
abbrev DenGs := List D → Env → M Env
def tGs (K : Frag) (E : XK) (f : DenGs) : TGs := fun vs σ H Q => ∃ o ρ st ds, EnvOk K H o ρ σ ∧ StOk K H o st ∧ Reps K H o ds vs ∧ wpR (f ds ρ st) (EOk K H o Q) (XOk K E H o)
abbrev PDG (X : Cx) (E : XK) (e : Expr) (f : DenG) : Prop := PG X e (tG X.K E f)
abbrev PDGs (X : Cx) (E : XK) (e : List Expr) (f : DenGs) : Prop := PGs X e (tGs X.K E f)
theorem PG.imp {e : Expr} {t t' : TG} (h : PG X e t) (m : ∀ v σ H Q, t' v σ H Q → t v σ H Q) : PG X e t' := ⟨fun pins s σ H v u Q I r q => h.run pins s σ H v u Q I r (m v σ H Q q)⟩
theorem PGs.imp {e : List Expr} {t t' : TGs} (h : PGs X e t) (m : ∀ v σ H Q, t' v σ H Q → t v σ H Q) : PGs X e t' := ⟨fun pins s σ H v u Q I r q => h.run pins s σ H v u Q I r (m v σ H Q q)⟩
@[simp] def gSet (i : Nat) : DenG := fun d ρ => pure (ρ.set i (some d))
theorem dg_name {i : Nat} {x : Str} {pos : Pos} (hN : X.N.Nodup) (hi : X.N[i]? = some x) (hx : Loc X.env.scope x) (hf : X.fn x = true ∨ X.env.scope.names.lookup x = some .local) : PDG X E (.Name x pos) (gSet i) := PG.imp (pg_name hN hi hx hf) fun v σ H Q h => by
  obtain ⟨o, ρ, st, d, he, hs, r, h⟩ := h
  exact h _ H o (Le.refl _ _) hs (he.set i r)
def gsNil : DenGs := fun ds ρ => match ds with
  | [] => pure ρ
  | _ => M.stuck
def gsCons (f : DenG) (g : DenGs) : DenGs := fun ds ρ => match ds with
  | d :: ds => f d ρ >>= fun ρ' => g ds ρ'
  | [] => M.stuck
theorem dgs_nil : PDGs X E [] gsNil := PGs.imp pgs_nil fun v σ H Q h => by
  obtain ⟨o, ρ, st, ds, he, hs, r, h⟩ := h
  cases ds with
  | nil => exact ⟨r, h σ H o (Le.refl _ _) hs he⟩
  | cons _ _ => exact False.elim h
theorem dgs_cons {e : Expr} {es : List Expr} {f : DenG} {g : DenGs} (h1 : PDG X E e f) (h2 : PDGs X E es g) (hs : (assignEach (e :: es) X.env).map (·.2) = assign e X.env :: (assignEach es X.env).map (·.2)) : PDGs X E (e :: es) (gsCons f g) :=
  PGs.imp (pgs_cons h1 h2 hs) fun v σ H Q h => by
    obtain ⟨o, ρ, st, ds, he, hs, r, h⟩ := h
    cases ds with
    | nil => exact False.elim h
    | cons d ds =>
      obtain ⟨v, vs, rfl, r1, r2⟩ := r
      refine ⟨v, vs, rfl, o, ρ, st, d, he, hs, r1, ?_⟩
      refine (wpR.bind.mp h).mono (fun ρ' st1 h1 σ' H1 o1 l s1 e1 => ⟨o1, ρ', st1, ds, e1, s1, l.rep.reps r2, ?_⟩) fun _ _ x => x
      exact wpR.mono h1 (fun _ _ x => x.mono l) fun _ _ x => x.mono l
def gTupD (n : Nat) (g : DenGs) : DenG := fun d ρ => match d with
  | .tup ds => bif ds.length == n then g ds ρ else M.stuck
  | _ => M.stuck
theorem dg_tup {es : List Expr} {k n : Nat} {g : DenGs} {pos : Pos} (hc : X.calm = true) (h : PDGs X E es g) (hn : (assignEach es X.env).length = n) (hst : (assignEach es X.env).findIdx? (·.1) = none) : PDG X E (.Tuple es k pos) (gTupD n g) :=
  PG.imp (pg_tup hc h hn hst) fun v σ H Q h => by
    obtain ⟨o, ρ, st, d, he, hs, r, h⟩ := h
    cases d with
    | tup ds =>
      obtain ⟨a, xs, rfl, k1, q1⟩ := r
      have h' : wpR ((bif ds.length == n then g ds ρ else M.stuck) st) (EOk X.K H o Q) (XOk X.K E H o) := h
      cases q : ds.length == n with
      | false => rw [q] at h'; exact False.elim h'
      | true =>
        rw [q] at h'
        exact ⟨a, xs, rfl, tup_sq k1, by rw [q1.length]; exact eq_of_beq q, o, ρ, st, ds, he, hs, q1, h'⟩
    | _ => exact False.elim h
def dAsg (f : Den) (g : DenG) : DenS := fun ρ => f ρ >>= fun d => g d ρ >>= fun ρ' => pure (.nx ρ')
theorem tS_asg {f : Den} {g : DenG} {D : Ends} {σ : L2.St} (h : tS K E (dAsg f g) D σ H) : tAsg (tD K E f) (tG K E g) D σ H := by
  obtain ⟨o, ρ, st, he, hs, h⟩ := h
  refine ⟨o, ρ, st, he, hs, ?_⟩
  refine (wpR.bind.mp h).mono (fun d st1 h1 v H1 o1 l s1 r => ⟨o1, ρ, st1, d, he.mono l.rep, s1, r, ?_⟩) fun _ _ x => x
  refine (wpR.bind.mp h1).mono (fun ρ' st2 h2 => ?_) fun _ _ x => x.mono l
  exact EOk.mono h2 l
theorem dp_asg {tg e : Expr} {f : Den} {g : DenG} {pos : Pos} (he : PD X E e f) (hg : PDG X E tg g) (hs : swapsWithSole [tg] e pos.line X.env = pure false) (hw : swappedStores [tg] e X.env = pure none)
    (h1 : (assignEach [tg] X.env).map (·.2) = [assign tg X.env]) : PDS X E (.Assign [tg] e pos) (dAsg f g) := PS.imp (ps_asg he hg hs hw h1) fun _ _ _ h => tS_asg h
theorem dp_set {i : Nat} {x : Str} {e : Expr} {f : Den} {pos' pos : Pos} (hN : X.N.Nodup) (hi : X.N[i]? = some x) (hx : Loc X.env.scope x) (he : PD X E e f) (hs : swapsWith e (some (.Name x pos')) pos.line X.env = pure false) (hf : X.fn x = true ∨ X.env.scope.names.lookup x = some .local) :
    PDS X E (.Assign [.Name x pos'] e pos) (dAsg f (gSet i)) := PS.imp (ps_set hN hi hx he hs hf) fun D σ H h => by
  obtain ⟨o, ρ, st, he, hs, h⟩ := h
  refine ⟨o, ρ, st, he, hs, ?_⟩
  exact (wpR.bind.mp h).mono (fun d st1 h1 v H1 o1 l s1 r => (show EOk X.K H o D.nx (ρ.set i (some d)) st1 from h1) _ H1 o1 l s1 ((he.mono l.rep).set i r)) fun _ _ x => x

/-! ## what is walked -/
abbrev DenI := Env → M (List D)
def Gr (H H' : Hp) : Prop := H' = H ∨ ∃ p u, H p = none ∧ H' = upd H p u
theorem Gr.le (g : Gr H H') : Le H o H' o := by
  rcases g with rfl | ⟨p, u, h, rfl⟩
  · exact Le.refl _ _
  · exact Le.new h
theorem Gr.stOk (g : Gr H H') (s : StOk K H o st) : StOk K H' o st := by
  rcases g with rfl | ⟨p, u, h, rfl⟩
  · exact s
  · exact s.new h
def Walks (K : Frag) (H0 : Hp) (o0 : Lo) (J : It) (ds : List D) : Prop := ∀ H o st, LeW K H0 o0 H o → StOk K H o st →
  J.stop ds.length H ∧ ∀ (i : Nat) (d : D), ds[i]? = some d → J.go i H ∧ ∀ x H', J.yld i H x H' → Gr H H' ∧ Rep K H' o d x
def IOk (K : Frag) (H : Hp) (o : Lo) (R : It → Hp → Prop) (ds : List D) (st : Store) : Prop := ∀ J H' o', Le H o H' o' → StOk K H' o' st → Walks K H' o' J ds → R J H'
def tI (K : Frag) (E : XK) (f : DenI) : TI := fun σ H R => ∃ o ρ st, EnvOk K H o ρ σ ∧ StOk K H o st ∧ wpR (f ρ st) (IOk K H o R) (XOk K E H o)
abbrev PDI (X : Cx) (E : XK) (tg e : Expr) (f : DenI) : Prop := PI X tg e (tI X.K E f)
theorem PI.imp {tg e : Expr} {t t' : TI} (h : PI X tg e t) (m : ∀ σ H R, t' σ H R → t σ H R) : PI X tg e t' := ⟨fun pins s σ H R I q => h.run pins s σ H R I (m σ H R q)⟩
theorem PI.or {tg e : Expr} {t t' : TI} (h : PI X tg e t) (h' : PI X tg e t') : PI X tg e (fun σ H R => t σ H R ∨ t' σ H R) := ⟨fun pins s σ H R I q => q.elim (h.run pins s σ H R I) (h'.run pins s σ H R I)⟩
theorem walks_list {a : Addr} {xs : List V} {ds : List D} (h : H a = some (.lst xs)) (av : o.av a) (r : Reps K H o ds xs) : Walks K H o (Itl K a) ds := fun H1 o1 st1 l s1 => by
  obtain ⟨b, ys, e, h1, _, r1⟩ := l.rep (.lst ds) (.ref a) ⟨a, xs, rfl, h, av, r⟩
  cases e
  refine ⟨⟨ys, SqL.of h1, by rw [r1.length]; exact Nat.le_refl _⟩, fun i d hd => ?_⟩
  obtain ⟨v, hv, rv⟩ := r1.get hd
  refine ⟨⟨ys, v, SqL.of h1, hv⟩, fun x H2 y => ?_⟩
  obtain ⟨rfl, y⟩ := y
  have e2 := y ys (SqL.of h1)
  rw [hv] at e2; cases e2
  exact ⟨.inl rfl, rv⟩
theorem walks_tup {v : V} {ds : List D} (r : Rep K H o (.tup ds) v) : ∃ a xs, v = .ref a ∧ SqT K H a xs ∧ Walks K H o (Itt K a) ds := by
  obtain ⟨a, xs, rfl, k, q⟩ := id r
  refine ⟨a, xs, rfl, tup_sq k, fun H1 o1 st1 l s1 => ?_⟩
  obtain ⟨b, ys, e, h1, r1⟩ := l.rep (.tup ds) (.ref a) r
  cases e
  have sq := tup_sq h1
  refine ⟨⟨ys, sq, by rw [r1.length]; exact Nat.le_refl _⟩, fun i d hd => ?_⟩
  obtain ⟨v, hv, rv⟩ := r1.get hd
  refine ⟨⟨ys, v, sq, hv⟩, fun x H2 y => ?_⟩
  obtain ⟨rfl, y⟩ := y
  have e2 := y ys sq
  rw [hv] at e2; cases e2
  exact ⟨.inl rfl, rv⟩
/-- a value that is walked: a list, a tuple -/
def itemsOf : D → M (List D)
  | .lst ds => pure ds
  | .tup ds => pure ds
  | _ => M.stuck
theorem di_val {tg e : Expr} {f : Den} (h : PD X E e f) : PDI X E tg e (fun ρ => f ρ >>= itemsOf) := PI.imp (PI.or (pi_list h) (pi_tup h)) fun σ H R h => by
  obtain ⟨o, ρ, st, he, hs, h⟩ := h
  have h := wpR.bind.mp h
  cases q : f ρ st with
  | stuck => rw [q] at h; exact False.elim h
  | exn e st1 => rw [q] at h; exact .inl ⟨o, ρ, st, he, hs, by rw [q]; exact h⟩
  | ok d st1 =>
    rw [q] at h
    cases d with
    | lst ds =>
      refine .inl ⟨o, ρ, st, he, hs, ?_⟩
      rw [q]
      intro v H1 o1 l s1 r
      obtain ⟨a, xs, rfl, k, av, r1⟩ := r
      exact ⟨a, rfl, ⟨xs, SqL.of k⟩, (show IOk X.K H o R ds st1 from h) _ H1 o1 l s1 (walks_list k av r1)⟩
    | tup ds =>
      refine .inr ⟨o, ρ, st, he, hs, ?_⟩
      rw [q]
      intro v H1 o1 l s1 r
      obtain ⟨a, xs, rfl, k, w⟩ := walks_tup r
      exact ⟨a, rfl, ⟨xs, k⟩, (show IOk X.K H o R ds st1 from h) _ H1 o1 l s1 w⟩
    | _ => exact False.elim h
def rangeL (i j : Int) : List D := (List.range (j - i).toNat).map fun (k : Nat) => D.int (i + (k : Int))
theorem walks_range {lo : Int} {n : Nat} : Walks K H o (Itr lo n) ((List.range n).map fun (k : Nat) => D.int (lo + (k : Int))) := fun H1 o1 st1 l s1 => by
  refine ⟨by show n ≤ _; simp, fun i d hd => ?_⟩
  rw [List.getElem?_map] at hd
  obtain ⟨k, hk, rfl⟩ := Option.map_eq_some_iff.mp hd
  obtain ⟨hi, e⟩ := List.getElem?_eq_some_iff.mp hk
  simp at hi e
  subst e
  refine ⟨hi, fun x H2 y => ?_⟩
  obtain ⟨rfl, rfl⟩ := y
  exact ⟨.inl rfl, rfl⟩
def rng1 : List D → M (List D)
  | [.int j] => bif decide (-(2 ^ 62) ≤ j ∧ j < 2 ^ 62) then pure (rangeL 0 j) else M.stuck
  | _ => M.stuck
def rng2 : List D → M (List D)
  | [.int i, .int j] => bif decide (-(2 ^ 62) ≤ i ∧ i < 2 ^ 62 ∧ -(2 ^ 62) ≤ j ∧ j < 2 ^ 62) then pure (rangeL i j) else M.stuck
  | _ => M.stuck
theorem di_range1 {tg a : Expr} {fs : DenL} {p pos : Pos} (hg : Gl X "range") (hm : X.mg "range" = none) (ha : PL X E [a] fs) (hs : starEach [a] X.env = [(false, eval a X.env)]) : PDI X E tg (.Call (.Name "range" p) [a] [] pos) (fun ρ => fs ρ >>= rng1) :=
  PI.imp (pi_range1 hg hm ha hs) fun σ H R h => by
    obtain ⟨o, ρ, st, he, hs, h⟩ := h
    refine ⟨o, ρ, st, he, hs, ?_⟩
    refine (wpR.bind.mp h).mono (fun ds st1 h1 vs H1 o1 l s1 r => ?_) fun _ _ x => x
    cases ds with
    | nil => exact False.elim h1
    | cons d ds =>
      cases ds with
      | cons _ _ => cases d <;> exact False.elim h1
      | nil =>
        cases d with
        | int j =>
          obtain ⟨v, rfl, rv⟩ := r.one_of
          have h2 : wpR ((bif decide (-(2 ^ 62) ≤ j ∧ j < 2 ^ 62) then (pure (rangeL 0 j) : M (List D)) else M.stuck) st1) (IOk X.K H o R) (XOk X.K E H o) := h1
          cases q : decide (-(2 ^ 62) ≤ j ∧ j < 2 ^ 62) with
          | false => rw [q] at h2; exact False.elim h2
          | true =>
            rw [q] at h2
            obtain ⟨q1, q2⟩ := of_decide_eq_true q
            cases (show v = .int j from rv)
            refine ⟨j, rfl, q1, q2, (show IOk X.K H o R (rangeL 0 j) st1 from h2) _ H1 o1 l s1 ?_⟩
            have w := walks_range (K := X.K) (H := H1) (o := o1) (lo := 0) (n := j.toNat)
            unfold rangeL
            rw [Int.sub_zero]
            exact w
        | _ => exact False.elim h1
theorem di_range2 {tg a b : Expr} {fs : DenL} {p pos : Pos} (hg : Gl X "range") (hm : X.mg "range" = none) (ha : PL X E [a, b] fs) (hs : starEach [a, b] X.env = [(false, eval a X.env), (false, eval b X.env)]) (hs2 : starEach [b] X.env = [(false, eval b X.env)]) : PDI X E tg (.Call (.Name "range" p) [a, b] [] pos) (fun ρ => fs ρ >>= rng2) :=
  PI.imp (pi_range2 hg hm ha hs hs2) fun σ H R h => by
    obtain ⟨o, ρ, st, he, hs, h⟩ := h
    refine ⟨o, ρ, st, he, hs, ?_⟩
    refine (wpR.bind.mp h).mono (fun ds st1 h1 vs H1 o1 l s1 r => ?_) fun _ _ x => x
    match ds, r, h1 with
    | [], _, h1 => exact False.elim h1
    | [d], _, h1 => cases d <;> exact False.elim h1
    | d :: e :: _ :: _, _, h1 => cases d <;> cases e <;> exact False.elim h1
    | [d, e], r, h1 =>
      obtain ⟨v, w, ev, rv, rw'⟩ := r.two_of
      cases d <;> cases e <;> first | exact False.elim h1 | skip
      rename_i i j
      have h2 : wpR ((bif decide (-(2 ^ 62) ≤ i ∧ i < 2 ^ 62 ∧ -(2 ^ 62) ≤ j ∧ j < 2 ^ 62) then (pure (rangeL i j) : M (List D)) else M.stuck) st1) (IOk X.K H o R) (XOk X.K E H o) := h1
      cases q : decide (-(2 ^ 62) ≤ i ∧ i < 2 ^ 62 ∧ -(2 ^ 62) ≤ j ∧ j < 2 ^ 62) with
      | false => rw [q] at h2; exact False.elim h2
      | true =>
        rw [q] at h2
        have e1 : v = .int i := rv
        have e2 : w = .int j := rw'
        subst e1 e2
        exact ⟨i, j, ev, of_decide_eq_true q, (show IOk X.K H o R (rangeL i j) st1 from h2) _ H1 o1 l s1 walks_range⟩

/-! ## for, while -/
def forL (b : D → DenS) : List D → DenS
  | [], ρ => pure (.nx ρ)
  | d :: ds, ρ => b d ρ >>= fun r => match r with
    | .nx ρ' => forL b ds ρ'
    | .ct ρ' => forL b ds ρ'
    | .bk ρ' => pure (.nx ρ')
    | .rt d => pure (.rt d)
def dFor (it : DenI) (g : DenG) (body : DenS) : DenS := fun ρ => it ρ >>= fun ds => forL (fun d ρ => g d ρ >>= body) ds ρ
theorem tS_for {it : DenI} {g : DenG} {body : DenS} {D : Ends} {σ : L2.St} (h : tS K E (dFor it g body) D σ H) : tFor (tI K E it) (tG K E g) (tS K E body) D σ H := by
  obtain ⟨o, ρ, st, he, hs, h⟩ := h
  refine ⟨o, ρ, st, he, hs, ?_⟩
  refine (wpR.bind.mp h).mono (fun ds st1 h1 J H1 o1 l1 s1 w => ?_) fun _ _ x => x
  refine ⟨fun i m σ' H' => m = ds.length - i ∧ i ≤ ds.length ∧ ∃ o' ρ' st', Le H o H' o' ∧ LeW K H1 o1 H' o' ∧ StOk K H' o' st' ∧ EnvOk K H' o' ρ' σ' ∧ wpR (forL (fun d ρ => g d ρ >>= body) (ds.drop i) ρ' st') (FOk K H o D) (XOk K E H o),
    ⟨_, rfl, Nat.zero_le _, o1, ρ, st1, l1, LeW.refl, s1, he.mono l1.rep, h1⟩, ?_⟩
  rintro i m σ' H' ⟨rfl, hi, o', ρ', st', l, lr, s', e', hw⟩
  obtain ⟨w1, w2⟩ := w H' o' st' lr s'
  by_cases hlt : i < ds.length
  · rw [List.drop_eq_getElem_cons hlt] at hw
    obtain ⟨go, yl⟩ := w2 i _ (List.getElem?_eq_getElem hlt)
    refine .inr ⟨go, fun σ2 H2 => ∃ m', m' < ds.length - i ∧ (m' = ds.length - (i + 1) ∧ i + 1 ≤ ds.length ∧ ∃ o' ρ' st', Le H o H2 o' ∧ LeW K H1 o1 H2 o' ∧ StOk K H2 o' st' ∧ EnvOk K H2 o' ρ' σ2 ∧ wpR (forL (fun d ρ => g d ρ >>= body) (ds.drop (i + 1)) ρ' st') (FOk K H o D) (XOk K E H o)), fun _ _ x => x, fun x H2 y => ?_⟩
    obtain ⟨gr, rx⟩ := yl x H2 y
    have l2 : Le H' o' H2 o'   := Gr.le gr
    refine ⟨o', ρ', st', ds[i], e'.mono l2.rep, Gr.stOk gr s', rx, ?_⟩
    have hw2 := wpR.bind.mp (wpR.bind.mp hw)
    have ll := l.trans l2
    refine wpR.mono hw2 (fun ρ2 st2 h2 σ3 H3 o3 l3 s3 e3 => ⟨o3, ρ2, st2, e3, s3, ?_⟩) fun _ _ x => x.mono ll
    have lll := ll.trans l3
    refine wpR.mono h2 (fun r st4 h4 => ?_) fun _ _ x => x.mono lll
    cases r with
    | nx ρ4 => exact fun σ5 H5 o5 l5 s5 e5 => ⟨_, by omega, rfl, by omega, o5, ρ4, st4, lll.trans l5, (lr.trans l2.w).trans ((l3.trans l5).w), s5, e5, h4⟩
    | ct ρ4 => exact fun σ5 H5 o5 l5 s5 e5 => ⟨_, by omega, rfl, by omega, o5, ρ4, st4, lll.trans l5, (lr.trans l2.w).trans ((l3.trans l5).w), s5, e5, h4⟩
    | bk ρ4 => exact fun σ5 H5 o5 l5 s5 e5 => (show EOk K H o D.nx ρ4 st4 from h4) σ5 H5 o5 (lll.trans l5) s5 e5
    | rt d => exact fun v H5 o5 l5 s5 r5 => (show VOk K H o D.rt d st4 from h4) v H5 o5 (lll.trans l5) s5 r5
  · have e : i = ds.length := by omega
    subst e
    rw [List.drop_length] at hw
    exact .inl ⟨w1, (show EOk K H o D.nx ρ' st' from hw) σ' H' o' l s' e'⟩
theorem dp_for {tg iter : Expr} {body : List Stmt} {it : DenI} {g : DenG} {f : DenS} {pos : Pos} (hp : PassesOwn (model X.prog X.w) X.A X.env X.xe) (hc : X.calm = true) (hi : PDI X E tg iter it) (hg : PDG X E tg g) (hb : PDSs X E body f)
    (hs : ∀ x, foldedSetIterable iter X.env x = pure x) : PDS X E (.For tg iter body [] pos) (dFor it g f) := PS.imp (ps_for hp hc hi hg hb hs) fun _ _ _ h => tS_for h
def whileL (c : DenB) (b : DenS) : Nat → DenS
  | 0, _ => M.stuck
  | n + 1, ρ => c ρ >>= fun t => cond t (b ρ >>= fun r => match r with
    | .nx ρ' => whileL c b n ρ'
    | .ct ρ' => whileL c b n ρ'
    | .bk ρ' => pure (.nx ρ')
    | .rt d => pure (.rt d)) (pure (.nx ρ))
theorem tS_while {c : DenB} {b : DenS} {n : Nat} {D : Ends} {σ : L2.St} (h : tS K E (whileL c b n) D σ H) : tWhile (tT K E c) (tS K E b) D σ H := by
  refine ⟨fun m σ' H' => tS K E (whileL c b m) D σ' H', ⟨n, h⟩, fun m σ' H' hw => ?_⟩
  obtain ⟨o, ρ, st, he, hs, h⟩ := hw
  cases m with
  | zero => exact False.elim h
  | succ m =>
    refine ⟨o, ρ, st, he, hs, ?_⟩
    refine (wpR.bind.mp h).mono (fun t st1 h1 H1 o1 l s1 => ?_) fun _ _ x => x
    cases t with
    | false => exact iteF ((show EOk K H' o D.nx ρ st1 from h1) σ' H1 o1 l s1 (he.mono l.rep))
    | true =>
      refine iteT ⟨fun σ2 H2 => ∃ m', m' < m + 1 ∧ tS K E (whileL c b m') D σ2 H2, fun _ _ x => x, o1, ρ, st1, he.mono l.rep, s1, ?_⟩
      refine (wpR.bind.mp h1).mono (fun r st2 h2 => ?_) fun _ _ x => x.mono l
      cases r with
      | nx ρ2 => exact fun σ3 H3 o3 l3 s3 e3 => ⟨m, Nat.lt_succ_self _, o3, ρ2, st2, e3, s3, wpR.mono h2 (fun _ _ x => x.mono (l.trans l3)) fun _ _ x => x.mono (l.trans l3)⟩
      | ct ρ2 => exact fun σ3 H3 o3 l3 s3 e3 => ⟨m, Nat.lt_succ_self _, o3, ρ2, st2, e3, s3, wpR.mono h2 (fun _ _ x => x.mono (l.trans l3)) fun _ _ x => x.mono (l.trans l3)⟩
      | bk ρ2 => exact EOk.mono h2 l
      | rt d => exact VOk.mono h2 l
theorem dp_while {c : Expr} {body : List Stmt} {fc : DenB} {f : DenS} {pos : Pos} (n : Nat) (hp : PassesOwn (model X.prog X.w) X.A X.env X.xe) (hc : PB X E c fc) (hb : PDSs X E body f) : PDS X E (.While c body [] pos) (whileL fc f n) :=
  PS.imp (ps_while hp hc hb) fun _ _ _ h => tS_while h
end
end MP

namespace MP
open PySem L2
open PySem.Spec PyProof.Rows

/-! ## targets that are names, or tuples of such -/
inductive Tg where
  | nm (i : Nat) | tup (ts : List Tg)
mutual
def Tg.g (K : Frag) : Tg → TG
  | .nm i => gName i
  | .tup ts => gTup K ts.length (Tgs.g K ts)
def Tgs.g (K : Frag) : List Tg → TGs
  | [] => gNil
  | t :: ts => gCons (t.g K) (Tgs.g K ts)
end
mutual
def Tg.bind : Tg → D → Env → Option Env
  | .nm i, d, ρ => some (ρ.set i (some d))
  | .tup ts, .tup ds, ρ => bif ds.length == ts.length then Tgs.bind ts ds ρ else none
  | .tup _, _, _ => none
def Tgs.bind : List Tg → List D → Env → Option Env
  | [], [], ρ => some ρ
  | t :: ts, d :: ds, ρ => (t.bind d ρ).bind fun ρ' => Tgs.bind ts ds ρ'
  | _, _, _ => none
end
mutual
def Tg.slots : Tg → List Nat
  | .nm i => [i]
  | .tup ts => Tgs.slots ts
def Tgs.slots : List Tg → List Nat
  | [] => []
  | t :: ts => t.slots ++ Tgs.slots ts
end
theorem wipe_get (σ : L2.St) : ∀ (vs : List Nat) (j : Nat), (wipe σ vs)[j]? = if j ∈ vs then (σ[j]?).map (fun _ => none) else σ[j]?
  | [], j => by simp [wipe]
  | v :: vs, j => by
    unfold wipe
    by_cases h : v = j
    · subst h
      by_cases hl : v < σ.length
      · rw [List.getElem?_set_self (by rw [wipe_length]; exact hl)]
        simp [List.getElem?_eq_getElem hl]
      · rw [List.getElem?_eq_none (by rw [List.length_set, wipe_length]; omega), List.getElem?_eq_none (by omega)]
        simp
    · rw [List.getElem?_set_ne h, wipe_get σ vs j]
      have : j ≠ v := Ne.symm h
      simp [this]
theorem wipe_ext {σ σ' : L2.St} {vs : List Nat} (hl : σ'.length = σ.length) (h : ∀ j, j ∉ vs → σ'[j]? = σ[j]?) : wipe σ' vs = wipe σ vs := by
  apply List.ext_getElem?
  intro j
  rw [wipe_get, wipe_get]
  by_cases hj : j ∈ vs
  · rw [if_pos hj, if_pos hj]
    by_cases hb : j < σ.length
    · rw [List.getElem?_eq_getElem hb, List.getElem?_eq_getElem (by rw [hl]; exact hb)]; rfl
    · rw [List.getElem?_eq_none (by omega), List.getElem?_eq_none (by omega)]
  · rw [if_neg hj, if_neg hj, h j hj]
theorem wipe_wipe (σ : L2.St) (vs : List Nat) : wipe (wipe σ vs) vs = wipe σ vs :=
  wipe_ext (wipe_length σ vs) fun j hj => by rw [wipe_get, if_neg hj]
section
variable {K : Frag} {E : XK} {H H' : Hp} {o o' : Lo} {st : Store} {X : Cx}
def Keeps (vs : List Nat) (σ σ' : L2.St) : Prop := σ'.length = σ.length ∧ ∀ j, j ∉ vs → σ'[j]? = σ[j]?
mutual
theorem Tg.ok : ∀ (t : Tg) {d : D} {v : V} {ρ ρ' : Env} {σ : L2.St} {Q : L2.St → Hp → Prop}, Rep K H o d v → t.bind d ρ = some ρ' → EnvOk K H o ρ σ → (∀ σ', EnvOk K H o ρ' σ' → Keeps t.slots σ σ' → Q σ' H) → t.g K v σ H Q
  | .nm i, d, v, ρ, ρ', σ, Q, r, e, he, h => by
    have e' : some (ρ.set i (some d)) = some ρ' := by simpa [Tg.bind] using e
    cases e'
    have q := h (σ.set i (some v)) (he.set i r) ⟨by simp, fun j hj => List.getElem?_set_ne (by simpa [Tg.slots, eq_comm] using hj)⟩
    simpa [Tg.g, gName] using q
  | .tup ts, d, v, ρ, ρ', σ, Q, r, e, he, h => by
    cases d with
    | tup ds =>
      obtain ⟨a, xs, rfl, k, q⟩ := r
      have e' : (bif ds.length == ts.length then Tgs.bind ts ds ρ else none) = some ρ' := by simpa [Tg.bind] using e
      cases hl : ds.length == ts.length with
      | false => rw [hl] at e'; cases e'
      | true =>
        rw [hl] at e'
        have z : Tgs.g K ts xs σ H Q := Tgs.ok ts q e' he (by simpa [Tg.slots] using h)
        have : gTup K ts.length (Tgs.g K ts) (.ref a) σ H Q := ⟨a, xs, rfl, tup_sq k, by rw [q.length]; exact eq_of_beq hl, z⟩
        simpa [Tg.g] using this
    | _ => simp [Tg.bind] at e
theorem Tgs.ok : ∀ (ts : List Tg) {ds : List D} {vs : List V} {ρ ρ' : Env} {σ : L2.St} {Q : L2.St → Hp → Prop}, Reps K H o ds vs → Tgs.bind ts ds ρ = some ρ' → EnvOk K H o ρ σ → (∀ σ', EnvOk K H o ρ' σ' → Keeps (Tgs.slots ts) σ σ' → Q σ' H) → Tgs.g K ts vs σ H Q
  | [], ds, vs, ρ, ρ', σ, Q, r, e, he, h => by
    cases ds with
    | nil =>
      cases (show vs = [] from r)
      have e' : some ρ = some ρ' := by simpa [Tgs.bind] using e
      cases e'
      have z : gNil [] σ H Q := ⟨rfl, h σ he ⟨rfl, fun _ _ => rfl⟩⟩
      simpa [Tgs.g] using z
    | cons _ _ => simp [Tgs.bind] at e
  | t :: ts, ds, vs, ρ, ρ', σ, Q, r, e, he, h => by
    cases ds with
    | nil => simp [Tgs.bind] at e
    | cons d ds =>
      obtain ⟨v, vs', rfl, r1, r2⟩ := r
      have e' : (t.bind d ρ).bind (fun ρ' => Tgs.bind ts ds ρ') = some ρ' := by simpa [Tgs.bind] using e
      obtain ⟨ρ1, e1, e2⟩ := Option.bind_eq_some_iff.mp e'
      have z : gCons (t.g K) (Tgs.g K ts) (v :: vs') σ H Q := ⟨v, vs', rfl, Tg.ok t r1 e1 he fun σ1 he1 k1 => Tgs.ok ts r2 e2 he1 fun σ2 he2 k2 => h σ2 he2
        ⟨k2.1.trans k1.1, fun j hj => by
          have hj' : j ∉ t.slots ∧ j ∉ Tgs.slots ts := by simpa [Tgs.slots] using hj
          rw [k2.2 j hj'.2, k1.2 j hj'.1]⟩⟩
      simpa [Tgs.g] using z
end
/-- as a target of a for or an assignment -/
def optE : Option Env → M Env
  | some ρ => pure ρ
  | none => M.stuck
def gOf (t : Tg) : DenG := fun d ρ => optE (t.bind d ρ)
theorem dg_of {e : Expr} {t : Tg} (h : PG X e (t.g X.K)) : PDG X E e (gOf t) := PG.imp h fun v σ H Q h => by
  obtain ⟨o, ρ, st, d, he, hs, r, h⟩ := h
  have h' : wpR (optE (t.bind d ρ) st) (EOk X.K H o Q) (XOk X.K E H o) := h
  cases q : t.bind d ρ with
  | none => rw [q] at h'; exact False.elim h'
  | some ρ' =>
    rw [q] at h'
    exact t.ok r q he fun σ' he' _ => h' σ' H o (Le.refl _ _) hs he'
theorem tg_name {i : Nat} {x : Str} {pos : Pos} (hN : X.N.Nodup) (hi : X.N[i]? = some x) (hx : Loc X.env.scope x) (hf : X.fn x = true ∨ X.env.scope.names.lookup x = some .local) : PG X (.Name x pos) ((Tg.nm i).g X.K) := by
  have := pg_name (pos := pos) hN hi hx hf
  simpa [Tg.g] using this
theorem tg_tup {es : List Expr} {ts : List Tg} {k : Nat} {pos : Pos} (hc : X.calm = true) (h : PGs X es (Tgs.g X.K ts)) (hn : (assignEach es X.env).length = ts.length) (hst : (assignEach es X.env).findIdx? (·.1) = none) : PG X (.Tuple es k pos) ((Tg.tup ts).g X.K) := by
  have := pg_tup (k := k) (pos := pos) hc h hn hst
  simpa [Tg.g] using this
theorem tgs_nil : PGs X [] (Tgs.g X.K []) := by simpa [Tgs.g] using (pgs_nil (X := X))
theorem tgs_cons {e : Expr} {es : List Expr} {t : Tg} {ts : List Tg} (h1 : PG X e (t.g X.K)) (h2 : PGs X es (Tgs.g X.K ts)) (hs : (assignEach (e :: es) X.env).map (·.2) = assign e X.env :: (assignEach es X.env).map (·.2)) : PGs X (e :: es) (Tgs.g X.K (t :: ts)) := by
  have := pgs_cons h1 h2 hs
  simpa [Tgs.g] using this

/-! ## comprehensions -/
def wipeE (ρ : Env) : List Nat → Env
  | [] => ρ
  | v :: vs => (wipeE ρ vs).set v none
theorem EnvOk.wipe {ρ : Env} {σ : L2.St} (e : EnvOk K H o ρ σ) : ∀ vs : List Nat, EnvOk K H o (wipeE ρ vs) (L2.wipe σ vs)
  | [] => e
  | v :: vs => (EnvOk.wipe e vs).clear v
def noX {α : Type} (m : M α) : M α := fun st => match m st with
  | .ok a st' => .ok a st'
  | .exn _ _ => .stuck
  | .stuck => .stuck
theorem noX_wp {α : Type} {m : M α} {Q : α → Store → Prop} {Z Z' : Exn → Store → Prop} (h : wpR (noX m st) Q Z) : wpR (m st) Q Z' := by
  have h' : wpR (match m st with | .ok a st' => R.ok a st' | .exn _ _ => .stuck | .stuck => .stuck) Q Z := h
  cases q : m st with
  | ok a st' => rw [q] at h'; exact h'
  | exn e st' => rw [q] at h'; exact False.elim h'
  | stuck => rw [q] at h'; exact False.elim h'
def optB {α : Type} (x : Option Env) (f : Env → M α) : M α := match x with
  | some ρ => f ρ
  | none => M.stuck
def lcL (t : Tg) (c : DenB) (f : Den) (ρ0 : Env) : List D → M (List D)
  | [] => pure []
  | d :: ds => optB (t.bind d ρ0) fun ρ1 => noX (c ρ1) >>= fun b => cond b (noX (f ρ1) >>= fun y => lcL t c f ρ0 ds >>= fun ys => pure (y :: ys)) (lcL t c f ρ0 ds)
def guardL {α : Type} (c : Bool) (m : M α) : M α := bif c then m else M.stuck
theorem guardL_wp {α : Type} {c : Bool} {m : M α} {Q : α → Store → Prop} {Z : Exn → Store → Prop} (h : wpR (guardL c m st) Q Z) : c = true ∧ wpR (m st) Q Z := by
  cases c with
  | true => exact ⟨rfl, h⟩
  | false => exact False.elim h
@[simp] def dLc (it : DenI) (vs : List Nat) (t : Tg) (c : DenB) (f : Den) : Den := fun ρ => it ρ >>= fun ds => guardL (decide (ds.length ≤ big)) (lcL t c f (wipeE ρ vs) ds >>= fun ys => pure (.lst ys))
abbrev EX0 : XK := fun _ _ _ => False
theorem Lc.rewriteNew {p : Addr} {u : HO} {H1 : Hp} {o1 : Lo} (l : Lc H o H1 o1) (h : H p = none) : Lc H o (upd H1 p u) o1 :=
  ⟨fun a w e n => by
    obtain ⟨h1, n1⟩ := l.keep a w e n
    exact ⟨by rw [upd_ne (ne_of_none e h)]; exact h1, n1⟩, l.loc, l.x⟩
theorem tD_lc {it : DenI} {vs : List Nat} {t : Tg} {c : DenB} {f : Den} {σ : L2.St} {Q : VK} (hsub : ∀ i ∈ t.slots, i ∈ vs) (h : tD K E (dLc it vs t c f) σ H Q) :
    tLc (tI K E it) (t.g K) (tT K EX0 c) (tD K EX0 f) vs σ H Q := by
  obtain ⟨o, ρ, st, he, hs, h⟩ := h
  refine ⟨o, ρ, st, he, hs, ?_⟩
  refine (wpR.bind.mp h).mono (fun ds st1 h1 J H1 o1 l1 s1 w Dd hD => ?_) fun _ _ x => x
  obtain ⟨hlen, h1⟩ := guardL_wp h1
  have hlen := of_decide_eq_true hlen
  have h1 := wpR.bind.mp h1
  refine ⟨fun i m Hi => m = ds.length - i ∧ i ≤ ds.length ∧ ∃ oi sti accd acc, Lc H1 o1 Hi oi ∧ oi.z = Dd :: o1.z ∧ LeW K (upd H1 Dd (.lst [])) (o1.hold Dd) Hi oi ∧ StOk K Hi oi sti ∧ Hi Dd = some (.lst acc) ∧ some Dd ∉ oi.l ∧ Reps K Hi oi accd acc ∧ accd.length ≤ i ∧
      wpR (lcL t c f (wipeE ρ vs) (ds.drop i) sti) (fun ys st' => VOk K H o Q (.lst (accd ++ ys)) st') (XOk K E H o),
    ⟨_, rfl, Nat.zero_le _, o1.hold Dd, st1, [], [], Lc.hold hD, rfl, LeW.refl, s1.hold hD, upd_same, (s1.avOf hD).1, rfl, Nat.le_refl _, h1⟩, ?_⟩
  rintro i m Hi ⟨rfl, hi, oi, sti, accd, acc, lc, ez, lr, si, eD, nD, ra, la, hw⟩
  have lr0 : LeW K H1 o1 Hi oi := (LeW.hold hD).trans lr
  obtain ⟨w1, w2⟩ := w Hi oi sti lr0 si
  by_cases hlt : i < ds.length
  · rw [List.drop_eq_getElem_cons hlt] at hw
    obtain ⟨go, yl⟩ := w2 i _ (List.getElem?_eq_getElem hlt)
    refine .inr ⟨go, fun H2 => ∃ m', m' < ds.length - i ∧ (m' = ds.length - (i + 1) ∧ i + 1 ≤ ds.length ∧ ∃ oi sti accd acc, Lc H1 o1 H2 oi ∧ oi.z = Dd :: o1.z ∧ LeW K (upd H1 Dd (.lst [])) (o1.hold Dd) H2 oi ∧ StOk K H2 oi sti ∧ H2 Dd = some (.lst acc) ∧ some Dd ∉ oi.l ∧ Reps K H2 oi accd acc ∧ accd.length ≤ i + 1 ∧
      wpR (lcL t c f (wipeE ρ vs) (ds.drop (i + 1)) sti) (fun ys st' => VOk K H o Q (.lst (accd ++ ys)) st') (XOk K E H o)), fun _ x => x, fun x H2 y => ?_⟩
    obtain ⟨gr, rx⟩ := yl x H2 y
    have l2 : Le Hi oi H2 oi := Gr.le gr
    have s2 := Gr.stOk gr si
    have hw' : wpR (optB (t.bind ds[i] (wipeE ρ vs)) (fun ρ1 => noX (c ρ1) >>= fun b => cond b (noX (f ρ1) >>= fun y => lcL t c f (wipeE ρ vs) (ds.drop (i + 1)) >>= fun ys => pure (y :: ys)) (lcL t c f (wipeE ρ vs) (ds.drop (i + 1)))) sti) (fun ys st' => VOk K H o Q (.lst (accd ++ ys)) st') (XOk K E H o) := hw
    cases hb : t.bind ds[i] (wipeE ρ vs) with
    | none => rw [hb] at hw'; exact False.elim hw'
    | some ρ1 =>
      rw [hb] at hw'
      have env0 : EnvOk K H2 oi (wipeE ρ vs) (wipe σ vs) := ((he.mono (l1.rep.trans lr0.rep)).mono l2.rep).wipe vs
      refine t.ok rx hb env0 fun σ2 he2 kp => ?_
      refine ⟨(wipe_ext (kp.1.trans rfl) fun j hj => kp.2 j fun q => hj (hsub j q)).trans (wipe_wipe σ vs), ?_⟩
      have hw2 : wpR ((noX (c ρ1) >>= fun b => cond b (noX (f ρ1) >>= fun y => lcL t c f (wipeE ρ vs) (ds.drop (i + 1)) >>= fun ys => pure (y :: ys)) (lcL t c f (wipeE ρ vs) (ds.drop (i + 1)))) sti) (fun ys st' => VOk K H o Q (.lst (accd ++ ys)) st') (XOk K E H o) := hw'
      refine ⟨oi, ρ1, sti, he2, s2, ?_⟩
      refine wpR.mono (noX_wp (wpR.bind.mp hw2)) (fun b st3 h3 H3 o3 l3 s3 => ?_) fun _ _ x => x
      have lc3 : Lc H1 o1 H3 o3 := (lc.trans l2.toLc).trans l3.toLc
      have lr3 : LeW K Hi oi H3 o3 := l2.w.trans l3.w
      have ez3 : o3.z = Dd :: o1.z := l3.z.trans ez
      obtain ⟨eD2, nD2⟩ := l2.keep Dd _ eD nD
      obtain ⟨eD3, nD3⟩ := l3.keep Dd _ eD2 nD2
      cases b with
      | false =>
        exact iteF ⟨_, by omega, rfl, by omega, o3, st3, accd, acc, lc3, ez3, lr.trans lr3, s3, eD3, nD3, lr3.rep.reps ra, Nat.le_succ_of_le la, h3⟩
      | true =>
        refine iteT ⟨o3, ρ1, st3, he2.mono l3.rep, s3, ?_⟩
        have h3' : wpR ((noX (f ρ1) >>= fun y => lcL t c f (wipeE ρ vs) (ds.drop (i + 1)) >>= fun ys => pure (y :: ys)) st3) (fun ys st' => VOk K H o Q (.lst (accd ++ ys)) st') (XOk K E H o) := h3
        refine wpR.mono (noX_wp (wpR.bind.mp h3')) (fun y' st4 h4 v4 H4 o4 l4 s4 r4 => ?_) fun _ _ x => x
        obtain ⟨eD4, nD4⟩ := l4.keep Dd _ eD3 nD3
        have ez4 : o4.z = Dd :: o1.z := l4.z.trans ez3
        have hin : Dd ∈ o4.z := by rw [ez4]; exact List.mem_cons_self
        have al : acc.length = accd.length := ra.length
        refine ⟨acc, eD4, by have := big_lt; omega, _, by omega, rfl, by omega, o4, st4, accd ++ [y'], acc ++ [v4], (lc3.trans l4.toLc).rewriteNew hD, ez4, (((lr.trans lr3).trans l4.w)).trans (LeW.rewrite hin), s4.rewrite hin, upd_same, nD4,
          (LeR.rewrite hin).reps ((l4.rep.reps (lr3.rep.reps ra)).append (Reps.one r4)), by simp; omega, ?_⟩
        refine (wpR.bind.mp h4).mono (fun ys st5 h5 => ?_) fun _ _ x => x
        have h5' : VOk K H o Q (.lst (accd ++ y' :: ys)) st5 := h5
        rw [List.append_assoc]
        exact h5'
  · have e : i = ds.length := by omega
    subst e
    rw [List.drop_length] at hw
    refine .inl ⟨w1, ?_⟩
    have hw' : VOk K H o Q (.lst (accd ++ [])) sti := hw
    rw [List.append_nil] at hw'
    have hz : ∀ a ∈ o1.z, a ∈ oi.z := fun a ha => by rw [ez]; exact List.mem_cons_of_mem _ ha
    refine hw' (.ref Dd) Hi { oi with z := o1.z } (l1.trans ⟨⟨fun a u e n => lc.keep a u e n, lc.loc, lc.x⟩, rfl⟩) (si.unhold hz) ⟨Dd, acc, rfl, eD, ⟨nD, fun q => ?_⟩, (LeR.unhold hz).reps ra⟩
    obtain ⟨⟨u, e⟩, _⟩ := s1.zt Dd q
    rw [hD] at e; cases e
theorem pts_nilD : PTs X [] (tT X.K EX0 fun _ => pure true) := ⟨fun pins s σ H Q I h => (pts_nil (X := X)).run pins s σ H Q I (tT_pure h)⟩
theorem pd_lc {elt tg iter : Expr} {ifs : List Expr} {scope : Scope} {own : List (Str × Nat)} {pos : Pos} {it : DenI} {t : Tg} {c : DenB} {f : Den} (hc : X.calm = true) (hN : X.N.Nodup) (hi : PDI X E tg iter it) (ok : BlkOk X.N X.env.scope scope own)
    (hg : ∀ (s : Shared) (H : Hp) (C : Addr) (cl : List (Str × Addr)) (fp : List Addr), PG (X.blk s H scope (compEnvC scope cl C X.env) fp) tg (t.g X.K))
    (ht : ∀ (s : Shared) (H : Hp) (C : Addr) (cl : List (Str × Addr)) (fp : List Addr), PTs (X.blk s H scope (compEnvC scope cl C X.env) fp) ifs (tT X.K EX0 c))
    (he : ∀ (s : Shared) (H : Hp) (C : Addr) (cl : List (Str × Addr)) (fp : List Addr), PE (X.blk s H scope (compEnvC scope cl C X.env) fp) elt (tD X.K EX0 f)) (hs : ∀ x, foldedSetIterable iter X.env x = pure x) (hsub : ∀ i ∈ t.slots, i ∈ own.map (·.2)) :
    PD X E (.ListComp elt [⟨tg, iter, ifs, 0⟩] scope pos) (dLc it (own.map (·.2)) t c f) := PE.imp (pe_lc hc hN hi ok hg ht he hs) fun _ _ _ h => tD_lc hsub h
theorem dp_setLc {i : Nat} {y : Str} {py : Pos} {elt tg iter : Expr} {ifs : List Expr} {scope : Scope} {own : List (Str × Nat)} {pos spos : Pos} {it : DenI} {t : Tg} {c : DenB} {f : Den} (hc : X.calm = true) (hN : X.N.Nodup) (hy : X.N[i]? = some y) (hyl : X.env.scope.names.lookup y = some .local)
    (hsw : swapsWith (.ListComp elt [⟨tg, iter, ifs, 0⟩] scope pos) (some (.Name y py)) spos.line X.env = pure true) (hi : PDI X E tg iter it) (ok : BlkOk X.N X.env.scope scope own)
    (hg : ∀ (s : Shared) (H : Hp) (C : Addr) (cl : List (Str × Addr)) (fp : List Addr), PG (X.blk s H scope (compEnvC scope cl C X.env) fp) tg (t.g X.K))
    (ht : ∀ (s : Shared) (H : Hp) (C : Addr) (cl : List (Str × Addr)) (fp : List Addr), PTs (X.blk s H scope (compEnvC scope cl C X.env) fp) ifs (tT X.K EX0 c))
    (he : ∀ (s : Shared) (H : Hp) (C : Addr) (cl : List (Str × Addr)) (fp : List Addr), PE (X.blk s H scope (compEnvC scope cl C X.env) fp) elt (tD X.K EX0 f)) (hs : ∀ x, foldedSetIterable iter X.env x = pure x) (hsub : ∀ i ∈ t.slots, i ∈ own.map (·.2)) :
    PDS X E (.Assign [.Name y py] (.ListComp elt [⟨tg, iter, ifs, 0⟩] scope pos) spos) (dAsg (dLc it (own.map (·.2)) t c f) (gSet i)) := PS.imp (ps_setLc hc hN hy hyl hsw hi ok hg ht he hs) fun D σ H h => by
  have h1 : tD X.K E (dLc it (own.map (·.2)) t c f) σ H fun v H1 => D.nx (σ.set i (some v)) H1 := by
    obtain ⟨o, ρ, st, he, hs, h⟩ := h
    refine ⟨o, ρ, st, he, hs, ?_⟩
    exact (wpR.bind.mp h).mono (fun d st1 h1 v H1 o1 l s1 r => (show EOk X.K H o D.nx (ρ.set i (some d)) st1 from h1) _ H1 o1 l s1 ((he.mono l.rep).set i r)) fun _ _ x => x
  exact tD_lc hsub h1
end
end MP

namespace MP
open PySem L2
open PySem.Spec PyProof.Rows
section
variable {K : Frag} {E : XK} {H H' : Hp} {o o' : Lo} {st : Store} {X : Cx}

/-! ## o[i] = v -/
def dputK : List Key → Key → List Key
  | [], k => [k]
  | q :: ks, k => if q = k then q :: ks else q :: dputK ks k
def dputV : List Key → List D → Key → D → List D
  | [], _, _, v => [v]
  | q :: ks, d :: ds, k, v => if q = k then v :: ds else d :: dputV ks ds k v
  | _ :: _, [], _, _ => []
theorem putK_cons_eq {p : Key × V} {r : List (Key × V)} {k : Key} {v : V} (e : p.1 = k) (nd : ∀ q ∈ r, q.1 ≠ k) : putK (p :: r) k v = (p.1, v) :: r := by
  unfold putK
  have h1 : ((p :: r).any fun kv => decide (kv.1 = k)) = true := by simp [e]
  rw [if_pos h1, List.map_cons, if_pos e]
  congr 1
  have h2 : r.map (fun kv => if kv.1 = k then (kv.1, v) else kv) = r.map id := List.map_congr_left fun q hq => by simp [nd q hq]
  rw [h2, List.map_id]
theorem putK_cons_ne {p : Key × V} {r : List (Key × V)} {k : Key} {v : V} (e : p.1 ≠ k) : putK (p :: r) k v = p :: putK r k v := by
  unfold putK
  have h1 : ((p :: r).any fun kv => decide (kv.1 = k)) = (r.any fun kv => decide (kv.1 = k)) := by simp [e]
  rw [h1]
  split
  · rw [List.map_cons, if_neg e]
  · rfl
theorem dput_rep : ∀ {kvs : List (Key × V)} {ds : List D} {k : Key} {d : D} {v : V}, (kvs.map (·.1)).Nodup → Reps K H o ds (kvs.map (·.2)) → Rep K H o d v →
    (putK kvs k v).map (·.1) = dputK (kvs.map (·.1)) k ∧ Reps K H o (dputV (kvs.map (·.1)) ds k d) ((putK kvs k v).map (·.2))
  | [], ds, k, d, v, _, r, rv => by
    have e : putK ([] : List (Key × V)) k v = [(k, v)] := rfl
    rw [e]
    exact ⟨rfl, Reps.one rv⟩
  | p :: r, [], k, d, v, _, q, rv => by cases (show (p :: r).map (·.2) = [] from q)
  | p :: r, d0 :: ds, k, d, v, nd, q, rv => by
    obtain ⟨x, xs, e, r1, r2⟩ := q
    obtain ⟨rfl, rfl⟩ := List.cons.inj e
    have nd' := List.nodup_cons.mp (show (p.1 :: r.map (·.1)).Nodup from nd)
    by_cases hp : p.1 = k
    · rw [putK_cons_eq hp fun y hy e => nd'.1 (by rw [hp, ← e]; exact List.mem_map_of_mem hy)]
      simp only [List.map_cons, dputK, dputV, if_pos hp]
      exact ⟨trivial, v, _, rfl, rv, r2⟩
    · obtain ⟨h1, h2⟩ := dput_rep (k := k) nd'.2 r2 rv
      rw [putK_cons_ne hp]
      simp only [List.map_cons, dputK, dputV, if_neg hp]
      exact ⟨by rw [h1], p.2, _, rfl, r1, h2⟩
def setCell : Option Cell → D → D → Option Cell
  | some (.lst ds), .int i, v => (ixN ds.length i).map fun j => .lst (ds.set j v)
  | some (.dic ks ds), k, v => (keyD k).bind fun q => bif decide (ks.length < big) && decide ks.Nodup then some (.dic (dputK ks q) (dputV ks ds q v)) else none
  | _, _, _ => none
def setM : D → D → D → M Unit
  | .ref n, i, v => fun st => match setCell st[n]? i v with
    | some c => .ok () (st.set n c)
    | none => .stuck
  | _, _, _ => M.stuck
def UOk (K : Frag) (H : Hp) (o : Lo) (Q : Hp → Prop) (_ : Unit) (st : Store) : Prop := ∀ H' o', Le H o H' o' → StOk K H' o' st → Q H'
theorem UOk.mono {Q : Hp → Prop} {u : Unit} (x : UOk K H o Q u st) (l : Le H o H' o') : UOk K H' o' Q u st := fun H2 o2 l2 => x H2 o2 (l.trans l2)
def tSetD (K : Frag) (E : XK) (op : D → D → D → M Unit) : TSet := fun x i v H Q => ∃ o st dx di dv, Rep K H o dx x ∧ Rep K H o di i ∧ Rep K H o dv v ∧ StOk K H o st ∧ wpR (op dx di dv st) (UOk K H o Q) (XOk K E H o)
theorem sd_set (hu : X.A.units + 1 < cLine) : PSet X (tSetD X.K E setM) := by
  intro pins s σ H x i v ov iv u Q I rx ri rv h
  obtain ⟨o, st, dx, di, dv, r1, r2, r3, so, h⟩ := h
  cases dx with
  | ref n =>
    have h' : wpR (match setCell st[n]? di dv with | some c => R.ok () (st.set n c) | none => .stuck) (UOk X.K H o Q) (XOk X.K E H o) := h
    cases q : st[n]? with
    | none => rw [q] at h'; exact False.elim h'
    | some c =>
      rw [q] at h'
      obtain ⟨b, e0, h1⟩ := r1
      subst e0
      have at_ : ∀ {a}, o.l[n]? = some (some a) → b = a := fun {a} e1 => by
        rw [e1] at h1
        rcases h1 with h1 | h1
        · cases h1; rfl
        · cases h1
      cases c with
      | lst ds =>
        obtain ⟨a, xs, e1, e2, e3⟩ := so.cell n _ q
        cases at_ e1
        cases di with
        | int k =>
          have h2 : wpR (match (ixN ds.length k).map (fun j => Cell.lst (ds.set j dv)) with | some c => R.ok () (st.set n c) | none => .stuck) (UOk X.K H o Q) (XOk X.K E H o) := h'
          cases qi : ixN ds.length k with
          | none => rw [qi] at h2; exact False.elim h2
          | some j =>
            rw [qi] at h2
            refine set_list pins s σ H (.ref b) i v ov iv u Q I rx ri rv ⟨b, xs, k, j, rfl, r2, e2, by rw [e3.length]; exact qi, ?_⟩
            have hm : some b ∈ o.l := List.mem_of_getElem? e1
            exact (show UOk X.K H o Q () (st.set n (.lst (ds.set j dv))) from h2) _ o (Le.write hm) (so.write e1 ⟨b, _, rfl, upd_same, (Le.write hm).rep.reps (e3.set j r3)⟩)
        | _ => exact False.elim h'
      | dic ks ds =>
        obtain ⟨a, kvs, e1, e2, e4, e3⟩ := so.cell n _ q
        cases at_ e1
        have h2 : wpR (match (keyD di).bind (fun q => bif decide (ks.length < big) && decide ks.Nodup then some (Cell.dic (dputK ks q) (dputV ks ds q dv)) else none) with | some c => R.ok () (st.set n c) | none => .stuck) (UOk X.K H o Q) (XOk X.K E H o) := h'
        cases qk : keyD di with
        | none => rw [qk] at h2; exact False.elim h2
        | some k =>
          rw [qk] at h2
          have h3 : wpR (match (bif decide (ks.length < big) && decide ks.Nodup then some (Cell.dic (dputK ks k) (dputV ks ds k dv)) else none) with | some c => R.ok () (st.set n c) | none => .stuck) (UOk X.K H o Q) (XOk X.K E H o) := h2
          cases qb : decide (ks.length < big) && decide ks.Nodup with
          | false => rw [qb] at h3; exact False.elim h3
          | true =>
            rw [qb] at h3
            rw [Bool.and_eq_true] at qb
            have hl := of_decide_eq_true qb.1
            have hnd := of_decide_eq_true qb.2
            subst e4
            have ey := keyD_rep qk r2
            subst ey
            obtain ⟨p1, p2⟩ := dput_rep (k := k) hnd e3 r3
            have hm : some b ∈ o.l := List.mem_of_getElem? e1
            cases rx
            refine d_setItem hu I (DPut.k e2 (by rw [List.length_map] at hl; exact Nat.lt_of_lt_of_le hl big_le)) ri rv fun s' I' => ⟨_, I', ?_⟩
            exact (show UOk X.K H o Q () (st.set n (.dic _ _)) from h3) _ o (Le.write hm) (so.write e1 ⟨b, _, rfl, upd_same, p1, (Le.write hm).rep.reps p2⟩)
      | _ => cases di <;> exact False.elim h'
  | _ => exact False.elim h
@[simp] def gSubD (fo fi : Den) : DenG := fun d ρ => fo ρ >>= fun x => fi ρ >>= fun i => setM x i d >>= fun _ => pure ρ
theorem dg_sub {a i : Expr} {fo fi : Den} {pos : Pos} (hu : X.A.units + 1 < cLine) (ho : PD X E a fo) (hi : PD X E i fi)
    (ha : ∀ v, assign (.Subscript a i pos) X.env v = (do
      let ov ← holding [v] (eval a X.env)
      let iv ← holding [v, ov] (eval i X.env)
      standAt pos
      holding [v, ov, iv] (setItem ov iv v)
      release [v, ov, iv] [])) : PDG X E (.Subscript a i pos) (gSubD fo fi) :=
  PG.imp (pg_sub ho hi (sd_set (E := E) hu) ha) fun v σ H Q h => by
    obtain ⟨o, ρ, st, d, he, hs, r, h⟩ := h
    refine ⟨o, ρ, st, he, hs, ?_⟩
    refine (wpR.bind.mp h).mono (fun x st1 h1 vx H1 o1 l1 s1 r1 => ⟨o1, ρ, st1, he.mono l1.rep, s1, ?_⟩) fun _ _ x => x
    refine (wpR.bind.mp h1).mono (fun i st2 h2 vi H2 o2 l2 s2 r2 => ⟨o2, st2, x, i, d, Rep.mono l2 _ _ r1, r2, Rep.mono (l1.trans l2) _ _ r, s2, ?_⟩) fun _ _ x => x.mono l1
    have l12 := l1.trans l2
    refine wpR.mono (wpR.bind.mp h2) (fun u st3 h3 H3 o3 l3 s3 => ?_) fun _ _ x => x.mono l12
    exact (show EOk X.K H o Q ρ st3 from h3) σ H3 o3 (l12.trans l3) s3 (he.mono ((l12.trans l3).rep))

/-! ## methods of built-in types -/
abbrev MtD (X : Cx) (E : XK) (id : String) (op : D → List D → M D) : Prop := MtR X id (fun x xs H Q => ∃ o dx ds st, Rep X.K H o dx x ∧ Reps X.K H o ds xs ∧ StOk X.K H o st ∧ wpR (op dx ds st) (VOk X.K H o Q) (XOk X.K E H o))
/-- is the receiver of that type (T: "str" | "list" | "tuple") -/
def lstCell (n : Nat) : M Unit := fun st => match st[n]? with
  | some (.lst _) => .ok () st
  | _ => .stuck
def isTy (T : String) : D → M Unit
  | .str _ => if T = "str" then pure () else M.stuck
  | .lst _ => if T = "list" then pure () else M.stuck
  | .ref n => if T = "list" then lstCell n else M.stuck
  | _ => M.stuck
theorem isTy_wp {T : String} {d : D} {v : V} {Q : Unit → Store → Prop} {Z : Exn → Store → Prop} (r : Rep K H o d v) (s : StOk K H o st) (h : wpR (isTy T d st) Q Z) : tyV K T v H ∧ Q () st := by
  cases d with
  | str i =>
    have h1 : wpR ((if T = "str" then (pure () : M Unit) else M.stuck) st) Q Z := h
    by_cases e : T = "str"
    · rw [if_pos e] at h1; subst e; cases (show v = .str i from r); exact ⟨rfl, h1⟩
    · rw [if_neg e] at h1; exact False.elim h1
  | lst ds =>
    have h1 : wpR ((if T = "list" then (pure () : M Unit) else M.stuck) st) Q Z := h
    by_cases e : T = "list"
    · rw [if_pos e] at h1; subst e; obtain ⟨a, xs, rfl, k, _⟩ := r; exact ⟨.inl ⟨rfl, xs, SqL.of k⟩, h1⟩
    · rw [if_neg e] at h1; exact False.elim h1
  | ref n =>
    have h1 : wpR ((if T = "list" then lstCell n else M.stuck) st) Q Z := h
    by_cases e : T = "list"
    · rw [if_pos e] at h1
      subst e
      have h' : wpR (match st[n]? with | some (.lst _) => R.ok () st | _ => .stuck) Q Z := h1
      cases q : st[n]? with
      | none => rw [q] at h'; exact False.elim h'
      | some c =>
        rw [q] at h'
        cases c with
        | lst ds =>
          obtain ⟨a, xs, e1, e2, e3⟩ := s.cell n _ q
          obtain ⟨b, rfl, h1⟩ := r
          have : a = b := by
            rw [e1] at h1
            rcases h1 with h1 | h1
            · cases h1; rfl
            · cases h1
          subst this
          exact ⟨.inl ⟨rfl, xs, SqL.of e2⟩, h'⟩
        | _ => exact False.elim h'
    · rw [if_neg e] at h1; exact False.elim h1
  | _ => exact False.elim h
@[simp] def dMeth (T : String) (op : D → List D → M D) (f : Den) (fs : DenL) : Den := fun ρ => f ρ >>= fun x => isTy T x >>= fun _ => fs ρ >>= fun xs => op x xs
theorem pd_meth {T id : String} {name : Str} {op : D → List D → M D} {a e : Expr} {es : List Expr} {f : Den} {fs : DenL} {apos cpos : Pos} (pa : PlainAttrs T) (slot : Slot T name id) (hty : typeOf (.builtin id) = pure (.type "method_descriptor")) (hm : MtD X E id op)
    (ho : PD X E a f) (ha : PL X E (e :: es) fs) (hbase : attributeBase a name X.env (eval a X.env) = eval a X.env)
    (hfew : ((backTo cpos (starEach (e :: es) X.env)).all (fun x => !x.1) && (backToKw cpos (keywordEach [] X.env)).all (fun x => x.1.isSome)
      && decide ((e :: es).length + ([] : List Keyword).length + (if ([] : List Keyword).isEmpty then 0 else 1) < 30)) = true)
    (hline : (apos.endLine == cpos.line) = true) (hs : starEach (e :: es) X.env = (false, eval e X.env) :: starEach es X.env) (hplain : (backTo cpos (starEach es X.env)).any (·.1) = false) :
    PD X E (.Call (.Attribute a name apos) (e :: es) [] cpos) (dMeth T op f fs) := PE.imp (pe_bm pa slot hty hm ho ha hbase hfew hline hs hplain) fun σ H Q h => by
  obtain ⟨o, ρ, st, he, hs, h⟩ := h
  refine ⟨o, ρ, st, he, hs, ?_⟩
  refine (wpR.bind.mp h).mono (fun x st1 h1 v H1 o1 l1 s1 r1 => ?_) fun _ _ x => x
  obtain ⟨ty, h2⟩ := isTy_wp r1 s1 (wpR.bind.mp h1)
  refine ⟨ty, o1, ρ, st1, he.mono l1.rep, s1, ?_⟩
  refine (wpR.bind.mp h2).mono (fun ds st2 h3 vs H2 o2 l2 s2 r2 => ⟨o2, x, ds, st2, Rep.mono l2 _ _ r1, r2, s2, ?_⟩) fun _ _ x => x.mono l1
  exact wpR.mono h3 (fun _ _ x => x.mono (l1.trans l2)) fun _ _ x => x.mono (l1.trans l2)
def mAppend : D → List D → M D
  | .ref n, [v] => fun st => match st[n]? with
    | some (.lst ds) => bif decide (ds.length < big) then .ok .non (st.set n (.lst (ds ++ [v]))) else .stuck
    | _ => .stuck
  | _, _ => M.stuck
theorem md_append : MtD X E "list.append" mAppend := by
  intro pins s σ H x xs v us Q I rx rs h
  obtain ⟨o, dx, ds, st, r1, r2, so, h⟩ := h
  cases dx with
  | ref n =>
    cases ds with
    | nil => exact False.elim h
    | cons d ds =>
      cases ds with
      | cons _ _ => exact False.elim h
      | nil =>
        obtain ⟨y, rfl, ry⟩ := r2.one_of
        have h' : wpR (match st[n]? with | some (.lst ds) => bif decide (ds.length < big) then R.ok .non (st.set n (.lst (ds ++ [d]))) else .stuck | _ => .stuck) (VOk X.K H o Q) (XOk X.K E H o) := h
        cases q : st[n]? with
        | none => rw [q] at h'; exact False.elim h'
        | some c =>
          rw [q] at h'
          cases c with
          | lst ds =>
            obtain ⟨a, xs, e1, e2, e3⟩ := so.cell n _ q
            obtain ⟨b, rfl, h1⟩ := r1
            have : a = b := by
              rw [e1] at h1
              rcases h1 with h1 | h1
              · cases h1; rfl
              · cases h1
            subst this
            have h2 : wpR (bif decide (ds.length < big) then R.ok D.non (st.set n (.lst (ds ++ [d]))) else .stuck) (VOk X.K H o Q) (XOk X.K E H o) := h'
            cases qb : decide (ds.length < big) with
            | false => rw [qb] at h2; exact False.elim h2
            | true =>
              rw [qb] at h2
              have hl := of_decide_eq_true qb
              have hm : some a ∈ o.l := List.mem_of_getElem? e1
              refine mt_append pins s σ H _ _ v us Q I rx rs ⟨a, xs, y, rfl, rfl, e2, by rw [e3.length]; exact Nat.lt_of_lt_of_le hl big_le, ?_⟩
              exact (show VOk X.K H o Q .non (st.set n (.lst (ds ++ [d]))) from h2) .non _ o (Le.write hm) (so.write e1 ⟨a, _, rfl, upd_same, (Le.write hm).rep.reps (e3.append (Reps.one ry))⟩) rfl
          | _ => exact False.elim h'
  | _ => exact False.elim h
def strsD : List D → Option (List Str)
  | [] => some []
  | .str i :: ds => (strsD ds).map (i :: ·)
  | _ => none
theorem strsD_eq : ∀ {ds : List D} {ns : List Str}, strsD ds = some ns → ds = ns.map D.str
  | [], ns, h => by cases h; rfl
  | .str i :: ds, ns, h => by
    obtain ⟨ms, h1, rfl⟩ := Option.map_eq_some_iff.mp (show (strsD ds).map (i :: ·) = some ns from h)
    rw [strsD_eq h1]; rfl
  | .non :: _, _, h => by cases h
  | .bl _ :: _, _, h => by cases h
  | .int _ :: _, _, h => by cases h
  | .tup _ :: _, _, h => by cases h
  | .lst _ :: _, _, h => by cases h
  | .dic _ _ :: _, _, h => by cases h
  | .scr _ :: _, _, h => by cases h
  | .ref _ :: _, _, h => by cases h
def joinL (z : Str) (ds : List D) : M D := match strsD ds with
  | some ys => guardM (decide ((ys.map (·.length)).sum + ys.length * z.length ≤ big)) (pure (.str (Txt.join z ys)))
  | none => M.stuck
def mJoin : D → List D → M D
  | .str z, [x] => lstOf x >>= joinL z
  | _, _ => M.stuck
theorem md_join : MtD X E "str.join" mJoin := by
  intro pins s σ H x xs v us Q I rx rs h
  obtain ⟨o, dx, ds, st, r1, r2, so, h⟩ := h
  cases dx with
  | str z =>
    cases ds with
    | nil => exact False.elim h
    | cons d ds =>
      cases ds with
      | cons _ _ => exact False.elim h
      | nil =>
        obtain ⟨y, rfl, ry⟩ := r2.one_of
        obtain ⟨es, a, ys, rfl, e2, q2, h⟩ := lstOf_wp ry so (wpR.bind.mp h)
        unfold joinL at h
        cases q : strsD es with
        | none => rw [q] at h; exact False.elim h
        | some ss =>
          rw [q] at h
          obtain ⟨hl, h⟩ := guardM_wp h
          rw [strsD_eq q] at q2
          rw [q2.strs] at e2
          have hl' := of_decide_eq_true hl
          exact mt_join pins s σ H x _ v us Q I rx rs ⟨z, a, ss, r1, rfl, .inl (SqL.of e2), Nat.le_trans hl' big_le, ok_flat h so rfl⟩
  | _ => exact False.elim h
def mSplit : D → List D → M D
  | .str a, [.str b] => guardM (!(b.length == 0) && decide (a.length + 2 ≤ big)) (pure (.lst ((Txt.split a b).map D.str)))
  | _, _ => M.stuck
theorem md_split : MtD X E "str.split" mSplit := by
  intro pins s σ H x xs v us Q I rx rs h
  obtain ⟨o, dx, ds, st, r1, r2, so, h⟩ := h
  cases dx with
  | str z =>
    cases ds with
    | nil => exact False.elim h
    | cons d ds =>
      cases ds with
      | cons _ _ => cases d <;> exact False.elim h
      | nil =>
        obtain ⟨y, rfl, ry⟩ := r2.one_of
        cases d with
        | str b =>
          obtain ⟨hl, h⟩ := guardM_wp h
          rw [Bool.and_eq_true] at hl
          have e1 : (b.length == 0) = false := by cases q : b.length == 0 with
            | false => rfl
            | true => rw [q] at hl; exact absurd hl.1 (by decide)
          exact mt_split pins s σ H x _ v us Q I rx rs ⟨z, b, r1, by rw [show y = .str b from ry], e1, Nat.le_trans (of_decide_eq_true hl.2) big_le, fun p hp => ok_newLst h so (Reps.ofStrs _) hp⟩
        | _ => exact False.elim h
  | _ => exact False.elim h

/-! ## dict displays -/
def denPairs : List (Den × Den) → Env → M (List (D × D))
  | [], _ => pure []
  | (k, v) :: r, ρ => k ρ >>= fun x => v ρ >>= fun y => denPairs r ρ >>= fun ps => pure ((x, y) :: ps)
def keysD : List (D × D) → Option (List (Key × D))
  | [] => some []
  | (k, v) :: r => (keyD k).bind fun q => (keysD r).map ((q, v) :: ·)
def mergeD : List Key → List D → List (Key × D) → List Key × List D
  | ks, ds, [] => (ks, ds)
  | ks, ds, (k, v) :: r => mergeD (dputK ks k) (dputV ks ds k v) r
def PairsR (K : Frag) (H : Hp) (o : Lo) : List (D × D) → List (V × V) → Prop
  | [], ps => ps = []
  | (k, v) :: r, ps => ∃ x y ps', ps = (x, y) :: ps' ∧ Rep K H o k x ∧ Rep K H o v y ∧ PairsR K H o r ps'
theorem PairsR.mono (l : LeR K H o H' o') : ∀ {ds : List (D × D)} {ps : List (V × V)}, PairsR K H o ds ps → PairsR K H' o' ds ps
  | [], _, h => h
  | (k, v) :: r, _, h => by
    obtain ⟨x, y, ps', rfl, h1, h2, h3⟩ := h
    exact ⟨x, y, ps', rfl, l _ _ h1, l _ _ h2, PairsR.mono l h3⟩
def POk (K : Frag) (H : Hp) (o : Lo) (Q : List (V × V) → Hp → Prop) (ds : List (D × D)) (st : Store) : Prop := ∀ ps H' o', Le H o H' o' → StOk K H' o' st → PairsR K H' o' ds ps → Q ps H'
theorem POk.mono {Q : List (V × V) → Hp → Prop} {d : List (D × D)} (x : POk K H o Q d st) (l : Le H o H' o') : POk K H' o' Q d st := fun v H2 o2 l2 => x v H2 o2 (l.trans l2)
theorem tPairs_of : ∀ (fs : List (Den × Den)) {σ : L2.St} {H : Hp} {o : Lo} {st : Store} {ρ : Env} {Q : List (V × V) → Hp → Prop}, EnvOk K H o ρ σ → StOk K H o st → wpR (denPairs fs ρ st) (POk K H o Q) (XOk K E H o) →
    tPairs (fs.map fun p => (tD K E p.1, tD K E p.2)) σ H Q
  | [], σ, H, o, st, ρ, Q, he, hs, h => h [] H o (Le.refl _ _) hs rfl
  | (k, v) :: r, σ, H, o, st, ρ, Q, he, hs, h => by
    refine ⟨o, ρ, st, he, hs, ?_⟩
    refine (wpR.bind.mp h).mono (fun x st1 h1 vx H1 o1 l1 s1 r1 => ⟨o1, ρ, st1, he.mono l1.rep, s1, ?_⟩) fun _ _ x => x
    refine (wpR.bind.mp h1).mono (fun y st2 h2 vy H2 o2 l2 s2 r2 => ?_) fun _ _ x => x.mono l1
    have l12 := l1.trans l2
    refine tPairs_of r (he.mono l12.rep) s2 (wpR.mono (wpR.bind.mp h2) (fun ps st3 h3 vs H3 o3 l3 s3 r3 => ?_) fun _ _ x => x.mono l12)
    exact (show POk K H o Q ((x, y) :: ps) st3 from h3) ((vx, vy) :: vs) H3 o3 (l12.trans l3) s3 ⟨vx, vy, vs, rfl, Rep.mono (l2.trans l3) _ _ r1, Rep.mono l3 _ _ r2, r3⟩
theorem dputK_nodup : ∀ {ks : List Key} {k : Key}, ks.Nodup → (dputK ks k).Nodup ∧ ∀ q, q ∈ dputK ks k → q = k ∨ q ∈ ks
  | [], k, _ => by simp [dputK]
  | q :: ks, k, h => by
    have h' := List.nodup_cons.mp h
    unfold dputK
    split
    · exact ⟨h, fun x hx => .inr hx⟩
    · rename_i hne
      obtain ⟨h1, h2⟩ := dputK_nodup (k := k) h'.2
      refine ⟨List.nodup_cons.mpr ⟨fun z => ?_, h1⟩, fun x hx => ?_⟩
      · rcases h2 q z with e | e
        · exact hne e
        · exact h'.1 e
      · rcases List.mem_cons.mp hx with e | e
        · exact .inr (by rw [e]; exact List.mem_cons_self)
        · rcases h2 x e with e | e
          · exact .inl e
          · exact .inr (List.mem_cons_of_mem _ e)
theorem keysD_rep : ∀ {ds : List (D × D)} {kd : List (Key × D)} {ps : List (V × V)}, keysD ds = some kd → PairsR K H o ds ps →
    ∃ kvs : List (Key × V), ps = kvs.map (fun kv => (kV kv.1, kv.2)) ∧ kvs.length = ds.length ∧ kvs.map (·.1) = kd.map (·.1) ∧ Reps K H o (kd.map (·.2)) (kvs.map (·.2))
  | [], kd, ps, e, r => by cases e; cases (show ps = [] from r); exact ⟨[], rfl, rfl, rfl, rfl⟩
  | (k, v) :: r, kd, ps, e, q => by
    obtain ⟨x, y, ps', rfl, h1, h2, h3⟩ := q
    obtain ⟨q, hq, e2⟩ := Option.bind_eq_some_iff.mp (show (keyD k).bind (fun q => (keysD r).map ((q, v) :: ·)) = some kd from e)
    obtain ⟨kd', hk, rfl⟩ := Option.map_eq_some_iff.mp e2
    obtain ⟨kvs, e3, e4, e5, e6⟩ := keysD_rep hk h3
    exact ⟨(q, y) :: kvs, by rw [e3, keyD_rep hq h1]; rfl, by simp [e4], by simp [e5], y, _, rfl, h2, e6⟩
theorem merge_rep : ∀ {kd : List (Key × D)} {more kvs : List (Key × V)} {ds : List D}, (kvs.map (·.1)).Nodup → more.map (·.1) = kd.map (·.1) → Reps K H o (kd.map (·.2)) (more.map (·.2)) → Reps K H o ds (kvs.map (·.2)) →
    (mergeK kvs more).map (·.1) = (mergeD (kvs.map (·.1)) ds kd).1 ∧ Reps K H o (mergeD (kvs.map (·.1)) ds kd).2 ((mergeK kvs more).map (·.2))
  | [], more, kvs, ds, nd, e, _, r => by
    cases more with
    | nil => exact ⟨rfl, r⟩
    | cons _ _ => cases e
  | (k, v) :: kd, more, kvs, ds, nd, e, rm, r => by
    cases more with
    | nil => cases e
    | cons p more =>
      obtain ⟨e1, e2⟩ := List.cons.inj (show p.1 :: more.map (·.1) = k :: kd.map (·.1) from e)
      obtain ⟨y, ys, e3, ry, rys⟩ := rm
      obtain ⟨rfl, rfl⟩ := List.cons.inj (show p.2 :: more.map (·.2) = y :: ys from e3)
      obtain ⟨p1, p2⟩ := dput_rep (k := p.1) nd r ry
      have nd2 : ((putK kvs p.1 p.2).map (·.1)).Nodup := by rw [p1]; exact (dputK_nodup nd).1
      have q := merge_rep (kd := kd) (more := more) nd2 e2 rys p2
      subst e1
      rw [p1] at q
      exact q
def kvOf (k : List Key → List D → M D) (ps : List (D × D)) : M D := match keysD ps with
  | some kd => k (mergeD [] [] kd).1 (mergeD [] [] kd).2
  | none => M.stuck
def dDic (fs : List (Den × Den)) : Den := fun ρ => guardM (decide (fs.length ≤ 15)) (noX (denPairs fs ρ) >>= kvOf fun ks ds => pure (.dic ks ds))
/-- a dict of one's own -/
def dDicOwn (fs : List (Den × Den)) : Den := fun ρ => guardM (decide (fs.length ≤ 15)) (noX (denPairs fs ρ) >>= kvOf fun ks ds => M.alloc (.dic ks ds))
/-- a reserved address is empty again -/
theorem StOk.hole {p : Addr} {z : List Addr} (s : StOk K H o st) (hz : o.z = p :: z) (hp : p ∉ z) : StOk K (fun a => if a = p then none else H a) { o with z := z } st ∧ LeR K H o (fun a => if a = p then none else H a) { o with z := z } := by
  have hm : p ∈ o.z := by rw [hz]; exact List.mem_cons_self
  have hs : ∀ a ∈ z, a ∈ o.z := fun a q => by rw [hz]; exact List.mem_cons_of_mem _ q
  have r1 : LeR K H o (fun a => if a = p then none else H a) o := fun d v r => Rep.avoid hm (fun b hb => by show (if b = p then none else H b) = H b; rw [if_neg hb]) d v r
  have r2 := r1.trans (LeR.unhold (K := K) (H := fun a => if a = p then none else H a) hs)
  refine ⟨⟨s.len, s.nd, fun a ha => ?_, fun n c e => (s.cell n c e).mono r2 fun a w e1 e2 => ?_⟩, r2⟩
  · obtain ⟨⟨w, e⟩, n⟩ := s.zt a (hs a ha)
    exact ⟨⟨w, by show (if a = p then none else H a) = _; rw [if_neg (fun q => hp (by rw [← q]; exact ha))]; exact e⟩, n⟩
  · have : a ≠ p := fun q => (s.zt p hm).2 (by rw [← q]; exact List.mem_of_getElem? e1)
    show (if a = p then none else H a) = _
    rw [if_neg this]; exact e2
theorem denPairs_len : ∀ (fs : List (Den × Den)) {ρ : Env} {st : Store} {Q : List (D × D) → Store → Prop} {Z : Exn → Store → Prop}, wpR (denPairs fs ρ st) Q Z → wpR (denPairs fs ρ st) (fun ps st' => ps.length = fs.length ∧ Q ps st') Z
  | [], _, _, _, _, h => ⟨rfl, h⟩
  | (k, v) :: r, ρ, st, Q, Z, h => wpR.bind.mpr ((wpR.bind.mp h).mono (fun x st1 h1 => wpR.bind.mpr ((wpR.bind.mp h1).mono (fun y st2 h2 => wpR.bind.mpr ((denPairs_len r (wpR.bind.mp h2)).mono (fun ps st3 h3 => ⟨by rw [List.length_cons, List.length_cons, h3.1], h3.2⟩) fun _ _ x => x)) fun _ _ x => x)) fun _ _ x => x)
theorem disp_core {fs : List (Den × Den)} {σ : L2.St} {H : Hp} {o : Lo} {st : Store} {ρ : Env} {Q : VK} {k : List Key → List D → M D} (he : EnvOk K H o ρ σ) (hs : StOk K H o st)
    (h : wpR ((noX (denPairs fs ρ) >>= kvOf k) st) (VOk K H o Q) (XOk K E H o)) (hlen : fs.length ≤ 15)
    (fin : ∀ (p : Addr) (H3 : Hp) (o3 : Lo) (st3 : Store) (kvs : List (Key × V)) (ds : List D), H3 p = none → StOk K H3 o3 st3 → Reps K H3 o3 ds (kvs.map (·.2)) →
      wpR (k (kvs.map (·.1)) ds st3) (VOk K H3 o3 Q) (XOk K E H3 o3) → Q (.ref p) (upd H3 p (.dK kvs))) : tDisp (fs.map fun p => (tD K E p.1, tD K E p.2)) σ H Q := by
  intro p hp
  have l0 : LeR K H o (upd H p (.dK [])) (o.hold p) := LeR.hold hp
  have lc0 : Lc H o (upd H p (.dK [])) (o.hold p) := Lc.hold hp
  have np : some p ∉ o.l := (hs.avOf hp).1
  have nz : p ∉ o.z := (hs.avOf hp).2
  have h1 := denPairs_len fs (noX_wp (Z' := XOk K E (upd H p (.dK [])) (o.hold p)) (wpR.bind.mp h))
  refine tPairs_of (E := E) fs (he.mono l0) (hs.hold hp) (wpR.mono h1 (fun ps st2 h2 vs H2 o2 l2 s2 r2 => ?_) fun e st2 x => x)
  obtain ⟨hpl, h2⟩ := h2
  have h3 : wpR ((match keysD ps with | some kd => k (mergeD [] [] kd).1 (mergeD [] [] kd).2 | none => M.stuck) st2) (VOk K H o Q) (XOk K E H o) := h2
  cases q : keysD ps with
  | none => rw [q] at h3; exact False.elim h3
  | some kd =>
    rw [q] at h3
    obtain ⟨kvs, e1, e2, e3, e4⟩ := keysD_rep q r2
    obtain ⟨hk, nk⟩ := l2.keep p _ (show upd H p (.dK []) p = some (.dK []) from upd_same) np
    refine ⟨hk, kvs, e1, by rw [e2, hpl]; exact hlen, ?_⟩
    obtain ⟨s3, r3⟩ := s2.hole (p := p) (z := o.z) l2.z nz
    obtain ⟨m1, m2⟩ := merge_rep (K := K) (H := H2) (o := o2) (kd := kd) (more := kvs) (kvs := []) (ds := []) List.nodup_nil e3 e4 rfl
    have lc2 := lc0.trans l2.toLc
    have le3 : Le H o (fun a => if a = p then none else H2 a) { o2 with z := o.z } := ⟨⟨fun a u e n => by
      obtain ⟨g1, g2⟩ := lc2.keep a u e n
      exact ⟨by show (if a = p then none else H2 a) = _; rw [if_neg (ne_of_none e hp)]; exact g1, g2⟩, lc2.loc, lc2.x⟩, rfl⟩
    have eH : upd H2 p (.dK (mergeK [] kvs)) = upd (fun a => if a = p then none else H2 a) p (.dK (mergeK [] kvs)) := by
      funext a
      by_cases ha : a = p
      · subst ha; rw [upd_same, upd_same]
      · rw [upd_ne ha, upd_ne ha, if_neg ha]
    rw [eH]
    refine fin p _ _ st2 (mergeK [] kvs) (mergeD [] [] kd).2 (if_pos rfl) s3 (r3.reps m2) ?_
    rw [m1]
    exact wpR.mono h3 (fun _ _ x => x.mono le3) fun _ _ x => x.mono le3
def PPairs (X : Cx) (E : XK) (pos : Pos) (keys : List (Option Expr)) (values : List Expr) (fs : List (Den × Den)) : Prop := PPs X pos keys values (fs.map fun p => (tD X.K E p.1, tD X.K E p.2))
theorem pp_nil {pos : Pos} : PPairs X E pos [] [] [] := pps_nil
theorem pp_cons {pos : Pos} {k v : Expr} {ks : List (Option Expr)} {vs : List Expr} {fk fv : Den} {fs : List (Den × Den)} (hk : PD X E k fk) (hv : PD X E v fv) (hr : PPairs X E pos ks vs fs) : PPairs X E pos (some k :: ks) (v :: vs) ((fk, fv) :: fs) := pps_cons hk hv hr
theorem pd_dic {pos : Pos} {keys : List (Option Expr)} {values : List Expr} {fs : List (Den × Den)} (h : PPairs X E pos keys values fs) (hall : keys.all (·.isSome) = true) (hl : keys.length = values.length) (h0 : keys ≠ []) (h15 : keys.length ≤ 15) : PD X E (.Dict keys values pos) (dDic fs) :=
  PE.imp (pe_disp h hall hl h0 h15) fun σ H Q h => by
    obtain ⟨o, ρ, st, he, hs, h⟩ := h
    obtain ⟨h15, h⟩ := guardM_wp h
    exact disp_core he hs h (of_decide_eq_true h15) fun p H3 o3 st3 kvs ds hp s3 r3 h4 => (show VOk X.K H3 o3 Q (.dic (kvs.map (·.1)) ds) st3 from h4) _ _ o3 (Le.new hp) (s3.new hp) (Rep.newDic s3 hp r3)
theorem pd_dicOwn {pos : Pos} {keys : List (Option Expr)} {values : List Expr} {fs : List (Den × Den)} (h : PPairs X E pos keys values fs) (hall : keys.all (·.isSome) = true) (hl : keys.length = values.length) (h0 : keys ≠ []) (h15 : keys.length ≤ 15) : PD X E (.Dict keys values pos) (dDicOwn fs) :=
  PE.imp (pe_disp h hall hl h0 h15) fun σ H Q h => by
    obtain ⟨o, ρ, st, he, hs, h⟩ := h
    obtain ⟨h15, h⟩ := guardM_wp h
    exact disp_core he hs h (of_decide_eq_true h15) fun p H3 o3 st3 kvs ds hp s3 r3 h4 => ok_alloc h4 s3 hp ⟨p, kvs, rfl, upd_same, rfl, (Le.alloc hp).rep.reps r3⟩
def dDic0 : Den := fun _ => M.alloc (.dic [] [])
theorem pd_dic0 {pos : Pos} : PD X E (.Dict [] [] pos) dDic0 := PE.imp pe_dnewK fun σ H Q h => by
  obtain ⟨o, ρ, st, he, hs, h⟩ := h
  exact fun p hp => ok_alloc h hs hp ⟨p, [], rfl, upd_same, rfl, rfl⟩
end
end MP

namespace MP
open PySem L2
open PySem.Spec PyProof.Rows

/-! ## defs -/
def runDef (n : Nat) (body : DenS) (ds : List D) : M D := body (ds.map some ++ List.replicate (n - ds.length) none) >>= fun r => match r with
  | .nx _ => pure .non
  | .rt d => pure d
  | .bk _ => M.stuck
  | .ct _ => M.stuck
abbrev CF (P : Program) (w : World) (K : Frag) (mg : Str → Option Value) (base : Heap) (N : List Str) (qual : Str) (scope : Scope) (f : Addr) (cdv : Value) (A : Around) (outer : List PySem.Env) (s : Shared) (H : Hp) (E : XK) : Cx :=
  cxOf (L2.CX P w) P w K mg base N qual scope f cdv A outer s H E
structure Cok (X : Cx) (E : XK) (k : Nat) : Prop where
  room : Room k X.A
  pass : Passes (L2.CX X.prog X.w) X E
  takes : Takes X (fun cls d _ H => E cls d H)
section
variable {P : Program} {w : World} {K : Frag} {mg : Str → Option Value} {base : Heap} {N ps : List Str} {x qual : Str} {params : Arguments} {body : List Stmt} {scope : Scope} {f : Addr} {fd : FuncData} {k : Nat} {X : Cx} {E : XK}
theorem Cok.units (c : Cok X E k) : X.A.units + 64 < cLine := c.room.units
theorem Cok.units5 (c : Cok X E k) : X.A.units + 65 < cLine := by have := c.room.un; omega
theorem Cok.units1 (c : Cok X E k) : X.A.units + 1 < cLine := by have := c.room.un; omega
theorem Cok.blk {s : Shared} {H : Hp} {sc : Scope} {ce : PySem.Env} {fp : List Addr} (c : Cok X E k) : Cok (X.blk s H sc ce fp) EX0 k :=
  ⟨c.room, fun pins σ H s e s' I cx => by
    obtain ⟨a, B, H', cls, d, _, _, _, _, _, _, _, hE⟩ := cx
    exact False.elim hE, fun u s' x => by
    obtain ⟨_, _, _, _, _, _, _, _, _, _, _, _, _, _, _, _, hE⟩ := x
    exact False.elim hE⟩
theorem Cok.of {cdv : Value} {A : Around} {outer : List PySem.Env} {s : Shared} {H : Hp} (hr : Room k (A.deeper (envOfC qual scope s.heap.objs.size f cdv))) : Cok (CF P w K mg base N qual scope f cdv A outer s H E) E k :=
  ⟨hr, passes_call (takes_of rfl rfl rfl rfl) fun _ _ _ _ h => h, takes_of rfl rfl rfl rfl⟩
theorem own_cf {cdv : Value} {A : Around} {outer : List PySem.Env} {s : Shared} {H : Hp} : PassesOwn (model (CF P w K mg base N qual scope f cdv A outer s H E).prog (CF P w K mg base N qual scope f cdv A outer s H E).w) (CF P w K mg base N qual scope f cdv A outer s H E).A (CF P w K mg base N qual scope f cdv A outer s H E).env (CF P w K mg base N qual scope f cdv A outer s H E).xe := passes_of rfl
theorem start_env {H : Hp} {o : Lo} {ds : List D} {vs : List V} (r : Reps K H o ds vs) (hl : ds.length ≤ N.length) : EnvOk K H o (ds.map some ++ List.replicate (N.length - ds.length) none) (L2.start N vs) := by
  have e := r.length
  refine ⟨by unfold L2.start; simp [e], fun i d h => ?_⟩
  have hi : i < ds.length := by
    by_cases hi : i < ds.length
    · exact hi
    · rw [List.getElem?_append_right (by simpa using hi), List.getElem?_replicate] at h
      split at h <;> cases h
  rw [List.getElem?_append_left (by simpa using hi), List.getElem?_map] at h
  obtain ⟨d', h1, h2⟩ := Option.map_eq_some_iff.mp h
  cases h2
  obtain ⟨v, hv, rv⟩ := r.get h1
  refine ⟨v, ?_, rv⟩
  unfold L2.start
  rw [List.getElem?_append_left (by simpa [e] using hi), List.getElem?_map, hv]
  rfl
theorem fn_ok {m : DenS} {np : Nat} (F : FunD K x qual params body scope [] [] f fd) (S : FnScope N ps scope) (hnp : ps.length = np)
    (h : ∀ (cdv : Value) (A : Around) (outer : List PySem.Env) (s : Shared) (H : Hp) (E : XK), Cok (CF P w K mg base N qual scope f cdv A outer s H E) E k → PDSs (CF P w K mg base N qual scope f cdv A outer s H E) E body m) :
    FnOk P w K mg base (L2.CX P w) (k + 1) f fd ps (spD K np (runDef N.length m)) := by
  refine F.ok S (fun vs H Q E q => ?_) fun cdv A outer s H vs Q E hr q => ?_
  · obtain ⟨o, ds, st, r, e, _⟩ := q
    rw [r.length, e, hnp]
  · obtain ⟨o, ds, st, r, e, so, hw⟩ := q
    have hle : ps.length ≤ N.length := by have := congrArg List.length S.pre; rw [List.length_take] at this; omega
    refine ⟨_, h cdv A outer s H E (.of hr), o, _, st, start_env r (by omega), so, ?_⟩
    refine (wpR.bind.mp hw).mono (fun r st' hq => ?_) fun _ _ z => z
    cases r with
    | nx ρ => exact fun σ' H' o' l s' e' => (show VOk K H o Q .non st' from hq) .non H' o' l s' rfl
    | rt d => exact hq
    | bk ρ => exact False.elim hq
    | ct ρ => exact False.elim hq
/-- a def by its meaning -/
structure Cal (P : Program) (w : World) (K : Frag) (mg : Str → Option Value) (base : Heap) (k : Nat) (x : Str) (np : Nat) (p : List D → M D) : Prop where
  ex : ∃ (f : Addr) (fd : FuncData) (ps : List Str), FnOk P w K mg base (L2.CX P w) k f fd ps (spD K np p) ∧ mg x = some (.ref f) ∧ PySem.W.keepIn K (.ref f) = true ∧ Binds K fd ps []
theorem Cal.mono {np j : Nat} {p : List D → M D} (c : Cal P w K mg base j x np p) (h : j ≤ k) : Cal P w K mg base k x np p :=
  let ⟨f, fd, ps, F, g, kp, b⟩ := c.ex; ⟨f, fd, ps, F.mono h, g, kp, b⟩
/-- what a def of the text is known by -/
structure Dn (K : Frag) (mg : Str → Option Value) (x qual : Str) (params : Arguments) (body : List Stmt) (scope : Scope) (ps : List Str) : Prop where
  ex : ∃ (f : Addr) (fd : FuncData), FunD K x qual params body scope [] [] f fd ∧ mg x = some (.ref f) ∧ Binds K fd ps []
theorem Dn.cal {m : DenS} {np : Nat} (d : Dn K mg x qual params body scope ps) (S : FnScope N ps scope) (hnp : ps.length = np)
    (h : ∀ (f : Addr) (cdv : Value) (A : Around) (outer : List PySem.Env) (s : Shared) (H : Hp) (E : XK), Cok (CF P w K mg base N qual scope f cdv A outer s H E) E k → PDSs (CF P w K mg base N qual scope f cdv A outer s H E) E body m) :
    Cal P w K mg base (k + 1) x np (runDef N.length m) :=
  let ⟨f, fd, F, g, b⟩ := d.ex
  ⟨f, fd, ps, fn_ok F S hnp (h f), g, F.kp, b⟩
theorem Dn.never (d : Dn K mg x qual params body scope ps) {np : Nat} : Cal P w K mg base k x np (fun _ => M.stuck) :=
  let ⟨f, fd, F, g, b⟩ := d.ex
  ⟨f, fd, ps, ⟨fun vs H Q E q => by obtain ⟨_, _, _, _, _, _, hw⟩ := q; exact False.elim hw, fun A outer s H args us vs Q E hr e hb r q => by obtain ⟨_, _, _, _, _, _, hw⟩ := q; exact False.elim hw⟩, g, F.kp, b⟩
/-- a call -/
theorem pd_callU {j np : Nat} {p : List D → M D} {e : Expr} {es : List Expr} {fs : DenL} {pn pos : Pos} (c : Cok X E k) (F : Cal X.prog X.w X.K X.mg X.base j x np p) (hj : j ≤ k) (hg : Gl X x) (ha : PL X E (e :: es) fs)
    (hdb : (x == ("__debug__" : Str)) = false) (he : starEach (e :: es) X.env = (false, eval e X.env) :: starEach es X.env) (hpl : (backTo pos (starEach es X.env)).any (·.1) = false) :
    PD X E (.Call (.Name x pn) (e :: es) [] pos) (dCall (arity np p) fs) :=
  let ⟨f, fd, ps, F, hm, hk, hb⟩ := (F.mono hj).ex
  pd_call F c.room hg hm hk hb c.pass ha hdb he hpl
theorem pd_callU0 {j np : Nat} {p : List D → M D} {pn pos : Pos} (c : Cok X E k) (F : Cal X.prog X.w X.K X.mg X.base j x np p) (hj : j ≤ k) (hg : Gl X x) (hdb : (x == ("__debug__" : Str)) = false) :
    PD X E (.Call (.Name x pn) [] [] pos) (dCall (arity np p) dNil) :=
  let ⟨f, fd, ps, F, hm, hk, hb⟩ := (F.mono hj).ex
  pd_call0 F c.room hg hm hk hb c.pass hdb

/-! ## a, b = e, f -/
def dPar (js : List Nat) (fs : DenL) : DenS := fun ρ => fs ρ >>= fun ds => bif ds.length == js.length then pure (.nx ((js.zip ds).foldl (fun r p => r.set p.1 (some p.2)) ρ)) else M.stuck
theorem dp_par2 {i j : Nat} {x y : Str} {a b : Expr} {fs : DenL} {px py pt pos : Pos} {kt k2 : Nat} {pt2 : Pos} (hc : X.calm = true) (hN : X.N.Nodup) (hi : X.N[i]? = some x) (hj : X.N[j]? = some y) (hij : i ≠ j)
    (hx : X.env.scope.names.lookup x = some .local) (hy : X.env.scope.names.lookup y = some .local) (ha : PL X E [a, b] fs)
    (hw : swappedStores [.Tuple [.Name x px, .Name y py] kt pt] (.Tuple [a, b] k2 pt2) X.env = pure (some [x, y]))
    (hs : swapsWithSole [.Tuple [.Name x px, .Name y py] kt pt] (.Tuple [a, b] k2 pt2) pos.line X.env = pure false) :
    PDS X E (.Assign [.Tuple [.Name x px, .Name y py] kt pt] (.Tuple [a, b] k2 pt2) pos) (dPar [i, j] fs) := PS.imp (ps_par hc hN hi hj hij hx hy ha hw hs) fun D σ H h => by
  obtain ⟨o, ρ, st, he, so, h⟩ := h
  refine ⟨o, ρ, st, he, so, (wpR.bind.mp h).mono (fun ds st1 h1 vs H1 o1 l s1 r => ?_) fun _ _ z => z⟩
  match ds, r, h1 with
  | [], _, h1 => exact False.elim h1
  | [_], _, h1 => exact False.elim h1
  | _ :: _ :: _ :: _, _, h1 => exact False.elim h1
  | [d, e], r, h1 =>
    obtain ⟨v, u, ev, rv, ru⟩ := r.two_of
    exact ⟨v, u, ev, (show EOk X.K H o D.nx ((ρ.set i (some d)).set j (some e)) st1 from h1) _ H1 o1 l s1 (((he.mono l.rep).set i rv).set j ru)⟩
end
end MP

namespace MP
open PySem L2
open PySem.Spec PyProof.Rows

/-! ## short names for what a program prints -/
@[simp] abbrev d1 (p : D → M D) (f : Den) : Den := fun ρ => f ρ >>= fun x => p x
@[simp] abbrev d2 (p : D → D → M D) (f g : Den) : Den := fun ρ => f ρ >>= fun x => g ρ >>= fun y => p x y
@[simp] abbrev oNone : DenO := fun _ => pure none
@[simp] abbrev oSome (f : Den) : DenO := fun ρ => f ρ >>= asI
@[simp] abbrev dSl (f : Den) (l h : DenO) : Den := fun ρ => f ρ >>= fun x => l ρ >>= fun a => h ρ >>= fun b => opSl a b x
@[simp] abbrev bVal (f : Den) : DenB := fun ρ => f ρ >>= asB
@[simp] abbrev bTrue : DenB := fun _ => pure true
@[simp] abbrev iVal (f : Den) : DenI := fun ρ => f ρ >>= itemsOf
@[simp] abbrev iRange1 (fs : DenL) : DenI := fun ρ => fs ρ >>= rng1
@[simp] abbrev iRange2 (fs : DenL) : DenI := fun ρ => fs ρ >>= rng2
def dNever : DenS := fun _ => M.stuck
section
variable {X : Cx} {E : XK} {x : Str} {pos : Pos}
theorem gl_ (h : X.env.kindOf x = some .globalImplicit) : Gl X x := h
theorem ps_never {s : Stmt} : PDS X E s dNever := ⟨fun _ _ _ _ _ _ h => by
  obtain ⟨o, ρ, st, _, _, h⟩ := h
  exact False.elim h⟩
theorem pd_non {j : Nat} : PD X E (.Constant .none j pos) (dC .non) := pd_const pe_non fun _ _ => rfl
theorem pd_bl {b : Bool} {j : Nat} : PD X E (.Constant (.bool b) j pos) (dC (.bl b)) := pd_const pe_bl fun _ _ => rfl
theorem pd_int {i : Int} {j : Nat} : PD X E (.Constant (.int i) j pos) (dC (.int i)) := pd_const pe_int fun _ _ => rfl
theorem pd_str {z : Str} {j : Nat} : PD X E (.Constant (.str z) j pos) (dC (.str z)) := pd_const pe_str fun _ _ => rfl
/-- a name's slot -/
def vB (N : List Str) (sc : Scope) (x : Str) (i : Nat) : Bool := decide (N[i]? = some x) && ((match sc.names.lookup x with
  | some .local => true
  | some .cell => true
  | some .free => true
  | _ => false) && (!(x == ("__debug__" : Str)) && !(x == ("__classdict__" : Str))))
theorem pv_ {i : Nat} (h : vB X.N X.env.scope x i = true) : PD X E (.Name x pos) (dVar i) := by
  unfold vB at h
  simp only [Bool.and_eq_true, Bool.not_eq_true'] at h
  obtain ⟨h1, h2, h3, h4⟩ := h
  refine pd_var (of_decide_eq_true h1) ?_ h3 h4
  unfold Vis
  split at h2
  · exact .inl (by assumption)
  · exact .inr (.inl (by assumption))
  · exact .inr (.inr (by assumption))
  · cases h2
end
theorem bb_isinstance : bootBuiltins "isinstance" = some (.builtin "isinstance") := by decide +kernel
theorem bb_len : bootBuiltins "len" = some (.builtin "len") := by decide +kernel
theorem bb_abs : bootBuiltins "abs" = some (.builtin "abs") := by decide +kernel
theorem bb_min : bootBuiltins "min" = some (.builtin "min") := by decide +kernel
theorem bb_max : bootBuiltins "max" = some (.builtin "max") := by decide +kernel
theorem bb_all : bootBuiltins "all" = some (.builtin "all") := by decide +kernel
theorem bb_any : bootBuiltins "any" = some (.builtin "any") := by decide +kernel
theorem bb_sum : bootBuiltins "sum" = some (.builtin "sum") := by decide +kernel
theorem bb_sorted : bootBuiltins "sorted" = some (.builtin "sorted") := by decide +kernel
theorem bb_int : bootBuiltins "int" = some (.type "int") := by decide +kernel
theorem bb_bool : bootBuiltins "bool" = some (.type "bool") := by decide +kernel
theorem bb_str : bootBuiltins "str" = some (.type "str") := by decide +kernel
theorem bb_list : bootBuiltins "list" = some (.type "list") := by decide +kernel
theorem bb_dict : bootBuiltins "dict" = some (.type "dict") := by decide +kernel
theorem bb_tuple : bootBuiltins "tuple" = some (.type "tuple") := by decide +kernel
abbrev plain_list := PySem.F.plainAttrs_list
abbrev plain_str := PySem.F.plainAttrs_str
abbrev slot_append := PySem.F.slot_list_append
abbrev slot_join := PySem.F.slot_str_join
abbrev slot_split := PySem.F.slot_str_split
abbrev ty_append := PySem.F.type_list_append
abbrev ty_join := PySem.F.type_str_join
abbrev ty_split := PySem.F.type_str_split

/-! ## names of the module that hold values -/
/-- a value that stands in the ground -/
def Grd (K : Frag) (d : D) (v : V) : Prop := ∀ H o, Rep K H o d v
structure GCon (K : Frag) (mg : Str → Option Value) (x : Str) (d : D) : Prop where
  ex : ∃ (u : Value) (v : V), mg x = some u ∧ RelV v u ∧ Grd K d v
theorem pd_glob {X : Cx} {E : XK} {x : Str} {d : D} {pos : Pos} (hg : Gl X x) (c : GCon X.K X.mg x d) (hd : (x == ("__debug__" : Str)) = false := by rfl) : PD X E (.Name x pos) (dC d) :=
  let ⟨u, v, hm, r, g⟩ := c.ex
  pd_const (pe_glob hg hm r hd) g
/-- a dict that stands in the ground -/
structure KDs (P : Program) (w : World) (K : Frag) (mg : Str → Option Value) (x : Str) (kd : List (Key × D)) : Prop where
  ex : ∃ (a : Addr) (kvs : List (Key × V)), mg x = some (.ref a) ∧ (a == sysModules) = false ∧ kvs.length ≤ big ∧ kvs.map (·.1) = kd.map (·.1) ∧ (∀ H o, Reps K H o (kd.map (·.2)) (kvs.map (·.2))) ∧
    ∀ h : Heap, K.In h → ∃ vs, KV kvs vs ∧ h.DictOf (mixKind P w) a vs
section
variable {X : Cx} {E : XK} {x y : Str} {kd : List (Key × D)} {p p1 pos : Pos}
def dKdict (kd : List (Key × D)) : Den := fun _ => pure (.dic (kd.map (·.1)) (kd.map (·.2)))
def keyV : Key → D
  | .inl i => .int i
  | .inr s => .str s
def dKlist (kd : List (Key × D)) : Den := fun _ => pure (.lst (kd.map fun q => keyV q.1))
theorem Reps.keys {K : Frag} {H : Hp} {o : Lo} : ∀ ks : List Key, Reps K H o (ks.map keyV) (ks.map kV)
  | [] => rfl
  | .inl i :: ks => ⟨_, _, rfl, rfl, Reps.keys ks⟩
  | .inr i :: ks => ⟨_, _, rfl, rfl, Reps.keys ks⟩
theorem call_copyK {a : Addr} {kvs : List (Key × V)} (hs : (a == sysModules) = false) (hl : kvs.length ≤ big) (hD : ∀ h : Heap, X.K.In h → ∃ vs, KV kvs vs ∧ h.DictOf (mixKind X.prog X.w) a vs) :
    CallR X (.type "dict") (fun xs H Q => xs = [.ref a] ∧ ∀ l, H l = none → Q (.ref l) (upd H l (.dK kvs))) := by
  intro pins s σ H xs us Q I r q
  obtain ⟨rfl, q⟩ := q
  obtain ⟨u, rfl, rx⟩ := vals1 r
  cases rx
  obtain ⟨vs, rel, dd⟩ := hD _ I.kIn
  have z : kvs.length ≤ sizeLine := Nat.le_trans hl big_le
  refine kt_call_dict hs dd (by rw [← rel.length]; exact z) fun h' d' g => ?_
  have hm : (s.heap.objs.size == sysModules) = false := beq_eq_false_iff_ne.mpr (Nat.ne_of_gt I.big)
  refine ⟨.ref s.heap.objs.size, upd H s.heap.objs.size (.dK kvs), I.laid (t' := s.toks) (fun b u e => ?_) (Nat.le_refl _) (show ObjOk X.prog X.w _ _ _ (.dK kvs) from ⟨z, hm, vs, rel, d'⟩), rfl, q _ (I.hok.fresh (Nat.le_refl _))⟩
  exact (g.2 b (Nat.ne_of_lt (Heap.lt_size e))).trans (Heap.get?_push_of_some _ e)
theorem call_keysK (hc : X.calm = true) {a : Addr} {kvs : List (Key × V)} (hs : (a == sysModules) = false) (hl : kvs.length ≤ big) (hD : ∀ h : Heap, X.K.In h → ∃ vs, KV kvs vs ∧ h.DictOf (mixKind X.prog X.w) a vs) :
    CallR X (.type "list") (fun xs H Q => xs = [.ref a] ∧ ∀ l, H l = none → Q (.ref l) (upd H l (.lst (kvs.map fun kv => kV kv.1)))) := by
  intro pins s σ H xs us Q I r q
  obtain ⟨rfl, q⟩ := q
  obtain ⟨u, rfl, rx⟩ := vals1 r
  cases rx
  obtain ⟨vs, rel, dd⟩ := hD _ I.kIn
  have z : kvs.length ≤ sizeLine := Nat.le_trans hl big_le
  obtain ⟨ep, hat⟩ := dd.dictAt
  have ek : (kvs.map fun kv => kV kv.1) = vs.map fun z => kV z.1 := by
    have e := congrArg (List.map kV) rel.keys
    rw [List.map_map, List.map_map] at e
    exact e
  refine PySem.W.kdl_call (PySem.W.kdl_dict (knd := mixKind X.prog X.w) (kvs := vs) (ep := ep) hs) (I.ok.hd hc) hat (by rw [← rel.length]; exact z) fun h' tk acc c' hk hD hacc => ?_
  have hv : Vals (vs.map fun z => kV z.1) acc.toList := keys_at (by rw [Array.length_toList]; exact hacc.1) fun j v e => hacc.2 j v (by rw [← Array.getElem?_toList]; exact e)
  refine ⟨.ref s.heap.objs.size, upd H s.heap.objs.size (.lst (kvs.map fun kv => kV kv.1)), I.laid (t' := tk) hk (Nat.le_refl _) ?_, rfl, q _ (I.hok.fresh (Nat.le_refl _))⟩
  exact (show ObjOk X.prog X.w _ _ _ (.lst (kvs.map fun kv => kV kv.1)) from ⟨by rw [List.length_map]; exact z, acc.toList, c', by rw [ek]; exact hv, by rw [Array.toArray_toList]; exact hD⟩)
theorem pd_Kdict (hg : Gl X x) (hm : X.mg x = none) (hv : bootBuiltins x = some (.type "dict")) (hg2 : Gl X y) (c : KDs X.prog X.w X.K X.mg y kd) (hn : x ≠ "__name__") (hdb : (x == ("__debug__" : Str)) = false) (hdb2 : (y == ("__debug__" : Str)) = false) : PD X E (.Call (.Name x p) [.Name y p1] [] pos) (dKdict kd) := by
  obtain ⟨a, kvs, hy, hs, hl, e1, e2, hD⟩ := c.ex
  refine PE.imp (pe_callTy (call_copyK hs hl hD) hg hm hv (pa_cons (pe_glob hg2 hy (v := .ref a) rfl hdb2) pa_nil) hn hdb rfl rfl) fun σ H Q h => ?_
  obtain ⟨o, ρ, st, he, so, h⟩ := h
  refine ⟨rfl, fun l hl => ?_⟩
  have q := Rep.newDic so hl (kvs := kvs) (e2 _ _)
  rw [e1] at q
  exact (show VOk X.K H o Q (.dic (kd.map (·.1)) (kd.map (·.2))) st from h) _ _ o (Le.new hl) (so.new hl) q
theorem pd_Klist (hg : Gl X x) (hm : X.mg x = none) (hv : bootBuiltins x = some (.type "list")) (hc : X.calm = true) (hg2 : Gl X y) (c : KDs X.prog X.w X.K X.mg y kd) (hn : x ≠ "__name__") (hdb : (x == ("__debug__" : Str)) = false) (hdb2 : (y == ("__debug__" : Str)) = false) : PD X E (.Call (.Name x p) [.Name y p1] [] pos) (dKlist kd) := by
  obtain ⟨a, kvs, hy, hs, hl, e1, e2, hD⟩ := c.ex
  refine PE.imp (pe_callTy (call_keysK hc hs hl hD) hg hm hv (pa_cons (pe_glob hg2 hy (v := .ref a) rfl hdb2) pa_nil) hn hdb rfl rfl) fun σ H Q h => ?_
  obtain ⟨o, ρ, st, he, so, h⟩ := h
  refine ⟨rfl, fun l hl => ?_⟩
  refine ok_newLst (ds := kd.map fun q => keyV q.1) (show VOk X.K H o Q (.lst (kd.map fun q => keyV q.1)) st from h) so ?_ hl
  have e3 : (kd.map fun q => keyV q.1) = (kd.map (·.1)).map keyV := by rw [List.map_map]; rfl
  have e4 : (kvs.map fun q => kV q.1) = (kvs.map (·.1)).map kV := by rw [List.map_map]; rfl
  rw [e3, e4, e1]
  exact Reps.keys _
end
end MP

namespace MP
open PySem L2
open PySem.Spec PyProof.Rows

/-! ## sum(x): of a tuple too -/
section
variable {prog : Program} {w : World} {A : Around} {E : Value → Shared → Prop} {s : Shared} {l : Addr} {its : List Value} {ns : List Int} {Q : Value → Shared → Prop}
theorem sum_tup (hh : A.handled = none) (hl : s.heap.IsTuple l its.toArray) (hi : IntsAre its ns)
    (h : ∀ h' tk t', (∀ b o, s.heap.get? b = some o → h'.get? b = some o) → Q (.int ns.sum t') { s with heap := h', toks := tk }) : wpAny (model prog w) A (call (.builtin "sum") [.ref l]) Q E s := by
  obtain ⟨xs, e⟩ := hi.allInts.items
  have hn : numsOf (intItems xs).toList = ns := by rw [← e]; exact hi.numsOf
  rw [nums_intItems] at hn
  rw [e] at hl
  have hlt : l < s.heap.objs.size := by obtain ⟨_, z, _⟩ := hl; exact Heap.lt_size z
  refine call_sum_walkG (wpAny_pyIter_tuple hl ?_)
  refine ⟨_, [_, l], [_], _, _, _, numAt xs, rfl, Walks.tuple (A := A.in1) hh _ l (Nat.ne_of_lt hlt) (intItems xs), ⟨⟨_, Heap.get?_push_size _ rfl, rfl, rfl⟩, hl.push _⟩, fun b hb => ?_, (fun _ _ => intItems_at), fun h' tk t' hk => ?_⟩
  · show b < (s.heap.push _).objs.size
    rw [Heap.size_push]
    rcases List.mem_cons.mp hb with rfl | hb
    · exact Nat.lt_succ_self _
    · rcases List.mem_cons.mp hb with rfl | hb
      · exact Nat.lt_succ_of_lt hlt
      · cases hb
  · have e2 : preSum (numAt xs) (intItems xs).size = ns.sum := by
      rw [show (intItems xs).size = xs.size by simp [intItems], preSum_eq, List.take_of_length_le (by simp), hn]
    rw [e2]
    refine h h' tk t' fun b o eo => hk b o (fun hm => ?_) (Heap.get?_push_of_some _ eo)
    rcases List.mem_cons.mp hm with e1 | hm
    · have := Heap.lt_size eo
      rw [e1] at this
      exact absurd this (Nat.lt_irrefl _)
    · cases hm
end
section
variable {X : Cx} {E : XK}
theorem cr_sumT (hc : X.calm = true) : CallR X (.builtin "sum") (fun vs H Q => ∃ (a : Addr) (ns : List Int), vs = [V.ref a] ∧ SqT X.K H a (ns.map V.int) ∧ Q (.int ns.sum) H) := by
  intro pins s σ H vs us Q I r h
  obtain ⟨a, ns, rfl, hs, q⟩ := h
  obtain ⟨its, rv, hl, _⟩ := I.tuple hs
  rw [Vals.ref1 r]
  exact sum_tup (I.ok.hd hc) (show s.heap.IsTuple a its.toArray from hl) rv.ints fun h' tk t' hk => ⟨.int _, H, I.kept hk, ⟨_, rfl⟩, q⟩
def biSumA : D → M D
  | .lst ds => sumL ds
  | .tup ds => sumL ds
  | _ => M.stuck
theorem cd_sum (hc : X.calm = true) : CallD X E (.builtin "sum") (on1 biSumA) := cd_on1 fun pins s σ H v us Q d o st I r r1 so h => by
  have key : ∀ ds, wpR (sumL ds st) (VOk X.K H o Q) (XOk X.K E H o) → ∃ ns : List Int, ds = ns.map D.int ∧ Q (.int ns.sum) H := fun ds h => by
    unfold sumL at h
    cases q : intsD ds with
    | none => rw [q] at h; exact False.elim h
    | some ns => rw [q] at h; exact ⟨ns, intsD_eq q, ok_flat h so rfl⟩
  cases d with
  | lst ds =>
    obtain ⟨a, ys, rfl, k1, _, q1⟩ := r1
    obtain ⟨ns, e, hq⟩ := key ds h
    subst e
    rw [q1.ints] at k1
    exact cr_sum hc pins s σ H _ us Q I r ⟨a, ns, rfl, SqL.of k1, hq⟩
  | tup ds =>
    obtain ⟨a, ys, rfl, k1, q1⟩ := r1
    obtain ⟨ns, e, hq⟩ := key ds h
    subst e
    rw [q1.ints] at k1
    exact cr_sumT hc pins s σ H _ us Q I r ⟨a, ns, rfl, tup_sq k1, hq⟩
  | _ => exact False.elim h
end
end MP

namespace MP
open PySem L2
open PySem.Spec PyProof.Rows
section
variable {X : Cx} {E : XK}
theorem Reps.three_of {K : Frag} {H : Hp} {o : Lo} {d e f : D} {vs : List V} (r : Reps K H o [d, e, f] vs) : ∃ u v w, vs = [u, v, w] ∧ Rep K H o d u ∧ Rep K H o e v ∧ Rep K H o f w := by
  obtain ⟨u, vs1, rfl, h1, r⟩ := r
  obtain ⟨v, w, rfl, h2, h3⟩ := Reps.two_of r
  exact ⟨u, v, w, rfl, h1, h2, h3⟩
theorem dp_par3 {i j l : Nat} {x y z : Str} {a b c : Expr} {fs : DenL} {px py pz pt pos : Pos} {kt k2 : Nat} {pt2 : Pos} (hc : X.calm = true) (hN : X.N.Nodup) (hi : X.N[i]? = some x) (hj : X.N[j]? = some y) (hl : X.N[l]? = some z) (hij : i ≠ j) (hil : i ≠ l) (hjl : j ≠ l)
    (hx : X.env.scope.names.lookup x = some .local) (hy : X.env.scope.names.lookup y = some .local) (hz : X.env.scope.names.lookup z = some .local) (ha : PL X E [a, b, c] fs)
    (hw : swappedStores [.Tuple [.Name x px, .Name y py, .Name z pz] kt pt] (.Tuple [a, b, c] k2 pt2) X.env = pure (some [x, y, z]))
    (hs : swapsWithSole [.Tuple [.Name x px, .Name y py, .Name z pz] kt pt] (.Tuple [a, b, c] k2 pt2) pos.line X.env = pure false) :
    PDS X E (.Assign [.Tuple [.Name x px, .Name y py, .Name z pz] kt pt] (.Tuple [a, b, c] k2 pt2) pos) (dPar [i, j, l] fs) := PS.imp (ps_par3 hc hN hi hj hl hij hil hjl hx hy hz ha hw hs) fun D σ H h => by
  obtain ⟨o, ρ, st, he, so, h⟩ := h
  refine ⟨o, ρ, st, he, so, (wpR.bind.mp h).mono (fun ds st1 h1 vs H1 o1 l1 s1 r => ?_) fun _ _ z => z⟩
  match ds, r, h1 with
  | [], _, h1 => exact False.elim h1
  | [_], _, h1 => exact False.elim h1
  | [_, _], _, h1 => exact False.elim h1
  | _ :: _ :: _ :: _ :: _, _, h1 => exact False.elim h1
  | [d, e, f], r, h1 =>
    obtain ⟨v, u, t, ev, rv, ru, rt⟩ := r.three_of
    exact ⟨v, u, t, ev, (show EOk X.K H o D.nx (((ρ.set i (some d)).set j (some e)).set l (some f)) st1 from h1) _ H1 o1 l1 s1 ((((he.mono l1.rep).set i rv).set j ru).set l rt)⟩
/-! ## d.get(k, x) -/
def getK (z : D) (k : D) (p : List Key × List D) : M D := match keyD k with
  | some q => pure ((dget p.1 p.2 q).getD z)
  | none => M.stuck
def dGet2 (f g h : Den) : Den := fun ρ => f ρ >>= fun x => dicOf x >>= fun _ => g ρ >>= fun k => h ρ >>= fun z => dicOf x >>= getK z k
theorem pd_get2 {o e f : Expr} {apos cpos : Pos} {fo fe ff : Den} (hu : X.A.units + 1 < cLine) (ho : PD X E o fo) (he : PD X E e fe) (hf : PD X E f ff) (m : M2 X o "get" apos e f cpos) :
    PD X E (.Call (.Attribute o "get" apos) [e, f] [] cpos) (dGet2 fo fe ff) := PE.imp (pe_dget2 hu ho he hf m) fun σ H Q h => by
  obtain ⟨o, ρ, st, he, so, h⟩ := h
  refine ⟨o, ρ, st, he, so, ?_⟩
  refine (wpR.bind.mp h).mono (fun x st1 h1 v H1 o1 l1 s1 r1 => ?_) fun _ _ z => z
  obtain ⟨ks, ds, a, kvs, rfl, e1, e2, e3, h1⟩ := dicOf_wp r1 s1 (wpR.bind.mp h1)
  refine ⟨a, rfl, .inl ⟨kvs, .inl e1⟩, o1, ρ, st1, he.mono l1.rep, s1, ?_⟩
  refine (wpR.bind.mp h1).mono (fun k st2 h2 w H2 o2 l2 s2 r2 => ⟨o2, ρ, st2, (he.mono l1.rep).mono l2.rep, s2, ?_⟩) fun _ _ z => z.mono l1
  refine (wpR.bind.mp h2).mono (fun z st3 h3 u H3 o3 l3 s3 r3 => ?_) fun _ _ z => (z.mono l1).mono l2
  obtain ⟨ks', ds', a', kvs', ea, e1', e2', e3', h3⟩ := dicOf_wp (Rep.mono (l2.trans l3) _ _ r1) s3 (wpR.bind.mp h3)
  cases ea
  unfold getK at h3
  cases q : keyD k with
  | none => rw [q] at h3; exact False.elim h3
  | some q' =>
    rw [q] at h3
    have ek := keyD_rep q (Rep.mono l3 _ _ r2)
    subst e2'
    have h4 : VOk X.K H o Q ((dget (kvs'.map (·.1)) ds' q').getD z) st3 := h3
    rcases dget_val (q := q') e3' with ⟨g1, g2⟩ | ⟨d', v', g1, g2, g3⟩
    · rw [g1] at h4
      exact ⟨none, .inl ⟨kvs', q', .inl e1', ek, g2.symm⟩, (show VOk X.K H o Q z st3 from h4) u H3 o3 ((l1.trans l2).trans l3) s3 r3⟩
    · rw [g1] at h4
      exact ⟨some v', .inl ⟨kvs', q', .inl e1', ek, g2.symm⟩, (show VOk X.K H o Q d' st3 from h4) v' H3 o3 ((l1.trans l2).trans l3) s3 g3⟩
end
end MP

namespace MP
open PySem L2
open PySem.Spec PyProof.Rows

/-! ## facts behind the top -/
section
variable {P : Program} {w : World} {K : Frag} {mg : Str → Option Value} {h : Heap}
theorem reps_of_strs : ∀ (zs : List Str) H o, Reps K H o (zs.map D.str) (zs.map V.str) := fun zs _ _ => Reps.ofStrs zs
theorem gcon_tup {x : Str} {zs : List Str} (X : K.In h) (G : h.Ns mainGlobals mg) (g : (He.Fa.glo x).ok K = true) (t : He.tupB K x (zs.map He.Dv.str) = true) : GCon K mg x (.tup (zs.map D.str)) := by
  refine ⟨.ref (He.ga K x), .ref (He.ga K x), He.glo_ok X G g, rfl, fun H o => ?_⟩
  have e : (zs.map He.Dv.str).map (He.Dv.v K) = zs.map V.str := by rw [List.map_map]; rfl
  have s := He.tupB_ok t (fun _ => none)
  rw [e] at s
  rcases s with s | s
  · rcases s with s | ⟨_, s⟩ <;> cases s
  · exact ⟨_, _, rfl, .inr s, Reps.ofStrs zs⟩
theorem gcon_int {x : Str} {i : Int} (X : K.In h) (G : h.Ns mainGlobals mg) (g : (He.Fa.int x i).ok K = true) : GCon K mg x (.int i) :=
  let ⟨t, e⟩ := He.int_ok X G g
  ⟨_, .int i, e, ⟨t, rfl⟩, fun _ _ => rfl⟩
theorem gcon_str {x z : Str} (X : K.In h) (G : h.Ns mainGlobals mg) (g : (He.Fa.str x z).ok K = true) : GCon K mg x (.str z) :=
  let ⟨t, e⟩ := He.str_ok X G g
  ⟨_, .str z, e, ⟨t, rfl⟩, fun _ _ => rfl⟩
theorem dict_pairs : ∀ {l : List DictEntry} {ks : List Str} {vs : List V}, l.map He.keyOf = He.keysIn w.params ks → Vals vs (l.map (·.val)) →
    (∀ e ∈ l, ∃ k, (mixKind P w).is k e.key = true ∧ e.hash = (mixKind P w).hash k) ∧ ∃ rs : List (Key × Value), Pairs (mixKind P w) l rs ∧ rs.map (·.1) = ks.map Sum.inr ∧ KV ((ks.zip vs).map fun q => ((Sum.inr q.1 : Key), q.2)) rs ∧ vs.length = ks.length
  | [], [], vs, _, r => by
    cases r
    exact ⟨fun e h => (by cases h), [], .nil, rfl, .nil, rfl⟩
  | [], _ :: _, _, h, _ => by cases h
  | _ :: _, [], _, h, _ => by cases h
  | e :: l, k :: ks, vs, h, r => by
    cases r with
    | @cons v u vs us rv rvs =>
      have h1 : He.keyOf e :: l.map He.keyOf = some (k, PyData.keyHash w.params k) :: He.keysIn w.params ks := h
      injection h1 with h2 h3
      obtain ⟨q1, rs, q2, q3, q4, q5⟩ := dict_pairs h3 rvs
      have hk : (mixKind P w).is (Sum.inr k) e.key = true ∧ e.hash = (mixKind P w).hash (Sum.inr k) := by
        unfold He.keyOf at h2
        split at h2
        · rename_i x t q
          have h4 := Option.some.inj h2
          obtain ⟨h5, h6⟩ := Prod.mk.inj h4
          subst h5
          exact ⟨by rw [q]; exact decide_eq_true rfl, h6⟩
        · cases h2
      refine ⟨fun e' he' => ?_, (Sum.inr k, e.val) :: rs, .cons hk.1 rfl q2, by rw [List.map_cons, List.map_cons, q3], .cons ⟨rfl, rv⟩ q4, by rw [List.length_cons, List.length_cons, q5]⟩
      rcases List.mem_cons.mp he' with rfl | he'
      · exact ⟨_, hk⟩
      · exact q1 e' he'
theorem kds_of {x : Str} {ks zs : List Str} (X : K.In h) (G : h.Ns mainGlobals mg) (g : (He.Fa.glo x).ok K = true) (hk : He.dicW K (He.ga K x) = some (He.keysIn w.params ks)) (hv : valsD K (He.ga K x) (zs.map V.str) = true) (nd : ks.Nodup) (hl : ks.length ≤ big) :
    KDs P w K mg x ((ks.zip zs).map fun q => ((Sum.inr q.1 : Key), D.str q.2)) := by
  obtain ⟨es, n, kd⟩ := He.dicW_ok hk
  have e1 : es.toList.map He.keyOf = He.keysIn w.params ks := by
    unfold He.dicW at hk
    rw [kd.at_] at hk
    have hk' : (match decide ("dict" = "dict") && ((#[] : Array (Option Value)).isEmpty && !(He.ga K x == sysModules)) with
      | true => some (es.toList.map He.keyOf)
      | false => none) = some (He.keysIn w.params ks) := hk
    split at hk'
    · exact Option.some.inj hk'
    · cases hk'
  have e2 : He.relAll (zs.map V.str) (es.toList.map (·.val)) = true := by
    unfold valsD at hv
    rw [kd.at_] at hv
    exact hv
  obtain ⟨q1, rs, q2, q3, q4, q5⟩ := dict_pairs (P := P) e1 (He.relAll_ok e2)
  have hz : ((ks.zip (zs.map V.str)).map fun q => ((Sum.inr q.1 : Key), q.2)) = (ks.zip zs).map fun q => ((Sum.inr q.1 : Key), V.str q.2) := by
    rw [List.zip_map_right, List.map_map]; rfl
  rw [hz] at q4
  have q5' : zs.length = ks.length := by simpa using q5
  refine ⟨He.ga K x, (ks.zip zs).map fun q => ((Sum.inr q.1 : Key), V.str q.2), He.glo_ok X G g, kd.low, ?_, ?_, fun H o => ?_, fun h2 X2 => ⟨rs, q4, ?_⟩⟩
  · rw [List.length_map, List.length_zip]; omega
  · rw [List.map_map, List.map_map]; rfl
  · rw [List.map_map, List.map_map]
    have ez : ∀ (f : Str → D), ((ks.zip zs).map ((·.2) ∘ fun q => ((Sum.inr q.1 : Key), f q.2))) = zs.map f := fun f => by
      rw [show ((fun (z : Key × D) => z.2) ∘ fun (q : Str × Str) => ((Sum.inr q.1 : Key), f q.2)) = f ∘ Prod.snd from rfl, ← List.map_map, List.map_snd_zip (by omega)]
    have ez2 : ((ks.zip zs).map ((fun (z : Key × V) => z.2) ∘ fun q => ((Sum.inr q.1 : Key), V.str q.2))) = zs.map V.str := by
      rw [show ((fun (z : Key × V) => z.2) ∘ fun (q : Str × Str) => ((Sum.inr q.1 : Key), V.str q.2)) = V.str ∘ Prod.snd from rfl, ← List.map_map, List.map_snd_zip (by omega)]
    rw [ez, ez2]
    exact Reps.ofStrs zs
  · obtain ⟨a1, a2⟩ : h2.get? (He.ga K x) = some ⟨.type "dict", none, .dict es n, #[]⟩ ∧ True := ⟨X2 _ _ kd.at_, trivial⟩
    exact ⟨_, es, n, a1, ⟨rfl, rfl, rfl⟩, rfl, fun e he => q1 e (Array.mem_toList_iff.mpr he), q2, by rw [q3]; exact List.Pairwise.map _ (fun a b z e => z (Sum.inr.inj e)) nd⟩
theorem dn_of {fa : List He.Fa} {fn : List He.DefD} {x qual : Str} {params : Arguments} {body : List Stmt} {scope : Scope} {ps : List Str} (X : K.In h) (G : h.Ns mainGlobals mg) (c : He.SaysD fa fn K) (i : Nat) (hf : fn[i]? = some ⟨(x, none), x, qual, params, body, scope, [], []⟩) (g : (He.Fa.glo x).ok K = true)
    (hb : ∀ (kV doc pm : Value) (an : Option Addr) (cdv ct : Value) (us : List Value), us.length = ps.length → bindArgs (PySem.W.fnOf x qual params body scope .none kV doc pm an cdv ct) ⟨us, []⟩ = pure (ps.zip us)) : Dn K mg x qual params body scope ps := by
  obtain ⟨fd, F⟩ := c.def_ i hf
  exact ⟨_, fd, F, He.glo_ok X G g, F.bindsN hb⟩
end

/-! ## the end -/
theorem walk_ofM {l : PySem.W.OpenLaw} {n k : Nat} {q : Program} {loose : List Str} {XP : (Str → Option Value) → Heap → Prop} {YP : World → Heap → Prop} {d : DefRec} {x : Str} {m : List D → M D}
    (hn : l.most = some n) (hn2 : n ≤ sizeLine) (hdf : d.params.defaults = []) (hr : Room k callerA)
    (F : ∀ (w : World) (mg : Str → Option Value) (h : Heap), YP w h → h.Ns mainGlobals mg →
      ∃ K : Frag, K.In h ∧ ∀ fa : Addr, mg d.name = some (.ref fa) → ∃ fd : FuncData, (∀ (s : Shared) (u : Value), BindsTo s fd ⟨[u], []⟩ [(x, u)]) ∧
        ∀ base : Heap, K.In base → base.Ns mainGlobals mg → FnOk l.prog w K mg base (L2.CX l.prog w) k fa fd [x] (spD K 1 m))
    (hm : ∀ ns : List Int, ns.length ≤ n → (∀ z ∈ ns, Builtin.Int.intBits z ≤ 1048576) → ∃ st, m [.scr ns] [] = .ok (.bl true) st) :
    PySem.W.WalkO q loose XP YP l.row.toRowW d [] (fun f vs => PySem.call f vs) := by
  refine Att.attach_callB hn hdf fun w s0 s1 mg mb fa o pm cd doc a vs ns G Y ho hd hcd hmg hobj hints hlen hbits hg => ?_
  obtain ⟨K, KX, hF⟩ := F w mg _ Y G.T.g
  obtain ⟨fd, hb, hF⟩ := hF fa hmg
  refine law_call KX G.T.g G.T.b G.T.builtins G.T.nolimit hg hobj hints (Nat.le_trans hlen hn2) hr hF hb (fun H hO hS => ?_) fun H e s' cx => ?_
  · obtain ⟨st, e⟩ := hm ns hlen hbits
    refine ⟨⟨[], [], none⟩, [.scr ns], [], ⟨.ref a, [], rfl, ⟨a, rfl, ?_⟩, rfl⟩, rfl, ⟨rfl, fun n m a z _ => by simp at z, fun a z => by simp at z, fun n c z => by simp at z⟩, ?_⟩
    · rcases hS with hS | hS
      · rcases hS with hS | ⟨ob, hS⟩
        · rcases hO a with z | ⟨o, xs, z⟩ <;> rw [hS] at z <;> cases z
        · exact .inl ⟨ob, hS, by simp [Lo.av]⟩
      · exact .inr hS
    · rw [e]
      exact fun v H' o' _ _ r => r
  · obtain ⟨_, _, _, _, _, _, _, _, _, _, _, _, hE⟩ := cx
    exact hE
end MP

namespace MP
open PySem L2
open PySem.Spec PyProof.Rows
/-! ## running meanings -/
def T {α : Type} (m : M α) (st : Store) (Q : α → Store → Prop) : Prop := wpR (m st) Q (fun _ _ => False)
section
variable {α β : Type} {st st' : Store}
theorem T.bind {m : M α} {f : α → M β} {Q : β → Store → Prop} {P : α → Store → Prop} (h : T m st P) (k : ∀ a st', P a st' → T (f a) st' Q) : T (m >>= f) st Q :=
  wpR.bind.mpr (wpR.mono h k fun _ _ z => z)
theorem T.mono {m : M α} {P Q : α → Store → Prop} (h : T m st P) (k : ∀ a st', P a st' → Q a st') : T m st Q := wpR.mono h k fun _ _ z => z
theorem T.ok {m : M α} {a : α} {Q : α → Store → Prop} (e : m st = .ok a st') (h : Q a st') : T m st Q := by
  unfold T; rw [e]; exact h
theorem T.get {m : M α} {Q : α → Store → Prop} (h : T m st Q) : ∃ a st', m st = .ok a st' ∧ Q a st' := by
  unfold T at h
  cases q : m st with
  | ok a st' => rw [q] at h; exact ⟨a, st', rfl, h⟩
  | exn e st' => rw [q] at h; exact h.elim
  | stuck => rw [q] at h; exact h.elim
@[simp] theorem t_bind {m : M α} {f : α → M β} {Q : β → Store → Prop} : T (m >>= f) st Q = T m st (fun a s => T (f a) s Q) := propext wpR.bind
@[simp] theorem t_map {m : M α} {f : α → β} {Q : β → Store → Prop} : T (f <$> m) st Q = T m st (fun a s => Q (f a) s) := by
  rw [map_eq_pure_bind, t_bind]; rfl
@[simp] theorem t_pure {a : α} {Q : α → Store → Prop} : T (pure a : M α) st Q = Q a st := rfl
@[simp] theorem t_guard {c : Bool} {m : M D} {Q : D → Store → Prop} : T (guardM c m) st Q = (c = true ∧ T m st Q) := by
  cases c with
  | true => exact propext ⟨fun h => ⟨rfl, h⟩, fun h => h.2⟩
  | false => exact propext ⟨fun h => False.elim h, fun h => by cases h.1⟩
@[simp] theorem t_guardL {c : Bool} {m : M α} {Q : α → Store → Prop} : T (guardL c m) st Q = (c = true ∧ T m st Q) := by
  cases c with
  | true => exact propext ⟨fun h => ⟨rfl, h⟩, fun h => h.2⟩
  | false => exact propext ⟨fun h => False.elim h, fun h => by cases h.1⟩
@[simp] theorem t_cond {c : Bool} {m m' : M α} {Q : α → Store → Prop} : T (cond c m m') st Q = ((c = true → T m st Q) ∧ (c = false → T m' st Q)) := by
  cases c <;> simp
@[simp high] theorem cond_pure {c : Bool} {a b : α} : (cond c (pure a) (pure b) : M α) = pure (cond c a b) := by cases c <;> rfl
@[simp] theorem t_ixr {n : Nat} {k : D} {Q : D → Store → Prop} : T (opIx (.ref n) k) st Q = T (ixCell st[n]? k) st Q := rfl
@[simp] theorem t_lenr {n : Nat} {Q : D → Store → Prop} : T (biLen (.ref n)) st Q = T (cellLen st[n]?) st Q := rfl
def setMc (n : Nat) : Option Cell → M Unit
  | some c => fun st => .ok () (st.set n c)
  | none => M.stuck
@[simp] theorem t_setr {n : Nat} {i v : D} {Q : Unit → Store → Prop} : T (setM (.ref n) i v) st Q = T (setMc n (setCell st[n]? i v)) st Q := by
  unfold T
  show wpR (match setCell st[n]? i v with | some c => R.ok () (st.set n c) | none => .stuck) Q _ = wpR (setMc n (setCell st[n]? i v) st) Q _
  cases setCell st[n]? i v <;> rfl
@[simp] theorem t_setc {n : Nat} {c : Cell} {Q : Unit → Store → Prop} : T (setMc n (some c)) st Q = Q () (st.set n c) := rfl
@[simp] theorem t_alloc {c : Cell} {Q : D → Store → Prop} : T (M.alloc c) st Q = Q (.ref st.length) (st ++ [c]) := rfl
@[simp] theorem t_stuck {Q : α → Store → Prop} : T (M.stuck : M α) st Q = False := rfl
@[simp] theorem t_noX {m : M α} {Q : α → Store → Prop} : T (noX m) st Q = T m st Q := by
  unfold T noX
  cases m st <;> rfl
@[simp] theorem big_lt' : (n < big) = (n < 16000000) := rfl
@[simp] theorem big_eq : (n ≤ big) = (n ≤ 16000000) := rfl
def lcl : Option Cell → M (List D)
  | some (.lst ds) => pure ds
  | _ => M.stuck
@[simp] theorem lcl_s {ds : List D} : lcl (some (.lst ds)) = pure ds := rfl
@[simp] theorem t_lstr {n : Nat} {Q : List D → Store → Prop} : T (lstOf (.ref n)) st Q = T (lcl st[n]?) st Q := by
  unfold T
  show wpR (match st[n]? with | some (.lst ds) => R.ok ds st | _ => .stuck) Q _ = _
  cases h : st[n]? with
  | none => rfl
  | some c => cases c <;> rfl
@[simp] theorem tuple_r {n : Nat} : biTuple (.ref n) = lstOf (.ref n) >>= fun ds => pure (.tup ds) := rfl
@[simp] theorem list_r {n : Nat} : biList (.ref n) = lstOf (.ref n) >>= fun ds => pure (.lst ds) := rfl
@[simp] theorem sl_r {n : Nat} {lo hi : Option Int} : opSl lo hi (.ref n) = lstOf (.ref n) >>= fun ds => pure (.lst (cutL ds lo hi)) := rfl
def isl : Option Cell → M Unit
  | some (.lst _) => pure ()
  | _ => M.stuck
@[simp] theorem isl_s {ds : List D} : isl (some (.lst ds)) = pure () := rfl
@[simp] theorem t_isl {n : Nat} {Q : Unit → Store → Prop} : T (isTy "list" (.ref n)) st Q = T (isl st[n]?) st Q := by
  unfold T
  show wpR (match st[n]? with | some (.lst _) => R.ok () st | _ => .stuck) Q _ = _
  cases h : st[n]? with
  | none => rfl
  | some c => cases c <;> rfl
def wrc (n : Nat) (c : Cell) : M D := fun st => .ok .non (st.set n c)
def apc (n : Nat) (v : D) : Option Cell → M D
  | some (.lst ds) => guardM (decide (ds.length < big)) (wrc n (.lst (ds ++ [v])))
  | _ => M.stuck
@[simp] theorem t_app {n : Nat} {v : D} {Q : D → Store → Prop} : T (mAppend (.ref n) [v]) st Q = T (apc n v st[n]?) st Q := by
  unfold T
  show wpR (match st[n]? with | some (.lst ds) => bif decide (ds.length < big) then R.ok .non (st.set n (.lst (ds ++ [v]))) else .stuck | _ => .stuck) Q _ = _
  cases h : st[n]? with
  | none => rfl
  | some c =>
    cases c with
    | lst ds =>
      show wpR (bif decide (ds.length < big) then R.ok D.non (st.set n (.lst (ds ++ [v]))) else .stuck) Q _ = wpR (guardM (decide (ds.length < big)) (wrc n (.lst (ds ++ [v]))) st) Q _
      cases decide (ds.length < big) <;> rfl
    | _ => rfl
@[simp] theorem t_apc {n : Nat} {v : D} {ds : List D} {Q : D → Store → Prop} : T (apc n v (some (.lst ds))) st Q = (ds.length < big ∧ Q .non (st.set n (.lst (ds ++ [v])))) := by
  show T (guardM (decide (ds.length < big)) (wrc n (.lst (ds ++ [v])))) st Q = _
  rw [t_guard, decide_eq_true_eq]
  rfl
theorem set_get {n : Nat} {c c' : Cell} (h : st[n]? = some c) : (st.set n c')[n]? = some c' := List.getElem?_set_self (List.getElem?_eq_some_iff.mp h).1
end
def RetQ (Q : D → Store → Prop) : Fl → Store → Prop
  | .nx _, s => Q .non s
  | .rt d, s => Q d s
  | _, _ => False
@[simp] theorem retQ_rt {Q : D → Store → Prop} {d : D} {s : Store} : RetQ Q (.rt d) s = Q d s := rfl
@[simp] theorem retQ_nx {Q : D → Store → Prop} {ρ : Env} {s : Store} : RetQ Q (.nx ρ) s = Q .non s := rfl
section
variable {n i : Nat} {b : DenS} {ds : List D} {st : Store} {f : Den} {f' g' g h k : DenS} {c : DenB} {ρ : Env} {js : List Nat} {fs : DenL}
theorem t_run {Q : D → Store → Prop} : T (runDef n b ds) st Q = T (b (ds.map some ++ List.replicate (n - ds.length) none)) st (RetQ Q) := by
  unfold runDef
  rw [t_bind]
  congr 1
  funext r s
  cases r <;> rfl
variable {Q : Fl → Store → Prop}
theorem t_asg : T (dSeq (dAsg f (gSet i)) g ρ) st Q = T (f ρ) st (fun d s => T (g (ρ.set i (some d))) s Q) := by
  unfold dSeq dAsg gSet
  simp only [t_bind, t_pure]
theorem t_asg1 : T (dAsg f (gSet i) ρ) st Q = T (f ρ) st (fun d s => Q (.nx (ρ.set i (some d))) s) := by
  unfold dAsg gSet
  simp only [t_bind, t_pure]
theorem t_ifs : T (dSeq (dIfS c f' g') k ρ) st Q = T (c ρ) st (fun b s => (b = true → T (dSeq f' k ρ) s Q) ∧ (b = false → T (dSeq g' k ρ) s Q)) := by
  unfold dSeq dIfS
  simp only [t_bind]
  congr 1
  funext b s
  cases b <;> simp
theorem t_ifs1 : T (dIfS c g h ρ) st Q = T (c ρ) st (fun b s => (b = true → T (g ρ) s Q) ∧ (b = false → T (h ρ) s Q)) := by
  unfold dIfS
  simp only [t_bind]
  congr 1
  funext b s
  cases b <;> simp
@[simp] theorem t_skip : T (dSeq dSkip g ρ) st Q = T (g ρ) st Q := by
  unfold dSeq dSkip
  simp only [t_bind, t_pure]
@[simp] theorem t_skip1 : T (dSkip ρ) st Q = Q (.nx ρ) st := rfl
theorem t_ret : T (dSeq (dRet f) g ρ) st Q = T (f ρ) st (fun d s => Q (.rt d) s) := by
  unfold dSeq dRet
  simp only [t_bind, t_pure]
theorem t_ret1 : T (dRet f ρ) st Q = T (f ρ) st (fun d s => Q (.rt d) s) := by
  unfold dRet
  simp only [t_bind, t_pure]
theorem t_retN : T (dRetN ρ) st Q = Q (.rt .non) st := rfl
theorem t_seq : T (dSeq (dSeq g h) k ρ) st Q = T (dSeq g (dSeq h k) ρ) st Q := by
  unfold dSeq
  simp only [t_bind]
  congr 1
  funext r s
  cases r <;> simp
theorem t_tg {t : Tg} : T (dSeq (dAsg f (gOf t)) g ρ) st Q = T (f ρ) st (fun d s => T (optE (t.bind d ρ)) s fun ρ' s => T (g ρ') s Q) := by
  unfold dSeq dAsg gOf
  simp only [t_bind, t_pure]
@[simp] theorem tgb2 {i j : Nat} {a b : D} {ρ : Env} : Tg.bind (.tup [.nm i, .nm j]) (.tup [a, b]) ρ = some ((ρ.set i (some a)).set j (some b)) := by simp [Tg.bind, Tgs.bind]
@[simp] theorem tgb3 {i j l : Nat} {a b c : D} {ρ : Env} : Tg.bind (.tup [.nm i, .nm j, .nm l]) (.tup [a, b, c]) ρ = some (((ρ.set i (some a)).set j (some b)).set l (some c)) := by simp [Tg.bind, Tgs.bind]
@[simp] theorem optE_s {ρ : Env} : optE (some ρ) = pure ρ := rfl
theorem t_par : T (dSeq (dPar js fs) g ρ) st Q = T (fs ρ) st (fun ds s => ds.length = js.length ∧ T (g ((js.zip ds).foldl (fun r p => r.set p.1 (some p.2)) ρ)) s Q) := by
  unfold dSeq dPar
  simp only [t_bind]
  congr 1
  funext ds s
  cases q : ds.length == js.length with
  | true => simp [eq_of_beq q]
  | false => simp; intro e; rw [e, beq_self_eq_true] at q; cases q
theorem t_exp : T (dSeq (dExpr f) g ρ) st Q = T (f ρ) st (fun _ s => T (g ρ) s Q) := by
  unfold dSeq dExpr
  simp only [t_bind, t_pure]
theorem t_for1 {it : DenI} {gt : DenG} : T (dFor it gt b ρ) st Q = T (it ρ) st (fun ds s => T (forL (fun d ρ => gt d ρ >>= b) ds ρ) s Q) := by
  unfold dFor
  simp only [t_bind]
theorem t_exp1 : T (dExpr f ρ) st Q = T (f ρ) st (fun _ s => Q (.nx ρ) s) := by
  unfold dExpr
  simp only [t_bind, t_pure]
@[simp] theorem gOf_nm {i : Nat} {d : D} : gOf (.nm i) d ρ = pure (ρ.set i (some d)) := rfl
theorem t_for {it : DenI} {gt : DenG} : T (dSeq (dFor it gt b) g ρ) st Q = T (it ρ) st (fun ds s => T (forL (fun d ρ => gt d ρ >>= b) ds ρ) s fun r s => T (match r with | .nx ρ' => g ρ' | .rt d => pure (.rt d) | .bk ρ' => pure (.bk ρ') | .ct ρ' => pure (.ct ρ')) s Q) := by
  unfold dSeq dFor
  simp only [t_bind] <;> rfl
/-- a loop that always goes on -/
theorem forL_inv {b : D → DenS} {I : Env → Store → Prop} : ∀ {ds : List D} {ρ : Env} {st : Store}, I ρ st → (∀ d ∈ ds, ∀ ρ st, I ρ st → T (b d ρ) st (fun r s => ∃ ρ', r = .nx ρ' ∧ I ρ' s)) → T (forL b ds ρ) st (fun r s => ∃ ρ', r = .nx ρ' ∧ I ρ' s)
  | [], ρ, st, h, _ => ⟨ρ, rfl, h⟩
  | d :: ds, ρ, st, h, k => by
    unfold forL
    rw [t_bind]
    refine (k d List.mem_cons_self ρ st h).mono fun r s hr => ?_
    obtain ⟨ρ', rfl, h'⟩ := hr
    exact forL_inv h' fun x hx => k x (List.mem_cons_of_mem _ hx)
end
theorem lg2 {n k : Nat} (h : n < 2 ^ k) (hk : 0 < k) : n.log2 < k := by
  by_cases h0 : n = 0
  · subst h0; simpa using hk
  · exact (Nat.log2_lt h0).mpr h
theorem lg {x : Int} (h0 : 0 ≤ x) (h : x < 1152921504606846976) : x.natAbs.log2 < 60 := lg2 (by omega) (by decide)
section
variable {i j : Int} {xs ys ds : List D} {a b : Str} {p : Int → Int → Bool} {bb : Bool} {k : D} {lo hi : Option Int}
@[simp] theorem add_ii : opAdd (.int i) (.int j) = pure (.int (i + j)) := rfl
@[simp] theorem add_ss : opAdd (.str a) (.str b) = guardM (decide (a.length + b.length ≤ big)) (pure (.str (a ++ b))) := rfl
@[simp] theorem add_tt : opAdd (.tup xs) (.tup ys) = guardM (decide (xs.length + ys.length ≤ big)) (pure (.tup (xs ++ ys))) := rfl
@[simp] theorem add_ll : opAdd (.lst xs) (.lst ys) = guardM (decide (xs.length + ys.length ≤ big)) (pure (.lst (xs ++ ys))) := rfl
@[simp] theorem sub_ii : opSub (.int i) (.int j) = pure (.int (i - j)) := rfl
@[simp] theorem mul_ii : opMul (.int i) (.int j) = guardM (decide (i.natAbs.log2 + j.natAbs.log2 < 1000000)) (pure (.int (i * j))) := rfl
@[simp] theorem mul_li : opMul (.lst xs) (.int i) = guardM (decide (-(2 ^ 63) ≤ i ∧ i < 2 ^ 63 ∧ xs.length * i.toNat ≤ big)) (pure (.lst (List.replicate i.toNat xs).flatten)) := rfl
@[simp] theorem mul_ti : opMul (.tup xs) (.int i) = guardM (!xs.isEmpty && decide (2 ≤ i ∧ i ≤ 1000 ∧ xs.length ≤ 1000)) (pure (.tup (List.replicate i.toNat xs).flatten)) := rfl
@[simp] theorem div_ii : opDiv (.int i) (.int j) = guardM (decide (0 < j ∧ j.natAbs.log2 < 9000)) (pure (.int (i / j))) := rfl
@[simp] theorem mod_ii : opMod (.int i) (.int j) = guardM (decide (0 < j)) (pure (.int (i % j))) := rfl
@[simp] theorem pow_ii : opPow (.int i) (.int j) = guardM (decide (0 ≤ j ∧ j ≤ 1000000 ∧ i.natAbs < 2 ^ 64)) (pure (.int (i ^ j.toNat))) := rfl
@[simp] theorem neg_i : opNeg (.int i) = pure (.int (-i)) := rfl
@[simp] theorem cmp_ii : opCmp p (.int i) (.int j) = pure (.bl (p i j)) := rfl
@[simp] theorem int_i : biInt (.int i) = pure (.int i) := rfl
@[simp] theorem int_b : biInt (.bl bb) = pure (.int (if bb then 1 else 0)) := rfl
@[simp] theorem abs_i : biAbs (.int i) = pure (.int (if i < 0 then -i else i)) := rfl
@[simp] theorem min_ii : biMin (.int i) (.int j) = pure (.int (if j < i then j else i)) := rfl
@[simp] theorem max_ii : biMax (.int i) (.int j) = pure (.int (if j > i then j else i)) := rfl
@[simp] theorem len_t : biLen (.tup xs) = pure (.int xs.length) := rfl
@[simp] theorem len_l : biLen (.lst xs) = pure (.int xs.length) := rfl
@[simp] theorem len_c {ns : List Int} : biLen (.scr ns) = pure (.int ns.length) := rfl
@[simp] theorem clen_l : cellLen (some (.lst xs)) = pure (.int xs.length) := rfl
@[simp] theorem cix_l : ixCell (some (.lst xs)) (.int i) = optM (atI xs i) := rfl
@[simp] theorem ix_t : opIx (.tup xs) (.int i) = optM (atI xs i) := rfl
@[simp] theorem ix_l : opIx (.lst xs) (.int i) = optM (atI xs i) := rfl
@[simp] theorem ix_c {ns : List Int} : opIx (.scr ns) (.int i) = optM ((atI ns i).map D.int) := rfl
@[simp] theorem optM_s {d : D} : optM (some d) = pure d := rfl
@[simp] theorem optM_n : optM none = M.stuck := rfl
@[simp] theorem setc_l : setCell (some (.lst xs)) (.int i) k = (ixN xs.length i).map fun j => .lst (xs.set j k) := rfl
@[simp] theorem sl_t : opSl lo hi (.tup xs) = pure (.tup (cutL xs lo hi)) := rfl
@[simp] theorem sl_l : opSl lo hi (.lst xs) = pure (.lst (cutL xs lo hi)) := rfl
@[simp] theorem asI_i : asI (.int i) = pure (some i) := rfl
@[simp] theorem asB_b : asB (.bl bb) = pure bb := rfl
@[simp] theorem list_t : biList (.tup xs) = pure (.lst xs) := rfl
@[simp] theorem list_l : biList (.lst xs) = pure (.lst xs) := rfl
@[simp] theorem tuple_l : biTuple (.lst xs) = pure (.tup xs) := rfl
@[simp] theorem tuple_t : biTuple (.tup xs) = pure (.tup xs) := rfl
@[simp] theorem dict_ix {ks : List Key} : opIx (.dic ks ds) k = ixCell (some (.dic ks ds)) k := rfl
@[simp] theorem cix_ds {ks : List Key} : ixCell (some (.dic ks ds)) (.str a) = optM (dget ks ds (.inr a)) := rfl
@[simp] theorem items_l : itemsOf (.lst xs) = pure xs := rfl
@[simp] theorem items_t : itemsOf (.tup xs) = pure xs := rfl
@[simp] theorem rng1_i : rng1 [.int i] = (bif decide (-(2 ^ 62) ≤ i ∧ i < 2 ^ 62) then pure (rangeL 0 i) else M.stuck) := rfl
end
@[simp] theorem at2_0 {a b : D} : atI [a, b] 0 = some a := rfl
@[simp] theorem at2_1 {a b : D} : atI [a, b] 1 = some b := rfl
@[simp] theorem at1_0 {a : D} : atI [a] 0 = some a := rfl
@[simp] theorem at3_0 {a b c : D} : atI [a, b, c] 0 = some a := rfl
@[simp] theorem at3_1 {a b c : D} : atI [a, b, c] 1 = some b := rfl
@[simp] theorem at3_2 {a b c : D} : atI [a, b, c] 2 = some c := rfl
@[simp] theorem ix2_0 : ixN 2 0 = some 0 := rfl
@[simp] theorem ix2_1 : ixN 2 1 = some 1 := rfl
theorem at_zero {α : Type} {a : α} {r : List α} : atI (a :: r) 0 = some a := by
  unfold atI ixN
  rw [if_pos (by omega), if_pos (by simp)]; rfl
theorem at_one {α : Type} {a b : α} {r : List α} : atI (a :: b :: r) 1 = some b := by
  unfold atI ixN
  rw [if_pos (by omega), if_pos (by simp only [List.length_cons]; omega)]; rfl
theorem at_two {α : Type} {a b c : α} {r : List α} : atI (a :: b :: c :: r) 2 = some c := by
  unfold atI ixN
  rw [if_pos (by omega), if_pos (by simp only [List.length_cons]; omega)]; rfl
@[simp] theorem cond_bl {c x y : Bool} : (cond c (D.bl x) (D.bl y)) = D.bl (cond c x y) := by cases c <;> rfl
@[simp] theorem at0n {α : Type} : atI ([] : List α) 0 = none := rfl
@[simp] theorem at1n {α : Type} {a : α} : atI [a] 1 = none := rfl
end MP

namespace MP
open PySem L2
open PySem.Spec PyProof.Rows
/-! ## values that == reads, and how deep they are -/
structure Dep (k : Nat) (d : D) : Prop where
  ok : d.okD = true
  dp : d.py.depth ≤ k
theorem Dep.mono {j k : Nat} {d : D} (h : Dep j d) (q : j ≤ k) : Dep k d := ⟨h.ok, Nat.le_trans h.dp q⟩
theorem Dep.sh {d : D} (h : Dep 64 d) : d.sh = true := by
  unfold D.sh
  rw [h.ok, Bool.true_and]
  exact decide_eq_true h.dp
@[simp] theorem dep_int {k : Nat} {i : Int} : Dep k (.int i) := ⟨rfl, by simp [D.py, PyData.depth]⟩
@[simp] theorem dep_bl {k : Nat} {b : Bool} : Dep k (.bl b) := ⟨rfl, by simp [D.py, PyData.depth]⟩
@[simp] theorem dep_non {k : Nat} : Dep k .non := ⟨rfl, by simp [D.py, PyData.depth]⟩
@[simp] theorem dep_str {k : Nat} {s : Str} (h : PyData.strOk s = true) : Dep k (.str s) := ⟨h, by simp [D.py, PyData.depth]⟩
theorem depthAll_le {k : Nat} : ∀ {ds : List D}, (∀ d ∈ ds, d.py.depth ≤ k) ↔ PyData.depthAll (pys ds) ≤ k
  | [] => by simp [pys, PyData.depthAll]
  | d :: ds => by
    have := depthAll_le (k := k) (ds := ds)
    simp only [pys, PyData.depthAll, List.mem_cons, forall_eq_or_imp, this]
    omega
@[simp] theorem dep_tup {k : Nat} {ds : List D} : Dep (k + 1) (.tup ds) ↔ ∀ d ∈ ds, Dep k d := by
  constructor
  · intro h d hd
    have h1 : okDs ds = true := h.ok
    rw [okDs_all, List.all_eq_true] at h1
    have h2 : PyData.depthAll (pys ds) + 1 ≤ k + 1 := by have := h.dp; simpa [D.py, PyData.depth] using this
    exact ⟨h1 d hd, depthAll_le.mpr (by omega) d hd⟩
  · intro h
    refine ⟨by show okDs ds = true; rw [okDs_all, List.all_eq_true]; exact fun d hd => (h d hd).ok, ?_⟩
    have := (depthAll_le (k := k) (ds := ds)).mp fun d hd => (h d hd).dp
    simp only [D.py, PyData.depth]; omega
@[simp] theorem dep_lst {k : Nat} {ds : List D} : Dep (k + 1) (.lst ds) ↔ ∀ d ∈ ds, Dep k d := by
  constructor
  · intro h d hd
    have h1 : okDs ds = true := h.ok
    rw [okDs_all, List.all_eq_true] at h1
    have h2 : PyData.depthAll (pys ds) + 1 ≤ k + 1 := by have := h.dp; simpa [D.py, PyData.depth] using this
    exact ⟨h1 d hd, depthAll_le.mpr (by omega) d hd⟩
  · intro h
    refine ⟨by show okDs ds = true; rw [okDs_all, List.all_eq_true]; exact fun d hd => (h d hd).ok, ?_⟩
    have := (depthAll_le (k := k) (ds := ds)).mp fun d hd => (h d hd).dp
    simp only [D.py, PyData.depth]; omega
theorem dep_tnil {k : Nat} : Dep (k + 1) (.tup []) := dep_tup.mpr fun _ h => by cases h
theorem Dep.pos_t {k : Nat} {ds : List D} (h : Dep k (.tup ds)) : 0 < k := by have := h.dp; simp only [D.py, PyData.depth] at this; omega
theorem Dep.pos_l {k : Nat} {ds : List D} (h : Dep k (.lst ds)) : 0 < k := by have := h.dp; simp only [D.py, PyData.depth] at this; omega
theorem Dep.items {k : Nat} {ds : List D} (h : Dep k (.tup ds)) {d : D} (hd : d ∈ ds) : Dep (k - 1) d := by
  obtain ⟨j, rfl⟩ : ∃ j, k = j + 1 := ⟨k - 1, by have := h.pos_t; omega⟩
  exact dep_tup.mp h d hd
theorem Dep.itemsL {k : Nat} {ds : List D} (h : Dep k (.lst ds)) {d : D} (hd : d ∈ ds) : Dep (k - 1) d := by
  obtain ⟨j, rfl⟩ : ∃ j, k = j + 1 := ⟨k - 1, by have := h.pos_l; omega⟩
  exact dep_lst.mp h d hd
theorem dataOf_ok {d : D} (h : d.okD = true) : dataOf d = pure d := by
  cases d <;> first | rfl | cases h
theorem eq_of {neg : Bool} {x y : D} (hx : Dep 64 x) (hy : Dep 64 y) : opEq neg x y = pure (.bl (if neg then !deq x y else deq x y)) := by
  unfold opEq
  rw [dataOf_ok hx.ok, dataOf_ok hy.ok]
  simp [hx.sh, hy.sh, guardM]
theorem in_of {neg : Bool} {x : D} {es : List D} (hx : Dep 64 x) (hy : Dep 64 (.tup es)) : opIn neg x (.tup es) = pure (.bl (if neg then !(es.any fun z => deq z x) else es.any fun z => deq z x)) := by
  have e : opIn neg x (.tup es) = dataOf x >>= fun a => guardM (a.sh && (D.tup es).sh) (pure (.bl (if neg then !(es.any fun z => deq z a) else es.any fun z => deq z a))) := by cases x <;> rfl
  rw [e, dataOf_ok hx.ok]
  simp [hx.sh, hy.sh, guardM]
theorem in_ofL {neg : Bool} {x : D} {es : List D} (hx : Dep 64 x) (hy : Dep 64 (.lst es)) : opIn neg x (.lst es) = pure (.bl (if neg then !(es.any fun z => deq z x) else es.any fun z => deq z x)) := by
  have e : opIn neg x (.lst es) = dataOf x >>= fun a => guardM (a.sh && (D.lst es).sh) (pure (.bl (if neg then !(es.any fun z => deq z a) else es.any fun z => deq z a))) := by cases x <;> rfl
  rw [e, dataOf_ok hx.ok]
  simp [hx.sh, hy.sh, guardM]
mutual
theorem deq_refl : ∀ {d : D}, d.okD = true → deq d d = true
  | .non, _ => by simp [deq, D.py, PyData.eqv]
  | .bl b, _ => by simp [deq, D.py, PyData.eqv]
  | .int i, _ => by simp [deq, D.py, PyData.eqv]
  | .str s, _ => by simp [deq, D.py, PyData.eqv]
  | .tup ds, h => by
    have := deqs_refl (ds := ds) h
    simpa [deq, D.py, PyData.eqv] using this
  | .lst ds, h => by
    have := deqs_refl (ds := ds) h
    simpa [deq, D.py, PyData.eqv] using this
  | .dic _ _, h => by cases h
  | .scr _, h => by cases h
  | .ref _, h => by cases h
theorem deqs_refl : ∀ {ds : List D}, okDs ds = true → PyData.eqvAll (pys ds) (pys ds) = true
  | [], _ => by simp [pys, PyData.eqvAll]
  | d :: ds, h => by
    have h' : (d.okD && okDs ds) = true := h
    rw [Bool.and_eq_true] at h'
    have e1 := deq_refl h'.1
    have e2 := deqs_refl h'.2
    unfold deq at e1
    simp [pys, PyData.eqvAll, e1, e2]
end
def isS (s : Str) : D → Bool
  | .str t => t == s
  | _ => false
@[simp] theorem deq_sr {d : D} {s : Str} : deq d (.str s) = isS s d := by cases d <;> simp [deq, D.py, PyData.eqv, isS]
@[simp] theorem deq_sl {d : D} {s : Str} : deq (.str s) d = isS s d := by
  cases d <;> simp [deq, D.py, PyData.eqv, isS]
  first | exact BEq.comm | exact Bool.eq_iff_iff.mpr (by simp [eq_comm])
def isNil : D → Bool
  | .tup [] => true
  | _ => false
@[simp] theorem deq_nil {d : D} : deq d (.tup []) = isNil d := by
  cases d with
  | tup ds => cases ds <;> simp [deq, D.py, pys, PyData.eqv, PyData.eqvAll, isNil]
  | _ => simp [deq, D.py, pys, PyData.eqv, isNil]
@[simp] theorem deq_ii {i j : Int} : deq (.int i) (.int j) = (i == j) := by simp [deq, D.py, PyData.eqv]
@[simp] theorem deq_bb {i j : Bool} : deq (.bl i) (.bl j) = (i == j) := by simp [deq, D.py, PyData.eqv]
@[simp] theorem deq_tt {xs ys : List D} : deq (.tup xs) (.tup ys) = PyData.eqvAll (pys xs) (pys ys) := by simp [deq, D.py, PyData.eqv]
@[simp] theorem deq_ll {xs ys : List D} : deq (.lst xs) (.lst ys) = PyData.eqvAll (pys xs) (pys ys) := by simp [deq, D.py, PyData.eqv]
@[simp] theorem eqvAll_cons {x y : D} {xs ys : List D} : PyData.eqvAll (pys (x :: xs)) (pys (y :: ys)) = (deq x y && PyData.eqvAll (pys xs) (pys ys)) := by simp [pys, PyData.eqvAll, deq]
@[simp] theorem eqvAll_nil : PyData.eqvAll (pys []) (pys []) = true := by simp [pys, PyData.eqvAll]
@[simp] theorem eqvAll_nc {x : D} {xs : List D} : PyData.eqvAll (pys []) (pys (x :: xs)) = false := by simp [pys, PyData.eqvAll]
@[simp] theorem eqvAll_cn {x : D} {xs : List D} : PyData.eqvAll (pys (x :: xs)) (pys []) = false := by simp [pys, PyData.eqvAll]
theorem eq_of_T {α : Type} {m : M α} {r : α} (h : ∀ st, T m st fun d s => d = r ∧ s = st) : m = pure r := by
  funext st
  obtain ⟨a, s, e, rfl, rfl⟩ := (h st).get
  exact e
@[simp] theorem guardM_t {m : M D} : guardM true m = m := rfl
@[simp] theorem q_ii {neg : Bool} {i j : Int} : opEq neg (.int i) (.int j) = pure (.bl (if neg then !(i == j) else i == j)) := by rw [eq_of dep_int dep_int]; simp
@[simp] theorem q_bb {neg : Bool} {i j : Bool} : opEq neg (.bl i) (.bl j) = pure (.bl (if neg then !(i == j) else i == j)) := by rw [eq_of dep_bl dep_bl]; simp
theorem q_s {neg : Bool} {a : D} {s : Str} (h : Dep 64 a) (hs : PyData.strOk s = true) : opEq neg a (.str s) = pure (.bl (if neg then !isS s a else isS s a)) := by rw [eq_of h (dep_str hs)]; simp
/-! ## kinds of values -/
def isI : D → Bool
  | .int _ => true
  | _ => false
def isB : D → Bool
  | .bl _ => true
  | _ => false
def isSt : D → Bool
  | .str _ => true
  | _ => false
def isTu : D → Bool
  | .tup _ => true
  | _ => false
theorem isi_int {d : D} (h : d.okD = true) : opIsi "int" d = pure (.bl (isI d || isB d)) := by cases d <;> first | rfl | cases h
theorem isi_bool {d : D} (h : d.okD = true) : opIsi "bool" d = pure (.bl (isB d)) := by cases d <;> first | rfl | cases h
theorem isi_str {d : D} (h : d.okD = true) : opIsi "str" d = pure (.bl (isSt d)) := by cases d <;> first | rfl | cases h
theorem isi_tuple {d : D} (h : d.okD = true) : opIsi "tuple" d = pure (.bl (isTu d)) := by cases d <;> first | rfl | cases h
@[simp] theorem noX_pure {α : Type} {a : α} : noX (pure a : M α) = pure a := rfl
theorem lc_map {t : Tg} {c : DenB} {f : Den} {ρ : Env} {p : D → Bool} {g : D → D} : ∀ {ds : List D}, (∀ d ∈ ds, ∃ ρ1, t.bind d ρ = some ρ1 ∧ c ρ1 = pure (p d) ∧ (p d = true → f ρ1 = pure (g d))) → lcL t c f ρ ds = pure ((ds.filter p).map g)
  | [], _ => rfl
  | d :: ds, h => by
    obtain ⟨ρ1, h1, h2, h3⟩ := h d List.mem_cons_self
    have ih := lc_map (ds := ds) fun x hx => h x (List.mem_cons_of_mem _ hx)
    unfold lcL
    rw [h1]
    simp only [optB, h2, noX_pure, pure_bind]
    cases hp : p d with
    | true => simp [h3 hp, ih, List.filter_cons, hp]
    | false => simp [ih, List.filter_cons, hp]
end MP

namespace MP
open PySem L2
open PySem.Spec PyProof.Rows
/-! ## zip of two sequences, each a list or a tuple -/
/-- true: a tuple -/
def ItAt (k : Bool) (h : Heap) (it l : Addr) (i : Nat) : Prop := if k then h.IsTupleIter it l i else h.IsListIter it l i
def SeqAt (k : Bool) (h : Heap) (l : Addr) (xs : Array Value) : Prop := if k then h.IsTuple l xs else h.IsList l xs
def SqX (K : Frag) (k : Bool) (H : Hp) (a : Addr) (xs : List V) : Prop := if k then SqT K H a xs else SqL K H a xs
section
variable {prog : Program} {w : World} {A : Around} {E : Value → Shared → Prop} {s : Shared} {k k' : Bool}
theorem ItAt.eb {b : Addr} {h h' : Heap} {it l : Addr} {i : Nat} (x : ItAt k h it l i) (e : Heap.ExtBut b h h') (n : it ≠ b) : ItAt k h' it l i := by
  cases k
  · exact Heap.IsListIter.extBut x e n
  · exact Heap.IsTupleIter.extBut x e n
theorem ItAt.ob {h h' : Heap} {it l : Addr} {i : Nat} (x : ItAt k h it l i) (e : ∀ o, h.get? it = some o → h'.get? it = some o) : ItAt k h' it l i := by
  cases k
  · exact Heap.IsListIter.at x e
  · exact Heap.IsTupleIter.at x e
theorem ItAt.obj {h : Heap} {it l : Addr} {i : Nat} (x : ItAt k h it l i) : ∃ o, h.get? it = some o ∧ ∀ v, o.data ≠ .cell v := by
  cases k <;> obtain ⟨o, e, _, d⟩ := x <;> exact ⟨o, e, fun v q => by rw [d] at q; cases q⟩
theorem ItAt.lt {h : Heap} {it l : Addr} {i : Nat} (x : ItAt k h it l i) : it < h.objs.size := let ⟨_, e, _⟩ := x.obj; Heap.lt_size e
theorem SeqAt.eb {b : Addr} {h h' : Heap} {l : Addr} {xs : Array Value} (x : SeqAt k h l xs) (e : Heap.ExtBut b h h') (n : l ≠ b) : SeqAt k h' l xs := by
  cases k
  · exact Heap.IsList.extBut x e n
  · exact Heap.IsTuple.extBut x e n
theorem SeqAt.push {h : Heap} {l : Addr} {xs : Array Value} (x : SeqAt k h l xs) (o : Obj) : SeqAt k (h.push o) l xs := by
  cases k
  · exact Heap.IsList.push x o
  · exact Heap.IsTuple.push x o
theorem SeqAt.lt {h : Heap} {l : Addr} {xs : Array Value} (x : SeqAt k h l xs) : l < h.objs.size := by
  cases k <;> obtain ⟨o, e, _⟩ := x <;> exact Heap.lt_size e
theorem next_ok {it l : Addr} {i : Nat} {xs : Array Value} {x : Value} {Q : Value → Shared → Prop} (hi : ItAt k s.heap it l i) (hl : SeqAt k s.heap l xs) (hx : xs[i]? = some x)
    (q : ∀ h', ItAt k h' it l (i + 1) → Heap.SameBut it s.heap h' → Q x { s with heap := h' }) : wpAny (model prog w) A (Builtin.SmallTypes.nextOf (.ref it)) Q E s := by
  cases k
  · exact wpAny_nextOf_list_item hi hl hx q
  · exact RZ.nextOf_tuple_item hi hl hx q
theorem next_no {it l : Addr} {i : Nat} {xs : Array Value} {Q : Value → Shared → Prop} (hh : A.handled = none) (hi : ItAt k s.heap it l i) (hl : SeqAt k s.heap l xs) (hx : xs[i]? = none)
    (q : ∀ h' e, Heap.ExtBut it s.heap h' → (∃ o, h'.get? e = some o ∧ o.cls = .type "StopIteration") → E (.ref e) { s with heap := h' }) : wpAny (model prog w) A (Builtin.SmallTypes.nextOf (.ref it)) Q E s := by
  cases k
  · exact wpAny_nextOf_list_end hh hi hl hx q
  · exact RZ.nextOf_tuple_end hh hi hl hx q
/-- where a zip's things stand -/
structure ZAt (h : Heap) (z p r i j l m : Addr) (k k' : Bool) (n : Nat) (f : Value) : Prop where
  zip : IsZip h z p r f
  its : IsPair h p (.ref i) (.ref j)
  out : ∃ a b, IsPair h r a b
  i1 : ItAt k h i l n
  i2 : ItAt k' h j m n
def Kept (z r i j : Addr) (h h' : Heap) : Prop := ∀ c o, c ≠ z → c ≠ r → c ≠ i → c ≠ j → h.get? c = some o → h'.get? c = some o
theorem zip_yes {z p r i j l m : Addr} {n : Nat} {xs ys : Array Value} {x y : Value} {Q : Value → Shared → Prop} (D : ZipApart z p r i j l m) (Z : ZAt s.heap z p r i j l m k k' n .none)
    (hl : SeqAt k s.heap l xs) (hm : SeqAt k' s.heap m ys) (hx : xs[n]? = some x) (hy : ys[n]? = some y)
    (q : ∀ h', ZAt h' z p r i j l m k k' (n + 1) (rawInt s.heap.objs.size) → IsPair h' s.heap.objs.size x y → h'.objs.size = s.heap.objs.size + 1 → Kept z r i j s.heap h' → Q (.ref s.heap.objs.size) { s with heap := h' }) :
    wpAny (model prog w) A (Builtin.«zip.__next__» ⟨[.ref z], []⟩) (fun fin s' => ∃ v, fin = .done (.ret v) ∧ Q v s') E s := by
  obtain ⟨hz, hp, ⟨a, b, hr⟩, hi, hj⟩ := Z
  show wpAny _ _ (field (.ref z) 2 >>= _) _ _ _; refine wpAny_bind (wpAny_field hz rfl (x := .bool false) rfl ?_)
  show wpAny _ _ (field (.ref z) 3 >>= _) _ _ _; refine wpAny_bind (wpAny_field hz rfl (x := .ref p) rfl ?_)
  refine wpAny_bind (wpAny_seqItems hp rfl ?_); show wpAny _ _ (Builtin.SmallTypes.ownedTupleIsFree (.ref z) >>= _) _ _ _
  apply wpAny_bind; unfold Builtin.SmallTypes.ownedTupleIsFree; refine wpAny_bind (wpAny_field hz rfl (x := .none) rfl (wpAny_pure ?_))
  simp only [if_true]; apply wpAny_bind; refine wpAny_rule ?_
  refine wpAny_bind (wpAny_field hz rfl (x := .ref r) rfl ?_)
  refine wpAny_bind (wpAny_setField_rec hz (by simp) fun g1 z1 s1 => ?_); have z1 : IsZip g1 z p r .ellipsis := z1
  apply wpAny_bind; simp only [List.zipIdx_cons, List.zipIdx_nil, List.forIn_cons, List.forIn_nil]
  apply wpAny_bind; apply wpAny_bind; refine wpAny_onRaise ?_; show wpAny _ _ (Builtin.SmallTypes.nextOf (.ref i) >>= _) _ _ _
  refine wpAny_bind (next_ok (hi.eb s1.extBut D.i1z) (hl.eb s1.extBut D.l1z) hx fun g2 i2 s2 => wpAny_pure ?_)
  have r2 : IsPair g2 r a b := s2.extBut _ _ D.TOi1 (s1.extBut _ _ D.TOz hr)
  refine wpAny_bind (wpAny_seqItems r2 rfl ?_); refine wpAny_bind (wpAny_updateSeq_pair r2 fun g3 r3 s3 => ?_); have r3 : IsPair g3 r x b := r3
  refine wpAny_bind (wpAny_letGo (wpAny_pure ?_)); apply wpAny_bind; apply wpAny_bind; refine wpAny_onRaise ?_
  show wpAny _ _ (Builtin.SmallTypes.nextOf (.ref j) >>= _) _ _ _
  refine wpAny_bind (next_ok (((hj.eb s1.extBut D.i2z).eb s2.extBut D.i12.symm).eb s3.extBut D.TOi2.symm) (((hm.eb s1.extBut D.l2z).eb s2.extBut D.l2i1).eb s3.extBut D.l2TO) hy fun g4 j4 s4 => wpAny_pure ?_)
  have r4 : IsPair g4 r x b := s4.extBut _ _ D.TOi2 r3
  refine wpAny_bind (wpAny_seqItems r4 rfl ?_); refine wpAny_bind (wpAny_updateSeq_pair r4 fun g5 r5 s5 => ?_); have r5 : IsPair g5 r x y := r5
  refine wpAny_bind (wpAny_letGo (wpAny_pure (wpAny_pure ?_))); refine wpAny_bind (wpAny_seqItems r5 rfl ?_); refine wpAny_bind (wpAny_newTuple ?_)
  have sz : g5.objs.size = s.heap.objs.size := by rw [s5.1, s4.1, s3.1, s2.1, s1.1]
  have z5 : IsZip g5 z p r .ellipsis := s5.extBut _ _ D.TOz.symm (s4.extBut _ _ D.i2z.symm (s3.extBut _ _ D.TOz.symm (s2.extBut _ _ D.i1z.symm z1)))
  have kp : Kept z r i j s.heap g5 := fun c o n1 n2 n3 n4 e => s5.extBut _ _ n2 (s4.extBut _ _ n4 (s3.extBut _ _ n2 (s2.extBut _ _ n3 (s1.extBut _ _ n1 e))))
  have i5 : ItAt k g5 i l (n + 1) := ((i2.eb s3.extBut D.TOi1.symm).eb s4.extBut D.i12).eb s5.extBut D.TOi1.symm
  have j5 : ItAt k' g5 j m (n + 1) := j4.eb s5.extBut D.TOi2.symm
  have zl : z < g5.objs.size := Heap.lt_size z5
  show wpAny _ _ (Builtin.SmallTypes.ownedTupleHandOut (.ref z) (.ref g5.objs.size) >>= _) _ _ _
  apply wpAny_bind; unfold Builtin.SmallTypes.ownedTupleHandOut
  have z6 : IsZip (g5.push { cls := .type "tuple", data := .seq #[x, y] }) z p r .ellipsis := Heap.get?_push_of_some _ z5
  refine wpAny_bind (wpAny_setField_rec z6 (by simp) fun g7 z7 s7 => ?_); have z7 : IsZip g7 z p r (rawInt g5.objs.size) := z7
  refine wpAny_setField_rec z7 (by simp) fun g8 z8 s8 => ?_; have z8 : IsZip g8 z p r (rawInt g5.objs.size) := z8
  have up : ∀ c o, c ≠ z → g5.get? c = some o → g8.get? c = some o := fun c o n1 e => s8.extBut _ _ n1 (s7.extBut _ _ n1 (Heap.get?_push_of_some _ e))
  have t8 : IsPair g8 g5.objs.size x y := s8.extBut _ _ (Nat.ne_of_gt zl) (s7.extBut _ _ (Nat.ne_of_gt zl) (Heap.get?_push_size _ rfl))
  have sz8 : g8.objs.size = g5.objs.size + 1 := by rw [s8.1, s7.1, Heap.size_push]
  rw [sz] at z8 t8 sz8; refine wpAny_pure ⟨_, rfl, ?_⟩; show Q (.ref g5.objs.size) _
  rw [sz]
  exact q g8 ⟨z8, kp _ _ D.TIz D.TITO D.TIi1 D.TIi2 hp |> up _ _ D.TIz, ⟨_, _, up _ _ D.TOz r5⟩, i5.ob fun o e => up _ o D.i1z e, j5.ob fun o e => up _ o D.i2z e⟩ t8 sz8 fun c o n1 n2 n3 n4 e => up c o n1 (kp c o n1 n2 n3 n4 e)
theorem zip_no {z p r i j l m : Addr} {n : Nat} {xs ys : Array Value} {Q : Fin → Shared → Prop} (hh : A.handled = none) (D : ZipApart z p r i j l m) (Z : ZAt s.heap z p r i j l m k k' n .none)
    (hl : SeqAt k s.heap l xs) (hm : SeqAt k' s.heap m ys) (he : xs[n]? = none ∨ ys[n]? = none)
    (q : ∀ h' e, Kept z r i j s.heap h' → (∃ o, h'.get? e = some o ∧ o.cls = .type "StopIteration") → E (.ref e) { s with heap := h' }) : wpAny (model prog w) A (Builtin.«zip.__next__» ⟨[.ref z], []⟩) Q E s := by
  obtain ⟨hz, hp, ⟨a, b, hr⟩, hi, hj⟩ := Z
  show wpAny _ _ (field (.ref z) 2 >>= _) _ _ _; refine wpAny_bind (wpAny_field hz rfl (x := .bool false) rfl ?_)
  show wpAny _ _ (field (.ref z) 3 >>= _) _ _ _; refine wpAny_bind (wpAny_field hz rfl (x := .ref p) rfl ?_)
  refine wpAny_bind (wpAny_seqItems hp rfl ?_); show wpAny _ _ (Builtin.SmallTypes.ownedTupleIsFree (.ref z) >>= _) _ _ _
  apply wpAny_bind; unfold Builtin.SmallTypes.ownedTupleIsFree; refine wpAny_bind (wpAny_field hz rfl (x := .none) rfl (wpAny_pure ?_))
  simp only [if_true]; apply wpAny_bind; refine wpAny_rule ?_
  refine wpAny_bind (wpAny_field hz rfl (x := .ref r) rfl ?_)
  refine wpAny_bind (wpAny_setField_rec hz (by simp) fun g1 z1 s1 => ?_); have z1 : IsZip g1 z p r .ellipsis := z1
  apply wpAny_bind; simp only [List.zipIdx_cons, List.zipIdx_nil, List.forIn_cons, List.forIn_nil]
  apply wpAny_bind; apply wpAny_bind; refine wpAny_onRaise ?_; show wpAny _ _ (Builtin.SmallTypes.nextOf (.ref i) >>= _) _ _ _
  cases hx : xs[n]? with
  | none =>
    refine wpAny_bind (next_no hh (hi.eb s1.extBut D.i1z) (hl.eb s1.extBut D.l1z) hx fun g2 e s2 ⟨o, ho, hc⟩ => ?_)
    have z2 : IsZip g2 z p r .ellipsis := s2 _ _ D.i1z.symm z1
    have ez : e ≠ z := fun w => by subst w; rw [z2] at ho; cases ho; simp at hc
    exact wpAny_setField_rec z2 (by simp) fun g3 _ s3 => q g3 e (fun c o n1 _ n3 _ w => s3.extBut _ _ n1 (s2 _ _ n3 (s1.extBut _ _ n1 w))) ⟨o, s3.extBut _ _ ez ho, hc⟩
  | some x =>
    have hy : ys[n]? = none := he.elim (fun w => by rw [hx] at w; cases w) id
    refine wpAny_bind (next_ok (hi.eb s1.extBut D.i1z) (hl.eb s1.extBut D.l1z) hx fun g2 i2 s2 => wpAny_pure ?_)
    have r2 : IsPair g2 r a b := s2.extBut _ _ D.TOi1 (s1.extBut _ _ D.TOz hr)
    refine wpAny_bind (wpAny_seqItems r2 rfl ?_); refine wpAny_bind (wpAny_updateSeq_pair r2 fun g3 r3 s3 => ?_)
    refine wpAny_bind (wpAny_letGo (wpAny_pure ?_)); apply wpAny_bind; apply wpAny_bind; refine wpAny_onRaise ?_
    show wpAny _ _ (Builtin.SmallTypes.nextOf (.ref j) >>= _) _ _ _
    refine wpAny_bind (next_no hh (((hj.eb s1.extBut D.i2z).eb s2.extBut D.i12.symm).eb s3.extBut D.TOi2.symm) (((hm.eb s1.extBut D.l2z).eb s2.extBut D.l2i1).eb s3.extBut D.l2TO) hy fun g4 e s4 ⟨o, ho, hc⟩ => ?_)
    have z4 : IsZip g4 z p r .ellipsis := s4 _ _ D.i2z.symm (s3.extBut _ _ D.TOz.symm (s2.extBut _ _ D.i1z.symm z1))
    have ez : e ≠ z := fun w => by subst w; rw [z4] at ho; cases ho; simp at hc
    exact wpAny_setField_rec z4 (by simp) fun g5 _ s5 => q g5 e (fun c o n1 n2 n3 n4 w => s5.extBut _ _ n1 (s4 _ _ n4 (s3.extBut _ _ n2 (s2.extBut _ _ n3 (s1.extBut _ _ n1 w))))) ⟨o, s5.extBut _ _ ez ho, hc⟩
theorem pyNext_yes {z p r i j l m : Addr} {n : Nat} {xs ys : Array Value} {x y : Value} {Q : Option Value → Shared → Prop} (D : ZipApart z p r i j l m) (Z : ZAt s.heap z p r i j l m k k' n .none)
    (hl : SeqAt k s.heap l xs) (hm : SeqAt k' s.heap m ys) (hx : xs[n]? = some x) (hy : ys[n]? = some y)
    (q : ∀ h', ZAt h' z p r i j l m k k' (n + 1) (rawInt s.heap.objs.size) → IsPair h' s.heap.objs.size x y → h'.objs.size = s.heap.objs.size + 1 → Kept z r i j s.heap h' → Q (some (.ref s.heap.objs.size)) { s with heap := h' }) :
    wpAny (model prog w) A (pyNext (.ref z)) Q E s := by
  have T : s.TypeIs (.ref z) "zip" := ⟨_, Z.zip, rfl⟩
  unfold pyNext; apply wpAny_bind; apply wpAny_attempt
  exact wpAny_callSpecial?_slot (name := Str.ofString "__next__") T F.slot_zip_next (wpAny_call_entry F.slot_zip_next T F.entry_zip_next (zip_yes D Z hl hm hx hy fun h' a b c d => wpAny_pure (q h' a b c d)) (F.args_zip_next_1 _))
theorem pyNext_no {z p r i j l m : Addr} {n : Nat} {xs ys : Array Value} {Q : Option Value → Shared → Prop} (hh : A.handled = none) (D : ZipApart z p r i j l m) (Z : ZAt s.heap z p r i j l m k k' n .none)
    (hl : SeqAt k s.heap l xs) (hm : SeqAt k' s.heap m ys) (he : xs[n]? = none ∨ ys[n]? = none)
    (q : ∀ h', Kept z r i j s.heap h' → Q none { s with heap := h' }) : wpAny (model prog w) A (pyNext (.ref z)) Q E s := by
  have T : s.TypeIs (.ref z) "zip" := ⟨_, Z.zip, rfl⟩
  unfold pyNext; apply wpAny_bind; apply wpAny_attempt
  refine wpAny_callSpecial?_slot (name := Str.ofString "__next__") T F.slot_zip_next (wpAny_call_entry F.slot_zip_next T F.entry_zip_next (zip_no hh D Z hl hm he fun h' e kp ⟨o, ho, hc⟩ => ?_) (F.args_zip_next_1 _))
  exact wpAny_bind (wpAny_isInstance (T := "StopIteration") (b := true) ⟨o, ho, hc⟩ isSubtype_stop (wpAny_pure (q _ kp)))
def itO (k : Bool) (l : Addr) : Obj := { cls := .type (if k then "tuple_iterator" else "list_iterator"), data := .fields #[.ref l, .int 0 0] }
theorem iter_new {l : Addr} {xs : Array Value} {Q : Value → Shared → Prop} (hl : SeqAt k s.heap l xs) (h : Q (.ref s.heap.objs.size) { s with heap := s.heap.push (itO k l) }) : wpAny (model prog w) A (pyIter (.ref l)) Q E s := by
  cases k
  · exact wpAny_pyIter_list hl h
  · exact wpAny_pyIter_tuple hl h
theorem itO_at {h : Heap} {l it : Addr} (e : h.get? it = some (itO k l)) : ItAt k h it l 0 := by
  cases k <;> exact ⟨_, e, rfl, rfl⟩
end
/-- the heap behind zip(l, m) -/
def hzip (k k' : Bool) (h : Heap) (l m : Addr) : Heap :=
  ((((h.push (itO k l)).push (itO k' m)).push { cls := .type "tuple", data := .seq #[.ref h.objs.size, .ref (h.push (itO k l)).objs.size] }).push { cls := .type "tuple", data := .seq #[.none, .none] }).push
    { cls := .type "zip", data := .fields #[.none, .bool false, .bool false, .ref ((h.push (itO k l)).push (itO k' m)).objs.size, .ref (((h.push (itO k l)).push (itO k' m)).push { cls := .type "tuple", data := .seq #[.ref h.objs.size, .ref (h.push (itO k l)).objs.size] }).objs.size] }
theorem zip_meets (k k' : Bool) (l m : Addr) (xs ys : Array Value) :
    Meets (Builtin.«zip.__new__» ⟨[.type "zip", .ref l, .ref m], []⟩) (fun _ R s => SeqAt k s.heap l xs ∧ SeqAt k' s.heap m ys ∧ R (.ok (.ret (.ref (s.heap.objs.size + 4)))) { s with heap := hzip k k' s.heap l m }) :=
  .of_wp fun prog w A R s h => by
    obtain ⟨hp, g, d, tk, os⟩ := s; obtain ⟨h1, h2, h⟩ := h
    have su := sub_zip
    have a1 : SeqAt k (Shared.heap ⟨hp, g, d, tk, os⟩) l xs := h1
    have a2 : SeqAt k' (Shared.heap ⟨hp.push (itO k l), g, d, tk, os⟩) m ys := SeqAt.push h2 _
    wp_walk using iter_new a1, iter_new a2
    refine ⟨_, rfl, ?_⟩
    have e : hp.objs.size + 4 = ((((hp.push (itO k l)).push (itO k' m)).push { cls := .type "tuple", data := .seq #[.ref hp.objs.size, .ref (hp.push (itO k l)).objs.size] }).push { cls := .type "tuple", data := .seq #[.none, .none] }).objs.size := by simp [Heap.size_push]
    rw [show (Shared.heap ⟨hp, g, d, tk, os⟩) = hp from rfl, e] at h
    exact h
theorem zip_at {h : Heap} {k k' : Bool} {l m : Addr} : ZAt (hzip k k' h l m) (h.objs.size + 4) (h.objs.size + 2) (h.objs.size + 3) h.objs.size (h.objs.size + 1) l m k k' 0 .none ∧ (∀ c o, h.get? c = some o → (hzip k k' h l m).get? c = some o) := by
  have z1 : (h.push (itO k l)).objs.size = h.objs.size + 1 := Heap.size_push ..
  have z2 : ((h.push (itO k l)).push (itO k' m)).objs.size = h.objs.size + 2 := by rw [Heap.size_push, z1]
  unfold hzip
  rw [z1, z2]
  generalize ho3 : ({ cls := .type "tuple", data := .seq #[.ref h.objs.size, .ref (h.objs.size + 1)] } : Obj) = o3
  have z3 : (((h.push (itO k l)).push (itO k' m)).push o3).objs.size = h.objs.size + 3 := by rw [Heap.size_push, z2]
  rw [z3]
  generalize ho4 : ({ cls := .type "tuple", data := .seq #[.none, .none] } : Obj) = o4
  have z4 : ((((h.push (itO k l)).push (itO k' m)).push o3).push o4).objs.size = h.objs.size + 4 := by rw [Heap.size_push, z3]
  refine ⟨⟨?_, ?_, ⟨.none, .none, ?_⟩, itO_at ?_, itO_at ?_⟩, fun c o e => ?_⟩
  · rw [← z4]; exact Heap.get?_push_size _ rfl
  · refine Heap.get?_push_of_some _ (Heap.get?_push_of_some _ ?_); rw [← z2]; subst ho3; exact Heap.get?_push_size _ rfl
  · refine Heap.get?_push_of_some _ ?_; rw [← z3]; subst ho4; exact Heap.get?_push_size _ rfl
  · refine Heap.get?_push_of_some _ (Heap.get?_push_of_some _ (Heap.get?_push_of_some _ (Heap.get?_push_of_some _ ?_))); exact Heap.get?_push_size _ (by cases k <;> rfl)
  · refine Heap.get?_push_of_some _ (Heap.get?_push_of_some _ (Heap.get?_push_of_some _ ?_)); rw [← z1]; exact Heap.get?_push_size _ (by cases k' <;> rfl)
  · exact Heap.get?_push_of_some _ (Heap.get?_push_of_some _ (Heap.get?_push_of_some _ (Heap.get?_push_of_some _ (Heap.get?_push_of_some _ e))))
theorem call_zipX {prog : Program} {w : World} {A : Around} {E : Value → Shared → Prop} {s : Shared} {k k' : Bool} {l m : Addr} {xs ys : Array Value} {Q : Value → Shared → Prop} (h1 : SeqAt k s.heap l xs) (h2 : SeqAt k' s.heap m ys)
    (h : Q (.ref (s.heap.objs.size + 4)) { s with heap := hzip k k' s.heap l m }) : wpAny (model prog w) A (call (.type "zip") [.ref l, .ref m]) Q E s := by
  refine callType_new F.called_zip (by decide) (F.typeCall_zip_2 _ _) (F.newCall_zip_2 _ _) (fun obj => F.args_object_init_3 obj _ _) F.entry_zip_new (zip_meets k k' l m xs ys) ⟨h1, h2, ?_⟩
  exact ⟨⟨_, zip_at.1.zip, rfl⟩, h⟩
/-! ### at the layer -/
def Itx (K : Frag) (k k' : Bool) (a b : Addr) : It :=
  ⟨fun i H => ∃ (xs ys : List V) (x y : V), SqX K k H a xs ∧ SqX K k' H b ys ∧ xs[i]? = some x ∧ ys[i]? = some y,
    fun i H v H' => ∃ T x y, v = .ref T ∧ H T = none ∧ H' = upd H T (.tup [x, y]) ∧ (∀ xs, SqX K k H a xs → xs[i]? = some x) ∧ ∀ ys, SqX K k' H b ys → ys[i]? = some y,
    fun i H => ∃ xs ys : List V, SqX K k H a xs ∧ SqX K k' H b ys ∧ (xs.length ≤ i ∨ ys.length ≤ i)⟩
section
variable {X : Cx} {pins : List (Addr × Obj)} {σ : L2.St} {H : Hp} {s : Shared} {k : Bool}
theorem seq_inj (I : Inv X pins σ H s) {a : Addr} {xs ys : List V} (h : SqX X.K k H a xs) (h' : SqX X.K k H a ys) : xs = ys := by
  cases k
  · exact I.list_inj h h'
  · exact I.tuple_inj h h'
theorem seq_at (I : Inv X pins σ H s) {a : Addr} {xs : List V} (h : SqX X.K k H a xs) : ∃ its : List Value, Vals xs its ∧ SeqAt k s.heap a its.toArray := by
  cases k
  · obtain ⟨its, rv, p, _⟩ := I.list h
    exact ⟨its, rv, p.isList⟩
  · obtain ⟨its, rv, p, _⟩ := I.tuple h
    exact ⟨its, rv, p⟩
end
theorem apart_of {n l m : Nat} (h1 : l < n) (h2 : m < n) : ZipApart (n + 4) (n + 2) (n + 3) n (n + 1) l m := PySem.W.ktu_apart n l m h1 h2
theorem turn_zipX {P : Program} {w : World} {K : Frag} {elts : List Expr} {kk : Nat} {tpos : Pos} {k k' : Bool} {a b z p r i1 i2 : Addr} (D : ZipApart z p r i1 i2 a b) :
    Turn P w K (.Tuple elts kk tpos) (Itx K k k' a b) [z, p, r, i1, i2] z (fun i h => ZAt h z p r i1 i2 a b k k' i .none) where
  mem := by simp
  obj := fun i h st c hc => by
    obtain ⟨hz, hp, ⟨x, y, hr⟩, h1, h2⟩ := st
    have hc' : c = z ∨ c = p ∨ c = r ∨ c = i1 ∨ c = i2 := by simpa using hc
    rcases hc' with rfl | rfl | rfl | rfl | rfl
    · exact ⟨_, hz, fun v q => nomatch q⟩
    · exact ⟨_, hp, fun v q => nomatch q⟩
    · exact ⟨_, hr, fun v q => nomatch q⟩
    · exact h1.obj
    · exact h2.obj
  keep := fun i h h' st kp => by
    obtain ⟨hz, hp, ⟨x, y, hr⟩, h1, h2⟩ := st
    exact ⟨kp z (by simp) _ hz, kp p (by simp) _ hp, ⟨x, y, kp r (by simp) _ hr⟩, h1.ob fun o q => kp i1 (by simp) o q, h2.ob fun o q => kp i2 (by simp) o q⟩
  item := by
    intro X hP hw hK hc i pins s σ H E I hf Z hg; subst hP hw hK
    obtain ⟨xs, ys, x, y, q1, q2, hx, hy⟩ := hg
    obtain ⟨its, rv, p1⟩ := seq_at I q1
    obtain ⟨its2, rv2, p2⟩ := seq_at I q2
    obtain ⟨u, hu, ru⟩ := rv.get hx
    obtain ⟨u2, hu2, ru2⟩ := rv2.get hy
    have zl : z < s.heap.objs.size := Heap.lt_size Z.zip
    refine pyNext_yes D Z p1 p2 (x := u) (y := u2) (by simpa using hu) (by simpa using hu2) fun h' Z' hT sz kp => ?_
    refine ⟨_, rfl, wpAny_letOwnedTupleGo_zip (s := { s with heap := h' }) Z'.zip fun g gz sb => ?_⟩
    have gT : g.get? s.heap.objs.size = some { cls := .type "tuple", data := .seq #[u, u2] } := (sb.2 _ (Nat.ne_of_gt zl)).trans hT
    have new : ObjOk X.prog X.w (upd H s.heap.objs.size (.tup [x, y])) g s.heap.objs.size (.tup [x, y]) := ⟨by show 2 ≤ sizeLine; decide, [u, u2], .cons ru (.cons ru2 .nil), ⟨_, gT, rfl, _, rfl⟩⟩
    have I1 : Inv X pins σ (upd H s.heap.objs.size (.tup [x, y])) { s with heap := g } :=
      I.turnedNew (t' := s.toks) (ch := [z, p, r, i1, i2]) (fun c o hb q => by
        have hb' : c ≠ z ∧ c ≠ p ∧ c ≠ r ∧ c ≠ i1 ∧ c ≠ i2 := by simpa using hb
        exact (sb.2 c hb'.1).trans (kp c o hb'.1 hb'.2.2.1 hb'.2.2.2.1 hb'.2.2.2.2 q)) hf (Nat.le_refl _) new
    refine ⟨.ref s.heap.objs.size, _, I1, rfl, ⟨_, x, y, rfl, I.hok.fresh (Nat.le_refl _), rfl, fun l hl => by rw [seq_inj I hl q1]; exact hx, fun l hl => by rw [seq_inj I hl q2]; exact hy⟩, ⟨gz, ?_, ?_, ?_, ?_⟩, fun c hcm => ?_⟩
    · exact (sb.2 _ D.TIz).trans Z'.its
    · obtain ⟨a', b', e⟩ := Z'.out
      exact ⟨a', b', (sb.2 _ D.TOz).trans e⟩
    · exact Z'.i1.ob fun o q => (sb.2 _ D.i1z).trans q
    · exact Z'.i2.ob fun o q => (sb.2 _ D.i2z).trans q
    · have lt : c < s.heap.objs.size := by
        have hc' : c = z ∨ c = p ∨ c = r ∨ c = i1 ∨ c = i2 := by simpa using hcm
        rcases hc' with rfl | rfl | rfl | rfl | rfl
        · exact zl
        · exact Heap.lt_size Z.its
        · obtain ⟨_, _, e⟩ := Z.out; exact Heap.lt_size e
        · exact Z.i1.lt
        · exact Z.i2.lt
      rw [upd_ne (Nat.ne_of_lt lt)]; exact (hf c hcm).1
  done := by
    intro X hP hw hK hc i pins s σ H E I hf Z hg; subst hP hw hK
    obtain ⟨xs, ys, q1, q2, hend⟩ := hg
    obtain ⟨its, rv, p1⟩ := seq_at I q1
    obtain ⟨its2, rv2, p2⟩ := seq_at I q2
    have l1 := rv.length
    have l2 := rv2.length
    have he : its.toArray[i]? = none ∨ its2.toArray[i]? = none := hend.imp (fun q => by simp; omega) (fun q => by simp; omega)
    exact pyNext_no (I.ok.hd hc) D Z p1 p2 he fun h' kp => ⟨rfl, I.turnedL (t' := s.toks) (ch := [z, p, r, i1, i2]) (fun c o hb q => by
        have hb' : c ≠ z ∧ c ≠ p ∧ c ≠ r ∧ c ≠ i1 ∧ c ≠ i2 := by simpa using hb
        exact kp c o hb'.1 hb'.2.2.1 hb'.2.2.2.1 hb'.2.2.2.2 q) hf⟩
  self := fun A i s Q E st h => wpAny_pyIter_zip st.zip h
def iZipX (K : Frag) (ta : TA) : TI := fun σ H R => ta σ H fun vs H1 => ∃ k k' a b xs ys, vs = [.ref a, .ref b] ∧ SqX K k H1 a xs ∧ SqX K k' H1 b ys ∧ R (Itx K k k' a b) H1
theorem pi_zipX {X : Cx} {e e2 : Expr} {ta : TA} {p pos tpos : Pos} {elts : List Expr} {kk : Nat} (hg : Gl X "zip") (hm : X.mg "zip" = none) (ha : PA X [e, e2] ta)
    (hs : starEach [e, e2] X.env = (false, eval e X.env) :: starEach [e2] X.env := by rfl) (hpl : (backTo pos (starEach [e2] X.env)).any (·.1) = false := by rfl) :
    PI X (.Tuple elts kk tpos) (.Call (.Name "zip" p) [e, e2] [] pos) (iZipX X.K ta) := by
  refine ⟨fun pins s σ H R I h => ?_⟩
  refine Call_ (ld_blt I hg hm boot_zip (callWith_type1 (thn (ha.run pos pins s σ H _ I h) fun us s1 ⟨vs, H1, I1, r1, q1⟩ => ?_) hs hpl))
  obtain ⟨k, k', a, b, xs, ys, ev, qa, qb, q⟩ := q1
  subst ev
  cases r1 with
  | cons ra r2 =>
  cases r2 with
  | cons rb r3 =>
  cases r3
  cases ra
  cases rb
  obtain ⟨its, rv, p1⟩ := seq_at I1 qa
  obtain ⟨its2, rv2, p2⟩ := seq_at I1 qb
  obtain ⟨Z, kp⟩ := zip_at (h := s1.heap) (k := k) (k' := k') (l := a) (m := b)
  refine call_zipX p1 p2 (wpAny_pyIter_zip Z.zip ?_)
  have I2 : Inv X pins σ H1 { s1 with heap := hzip k k' s1.heap a b } := I1.kept (t' := s1.toks) kp
  refine ⟨s1.heap.objs.size + 4, [s1.heap.objs.size + 4, s1.heap.objs.size + 2, s1.heap.objs.size + 3, s1.heap.objs.size, s1.heap.objs.size + 1], _, _, H1, rfl, I2, turn_zipX (apart_of p1.lt p2.lt), Z, fun c hcm => ?_, q⟩
  have le : s1.heap.objs.size ≤ c := by
    have hc' : c = s1.heap.objs.size + 4 ∨ c = s1.heap.objs.size + 2 ∨ c = s1.heap.objs.size + 3 ∨ c = s1.heap.objs.size ∨ c = s1.heap.objs.size + 1 := by simpa using hcm
    rcases hc' with e | e | e | e | e <;> rw [e]
    · exact Nat.le_add_right _ _
    · exact Nat.le_add_right _ _
    · exact Nat.le_add_right _ _
    · exact Nat.le_refl _
    · exact Nat.le_add_right _ _
  exact I1.fpOk le (I1.hok.fresh le)
/-! ### by the data -/
def seqOf : D → M (List D)
  | .lst ds => pure ds
  | .tup ds => pure ds
  | _ => M.stuck
def zipL : List D → M (List D)
  | [x, y] => seqOf x >>= fun a => seqOf y >>= fun b => pure ((a.zip b).map fun p => D.tup [p.1, p.2])
  | _ => M.stuck
section
variable {K : Frag} {E : XK} {H : Hp} {o : Lo} {st : Store} {X : Cx}
theorem seqOf_wp {d : D} {v : V} {Q : List D → Store → Prop} {Z : Exn → Store → Prop} (r : Rep K H o d v) (h : wpR (seqOf d st) Q Z) :
    ∃ k ds a xs, v = .ref a ∧ SqX K k H a xs ∧ Reps K H o ds xs ∧ (∀ H' o', LeR K H o H' o' → ∃ xs, SqX K k H' a xs ∧ Reps K H' o' ds xs) ∧ Q ds st := by
  cases d with
  | lst ds =>
    obtain ⟨a, xs, e, h1, av, h2⟩ := id r
    refine ⟨false, ds, a, xs, e, SqL.of h1, h2, fun H' o' l => ?_, h⟩
    obtain ⟨a', xs', e', h1', _, h2'⟩ := l _ _ r
    rw [e] at e'; cases e'
    exact ⟨xs', SqL.of h1', h2'⟩
  | tup ds =>
    obtain ⟨a, xs, e, h1, h2⟩ := id r
    refine ⟨true, ds, a, xs, e, tup_sq h1, h2, fun H' o' l => ?_, h⟩
    obtain ⟨a', xs', e', h1', h2'⟩ := l _ _ r
    rw [e] at e'; cases e'
    exact ⟨xs', tup_sq h1', h2'⟩
  | _ => exact False.elim h
theorem di_zip {e e2 : Expr} {fs : DenL} {p pos tpos : Pos} {elts : List Expr} {kk : Nat} (hg : Gl X "zip") (hm : X.mg "zip" = none) (ha : PL X E [e, e2] fs)
    (hs : starEach [e, e2] X.env = (false, eval e X.env) :: starEach [e2] X.env := by rfl) (hpl : (backTo pos (starEach [e2] X.env)).any (·.1) = false := by rfl) :
    PDI X E (.Tuple elts kk tpos) (.Call (.Name "zip" p) [e, e2] [] pos) (fun ρ => fs ρ >>= zipL) := PI.imp (pi_zipX hg hm ha hs hpl) fun σ H R h => by
  obtain ⟨o, ρ, st, he, so, h⟩ := h
  refine ⟨o, ρ, st, he, so, ?_⟩
  refine (wpR.bind.mp h).mono (fun ds st1 h1 vs H1 o1 l s1 r => ?_) fun _ _ x => x
  match ds, r, h1 with
  | [], _, h1 => exact False.elim h1
  | [_], _, h1 => exact False.elim h1
  | _ :: _ :: _ :: _, _, h1 => exact False.elim h1
  | [d, d'], r, h1 =>
    obtain ⟨v, v', rfl, rv, rv'⟩ := r.two_of
    have h1' : wpR ((seqOf d >>= fun a => seqOf d' >>= fun b => pure ((a.zip b).map fun p => D.tup [p.1, p.2])) st1) (IOk X.K H o R) (XOk X.K E H o) := h1
    obtain ⟨k, as, a, xs, rfl, sa, ra, ka, h2⟩ := seqOf_wp rv (wpR.bind.mp h1')
    obtain ⟨k', bs, b, ys, rfl, sb, rb, kb, h3⟩ := seqOf_wp rv' (wpR.bind.mp h2)
    refine ⟨k, k', a, b, xs, ys, rfl, sa, sb, (show IOk X.K H o R ((as.zip bs).map fun p => D.tup [p.1, p.2]) st1 from h3) _ H1 o1 l s1 ?_⟩
    intro H2 o2 st2 lr s2
    obtain ⟨xs2, sa2, ra2⟩ := ka H2 o2 lr.rep
    obtain ⟨ys2, sb2, rb2⟩ := kb H2 o2 lr.rep
    refine ⟨⟨xs2, ys2, sa2, sb2, ?_⟩, fun i d hd => ?_⟩
    · rw [ra2.length, rb2.length]; simp; omega
    · rw [List.getElem?_map] at hd
      obtain ⟨⟨x, y⟩, hz, rfl⟩ := Option.map_eq_some_iff.mp hd
      obtain ⟨hx, hy⟩ := List.getElem?_zip_eq_some.mp hz
      obtain ⟨u, hu, ru⟩ := ra2.get hx
      obtain ⟨u', hu', ru'⟩ := rb2.get hy
      refine ⟨⟨xs2, ys2, u, u', sa2, sb2, hu, hu'⟩, fun v H3 y => ?_⟩
      obtain ⟨T, x0, y0, rfl, hT, rfl, e1, e2⟩ := y
      have q1 := e1 _ sa2
      have q2 := e2 _ sb2
      rw [hu] at q1; rw [hu'] at q2
      cases q1; cases q2
      refine ⟨.inr ⟨T, _, hT, rfl⟩, ?_⟩
      exact Rep.newTup s2 hT ⟨u, _, rfl, ru, u', _, rfl, ru', rfl⟩
end
end MP

namespace MP
open PySem L2
open PySem.Spec PyProof.Rows
/-! ## comprehensions with two clauses, no tests -/
def lc2L (t : Tg) (it1 : DenI) (vs1 : List Nat) (t1 : Tg) (f : Den) (ρ0 : Env) : Nat → List D → M (List D)
  | _, [] => pure []
  | n, d :: ds => optB (t.bind d ρ0) fun ρ1 => noX (it1 ρ1) >>= fun es => guardL (decide (n + es.length ≤ big)) (lcL t1 (fun _ => pure true) f (wipeE ρ1 vs1) es) >>= fun ys => lc2L t it1 vs1 t1 f ρ0 (n + es.length) ds >>= fun zs => pure (ys ++ zs)
@[simp] def dLc2 (it : DenI) (vs : List Nat) (t : Tg) (it1 : DenI) (vs1 : List Nat) (t1 : Tg) (f : Den) : Den := fun ρ => it ρ >>= fun ds => lc2L t it1 vs1 t1 f (wipeE ρ vs) 0 ds >>= fun ys => pure (.lst ys)
section
variable {K : Frag} {E : XK} {H H' : Hp} {o o' : Lo} {st : Store} {X : Cx}
theorem tD_lc2 {it it1 : DenI} {vs vs1 : List Nat} {t t1 : Tg} {f : Den} {σ : L2.St} {Q : VK} (hsub : ∀ i ∈ t.slots, i ∈ vs) (hsub1 : ∀ i ∈ t1.slots, i ∈ vs1) (h : tD K E (dLc2 it vs t it1 vs1 t1 f) σ H Q) :
    tLc2 (tI K E it) (t.g K) (tT K EX0 fun _ => pure true) (tI K EX0 it1) (t1.g K) (tT K EX0 fun _ => pure true) (tD K EX0 f) vs vs1 σ H Q := by
  obtain ⟨o, ρ, st, he, hs, h⟩ := h
  refine ⟨o, ρ, st, he, hs, ?_⟩
  refine (wpR.bind.mp h).mono (fun ds st1 h1 J H1 o1 l1 s1 w Dd hD => ?_) fun _ _ x => x
  have h1 := wpR.bind.mp h1
  let P : Nat → List D → List D → Store → Prop := fun n rest accd st => wpR (lc2L t it1 vs1 t1 f (wipeE ρ vs) n rest st) (fun zs st' => VOk K H o Q (.lst (accd ++ zs)) st') (XOk K E H o)
  let W : List D → List V → Hp → Lo → Store → Prop := fun accd acc Hi oi sti => Lc H1 o1 Hi oi ∧ oi.z = Dd :: o1.z ∧ LeW K (upd H1 Dd (.lst [])) (o1.hold Dd) Hi oi ∧ StOk K Hi oi sti ∧ Hi Dd = some (.lst acc) ∧ some Dd ∉ oi.l ∧ Reps K Hi oi accd acc
  refine ⟨fun i m Hi => m = ds.length - i ∧ i ≤ ds.length ∧ ∃ oi sti accd acc, W accd acc Hi oi sti ∧ P accd.length (ds.drop i) accd sti,
    ⟨_, rfl, Nat.zero_le _, o1.hold Dd, st1, [], [], ⟨Lc.hold hD, rfl, LeW.refl, s1.hold hD, upd_same, (s1.avOf hD).1, rfl⟩, h1⟩, ?_⟩
  rintro i m Hi ⟨rfl, hi, oi, sti, accd, acc, ⟨lc, ez, lr, si, eD, nD, ra⟩, hw⟩
  have lr0 : LeW K H1 o1 Hi oi := (LeW.hold hD).trans lr
  obtain ⟨w1, w2⟩ := w Hi oi sti lr0 si
  by_cases hlt : i < ds.length
  · rw [List.drop_eq_getElem_cons hlt] at hw
    obtain ⟨go, yl⟩ := w2 i _ (List.getElem?_eq_getElem hlt)
    refine .inr ⟨go, fun H2 => ∃ m', m' < ds.length - i ∧ (m' = ds.length - (i + 1) ∧ i + 1 ≤ ds.length ∧ ∃ oi sti accd acc, W accd acc H2 oi sti ∧ P accd.length (ds.drop (i + 1)) accd sti), fun _ x => x, fun x H2 y => ?_⟩
    obtain ⟨gr, rx⟩ := yl x H2 y
    have l2 : Le Hi oi H2 oi := Gr.le gr
    have s2 := Gr.stOk gr si
    have hw' : wpR (optB (t.bind ds[i] (wipeE ρ vs)) (fun ρ1 => noX (it1 ρ1) >>= fun es => guardL (decide (accd.length + es.length ≤ big)) (lcL t1 (fun _ => pure true) f (wipeE ρ1 vs1) es) >>= fun ys => lc2L t it1 vs1 t1 f (wipeE ρ vs) (accd.length + es.length) (ds.drop (i + 1)) >>= fun zs => pure (ys ++ zs)) sti) (fun zs st' => VOk K H o Q (.lst (accd ++ zs)) st') (XOk K E H o) := hw
    cases hb : t.bind ds[i] (wipeE ρ vs) with
    | none => rw [hb] at hw'; exact False.elim hw'
    | some ρ1 =>
      rw [hb] at hw'
      have env0 : EnvOk K H2 oi (wipeE ρ vs) (wipe σ vs) := ((he.mono (l1.rep.trans lr0.rep)).mono l2.rep).wipe vs
      refine t.ok rx hb env0 fun σ2 he2 kp => ?_
      refine ⟨(wipe_ext (kp.1.trans rfl) fun j hj => kp.2 j fun q => hj (hsub j q)).trans (wipe_wipe σ vs), ?_⟩
      refine ⟨oi, ρ1, sti, he2, s2, ?_⟩
      intro H3 o3 l3 s3
      refine iteT ⟨o3, ρ1, sti, he2.mono l3.rep, s3, ?_⟩
      have hw2 := wpR.bind.mp (show wpR ((noX (it1 ρ1) >>= fun es => guardL (decide (accd.length + es.length ≤ big)) (lcL t1 (fun _ => pure true) f (wipeE ρ1 vs1) es) >>= fun ys => lc2L t it1 vs1 t1 f (wipeE ρ vs) (accd.length + es.length) (ds.drop (i + 1)) >>= fun zs => pure (ys ++ zs)) sti) (fun zs st' => VOk K H o Q (.lst (accd ++ zs)) st') (XOk K E H o) from hw')
      refine wpR.mono (noX_wp hw2) (fun es st4 h4 J1 H4 o4 l4 s4 wk => ?_) fun _ _ x => x
      obtain ⟨hlen, h4⟩ := guardL_wp (wpR.bind.mp h4)
      have hlen := of_decide_eq_true hlen
      have l24 : Le Hi oi H4 o4 := (l2.trans l3).trans l4
      obtain ⟨eD4, nD4⟩ := l24.keep Dd _ eD nD
      refine ⟨fun j k Hj => k = es.length - j ∧ j ≤ es.length ∧ ∃ oj stj accd' acc', W accd' acc' Hj oj stj ∧ LeW K H4 o4 Hj oj ∧ accd'.length = accd.length + j ∧
          wpR (lcL t1 (fun _ => pure true) f (wipeE ρ1 vs1) (es.drop j) stj) (fun ys st' => P (accd.length + es.length) (ds.drop (i + 1)) (accd' ++ ys) st' ∧ ys.length = es.length - j) (XOk K E H o),
        ⟨_, rfl, Nat.zero_le _, o4, st4, accd, acc, ⟨lc.trans l24.toLc, l24.z.trans ez, lr.trans l24.w, s4, eD4, nD4, l24.rep.reps ra⟩, LeW.refl, rfl, ?_⟩, ?_⟩
      · have hln : ∀ (es : List D) (st : Store) (Q : List D → Store → Prop) (Z : Exn → Store → Prop), wpR (lcL t1 (fun _ => pure true) f (wipeE ρ1 vs1) es st) Q Z → wpR (lcL t1 (fun _ => pure true) f (wipeE ρ1 vs1) es st) (fun ys s => Q ys s ∧ ys.length = es.length) Z := by
          intro es
          induction es with
          | nil => exact fun st Q Z h => ⟨h, rfl⟩
          | cons e es ih =>
            intro st Q Z h
            have h' : wpR (optB (t1.bind e (wipeE ρ1 vs1)) (fun ρ2 => noX (f ρ2) >>= fun y => lcL t1 (fun _ => pure true) f (wipeE ρ1 vs1) es >>= fun ys => pure (y :: ys)) st) Q Z := h
            show wpR (optB (t1.bind e (wipeE ρ1 vs1)) (fun ρ2 => noX (f ρ2) >>= fun y => lcL t1 (fun _ => pure true) f (wipeE ρ1 vs1) es >>= fun ys => pure (y :: ys)) st) (fun ys s => Q ys s ∧ ys.length = (e :: es).length) Z
            cases hb : t1.bind e (wipeE ρ1 vs1) with
            | none => rw [hb] at h'; exact False.elim h'
            | some ρ2 =>
              rw [hb] at h'
              have h' := wpR.bind.mp (show wpR ((noX (f ρ2) >>= fun y => lcL t1 (fun _ => pure true) f (wipeE ρ1 vs1) es >>= fun ys => pure (y :: ys)) st) Q Z from h')
              refine (wpR.bind (m := noX (f ρ2))).mpr (h'.mono (fun y s hy => ?_) fun _ _ x => x)
              refine wpR.bind.mpr ((ih _ _ _ (wpR.bind.mp hy)).mono (fun ys s hys => ?_) fun _ _ x => x)
              exact ⟨hys.1, by simp [hys.2]⟩
        refine (hln _ _ _ _ h4).mono (fun ys s hys => ⟨?_, by rw [hys.2]; rfl⟩) fun _ _ x => x
        refine (wpR.bind.mp hys.1).mono (fun zs s2 hz => ?_) fun _ _ x => x
        rw [List.append_assoc]
        exact hz
      · rintro j k Hj ⟨rfl, hj, oj, stj, accd', acc', ⟨lcj, ezj, lrj, sj, eDj, nDj, raj⟩, lj, hl', hwj⟩
        obtain ⟨v1, v2⟩ := wk Hj oj stj lj sj
        by_cases hlt1 : j < es.length
        · rw [List.drop_eq_getElem_cons hlt1] at hwj
          obtain ⟨go1, yl1⟩ := v2 j _ (List.getElem?_eq_getElem hlt1)
          refine .inr ⟨go1, fun H2 => ∃ k', k' < es.length - j ∧ (k' = es.length - (j + 1) ∧ j + 1 ≤ es.length ∧ ∃ oj stj accd' acc', W accd' acc' H2 oj stj ∧ LeW K H4 o4 H2 oj ∧ accd'.length = accd.length + (j + 1) ∧
            wpR (lcL t1 (fun _ => pure true) f (wipeE ρ1 vs1) (es.drop (j + 1)) stj) (fun ys st' => P (accd.length + es.length) (ds.drop (i + 1)) (accd' ++ ys) st' ∧ ys.length = es.length - (j + 1)) (XOk K E H o)), fun _ x => x, fun x5 H5 y5 => ?_⟩
          obtain ⟨gr5, rx5⟩ := yl1 x5 H5 y5
          have l5 : Le Hj oj H5 oj := Gr.le gr5
          have s5 := Gr.stOk gr5 sj
          have hwj' : wpR (optB (t1.bind es[j] (wipeE ρ1 vs1)) (fun ρ2 => noX (f ρ2) >>= fun y => lcL t1 (fun _ => pure true) f (wipeE ρ1 vs1) (es.drop (j + 1)) >>= fun ys => pure (y :: ys)) stj) (fun ys st' => P (accd.length + es.length) (ds.drop (i + 1)) (accd' ++ ys) st' ∧ ys.length = es.length - j) (XOk K E H o) := hwj
          cases hb1 : t1.bind es[j] (wipeE ρ1 vs1) with
          | none => rw [hb1] at hwj'; exact False.elim hwj'
          | some ρ2 =>
            rw [hb1] at hwj'
            have env1 : EnvOk K H5 oj (wipeE ρ1 vs1) (wipe σ2 vs1) := ((he2.mono ((l3.trans l4).rep.trans lj.rep)).mono l5.rep).wipe vs1
            refine t1.ok rx5 hb1 env1 fun σ3 he3 kp1 => ?_
            refine ⟨(wipe_ext (kp1.1.trans rfl) fun j hj => kp1.2 j fun q => hj (hsub1 j q)).trans (wipe_wipe σ2 vs1), ?_⟩
            refine ⟨oj, ρ2, stj, he3, s5, ?_⟩
            intro H6 o6 l6 s6
            refine iteT ⟨o6, ρ2, stj, he3.mono l6.rep, s6, ?_⟩
            have hwj2 := wpR.bind.mp (show wpR ((noX (f ρ2) >>= fun y => lcL t1 (fun _ => pure true) f (wipeE ρ1 vs1) (es.drop (j + 1)) >>= fun ys => pure (y :: ys)) stj) (fun ys st' => P (accd.length + es.length) (ds.drop (i + 1)) (accd' ++ ys) st' ∧ ys.length = es.length - j) (XOk K E H o) from hwj')
            refine wpR.mono (noX_wp hwj2) (fun y7 st7 h7 v7 H7 o7 l7 s7 r7 => ?_) fun _ _ x => x
            have l57 : Le Hj oj H7 o7 := (l5.trans l6).trans l7
            obtain ⟨eD7, nD7⟩ := l57.keep Dd _ eDj nDj
            have ez7 : o7.z = Dd :: o1.z := l57.z.trans ezj
            have hin : Dd ∈ o7.z := by rw [ez7]; exact List.mem_cons_self
            have al : acc'.length = accd'.length := raj.length
            refine ⟨acc', eD7, by have := big_lt; omega, _, by omega, rfl, by omega, o7, st7, accd' ++ [y7], acc' ++ [v7], ⟨(lcj.trans l57.toLc).rewriteNew hD, ez7, (lrj.trans l57.w).trans (LeW.rewrite hin), s7.rewrite hin, upd_same, nD7, (LeR.rewrite hin).reps ((l57.rep.reps raj).append (Reps.one r7))⟩,
              (lj.trans l57.w).trans (LeW.rewrite hin), by simp; omega, ?_⟩
            refine (wpR.bind.mp h7).mono (fun ys st8 h8 => ?_) fun _ _ x => x
            obtain ⟨h8, h9⟩ := h8
            rw [List.append_assoc]
            exact ⟨h8, by simp at h9; omega⟩
        · have e : j = es.length := by omega
          subst e
          rw [List.drop_length] at hwj
          obtain ⟨hP, _⟩ := (show P (accd.length + es.length) (ds.drop (i + 1)) (accd' ++ []) stj ∧ ([] : List D).length = es.length - es.length from hwj)
          rw [List.append_nil, ← hl'] at hP
          exact .inl ⟨v1, _, by omega, rfl, by omega, oj, stj, accd', acc', ⟨lcj, ezj, lrj, sj, eDj, nDj, raj⟩, hP⟩
  · have e : i = ds.length := by omega
    subst e
    rw [List.drop_length] at hw
    refine .inl ⟨w1, ?_⟩
    have hw' : VOk K H o Q (.lst (accd ++ [])) sti := hw
    rw [List.append_nil] at hw'
    have hz : ∀ a ∈ o1.z, a ∈ oi.z := fun a ha => by rw [ez]; exact List.mem_cons_of_mem _ ha
    refine hw' (.ref Dd) Hi { oi with z := o1.z } (l1.trans ⟨⟨fun a u e n => lc.keep a u e n, lc.loc, lc.x⟩, rfl⟩) (si.unhold hz) ⟨Dd, acc, rfl, eD, ⟨nD, fun q => ?_⟩, (LeR.unhold hz).reps ra⟩
    obtain ⟨⟨u, e⟩, _⟩ := s1.zt Dd q
    rw [hD] at e; cases e
theorem pd_lc2 {elt tg iter tg1 iter1 : Expr} {scope : Scope} {own own1 : List (Str × Nat)} {pos : Pos} {it it1 : DenI} {t t1 : Tg} {f : Den} (hc : X.calm = true) (hN : X.N.Nodup) (hi : PDI X E tg iter it) (ok : BlkOk X.N X.env.scope scope own)
    (hv : ∀ i ∈ own1.map (·.2), i ∈ own.map (·.2))
    (hg : ∀ (s : Shared) (H : Hp) (C : Addr) (cl : List (Str × Addr)) (fp : List Addr), PG (X.blk s H scope (compEnvC scope cl C X.env) fp) tg (t.g X.K))
    (hi1 : ∀ (s : Shared) (H : Hp) (C : Addr) (cl : List (Str × Addr)) (fp : List Addr), PDI (X.blk s H scope (compEnvC scope cl C X.env) fp) EX0 tg1 iter1 it1)
    (hg1 : ∀ (s : Shared) (H : Hp) (C : Addr) (cl : List (Str × Addr)) (fp : List Addr), PG (X.blk s H scope (compEnvC scope cl C X.env) fp) tg1 (t1.g X.K))
    (he : ∀ (s : Shared) (H : Hp) (C : Addr) (cl : List (Str × Addr)) (fp : List Addr), PE (X.blk s H scope (compEnvC scope cl C X.env) fp) elt (tD X.K EX0 f)) (hs : ∀ x, foldedSetIterable iter X.env x = pure x) (hs1 : ∀ env x, foldedSetIterable iter1 env x = pure x) (hsub : ∀ i ∈ t.slots, i ∈ own.map (·.2)) (hsub1 : ∀ i ∈ t1.slots, i ∈ own1.map (·.2)) :
    PD X E (.ListComp elt [⟨tg, iter, [], 0⟩, ⟨tg1, iter1, [], 0⟩] scope pos) (dLc2 it (own.map (·.2)) t it1 (own1.map (·.2)) t1 f) :=
  PE.imp (pe_lc2 hc hN hi ok hv hg (fun _ _ _ _ _ => pts_nilD) hi1 hg1 (fun _ _ _ _ _ => pts_nilD) he hs hs1) fun _ _ _ h => tD_lc2 hsub hsub1 h
/-! ## enumerate of a list -/
def enumD (ds : List D) : List D := ds.zipIdx.map fun p => D.tup [.int (p.2 : Int), p.1]
def enumL : List D → M (List D)
  | [.lst ds] => pure (enumD ds)
  | _ => M.stuck
theorem di_enum {e : Expr} {fs : DenL} {p pos tpos : Pos} {elts : List Expr} {kk : Nat} (hg : Gl X "enumerate") (hm : X.mg "enumerate" = none) (ha : PL X E [e] fs) (hs : starEach [e] X.env = [(false, eval e X.env)] := by rfl) :
    PDI X E (.Tuple elts kk tpos) (.Call (.Name "enumerate" p) [e] [] pos) (fun ρ => fs ρ >>= enumL) := PI.imp (pi_enum hg hm ha hs) fun σ H R h => by
  obtain ⟨o, ρ, st, he, so, h⟩ := h
  refine ⟨o, ρ, st, he, so, ?_⟩
  refine (wpR.bind.mp h).mono (fun ds st1 h1 vs H1 o1 l s1 r => ?_) fun _ _ x => x
  match ds, r, h1 with
  | [], _, h1 => exact False.elim h1
  | d :: _ :: _, _, h1 => cases d <;> exact False.elim h1
  | [d], r, h1 =>
    obtain ⟨v, rfl, rv⟩ := r.one_of
    cases d with
    | lst as =>
      obtain ⟨a, xs, rfl, ka, av, ra⟩ := id rv
      refine ⟨a, xs, rfl, SqL.of ka, (show IOk X.K H o R (enumD as) st1 from h1) _ H1 o1 l s1 ?_⟩
      intro H2 o2 st2 lr s2
      obtain ⟨a', xs2, e2, ka2, av2, ra2⟩ := lr.rep _ _ rv
      cases e2
      refine ⟨⟨xs2, SqL.of ka2, by rw [ra2.length]; simp [enumD]⟩, fun i d hd => ?_⟩
      unfold enumD at hd
      rw [List.getElem?_map] at hd
      obtain ⟨⟨x, y⟩, hz, rfl⟩ := Option.map_eq_some_iff.mp hd
      obtain ⟨hx, rfl⟩ : as[i]? = some x ∧ y = i := by
        rw [List.getElem?_zipIdx] at hz
        obtain ⟨x', hx', e⟩ := Option.map_eq_some_iff.mp hz
        cases e
        exact ⟨hx', by simp⟩
      obtain ⟨u, hu, ru⟩ := ra2.get hx
      refine ⟨⟨xs2, u, SqL.of ka2, hu⟩, fun v H3 y => ?_⟩
      obtain ⟨T, x0, rfl, hT, rfl, e1⟩ := y
      have q1 := e1 _ (SqL.of ka2)
      rw [hu] at q1
      cases q1
      refine ⟨.inr ⟨T, _, hT, rfl⟩, ?_⟩
      exact Rep.newTup s2 hT ⟨_, _, rfl, rfl, u, _, rfl, ru, rfl⟩
    | _ => exact False.elim h1
end
end MP

namespace MP
open PySem L2
open PySem.Spec PyProof.Rows
/-! ## a cell's list becomes a value -/
def frzC (n : Nat) (st : Store) : Option Cell → R D
  | some (.lst ds) => .ok (.lst ds) (st.set n .dead)
  | some (.dic ks ds) => .ok (.dic ks ds) (st.set n .dead)
  | _ => .stuck
def frz : D → M D
  | .ref n => fun st => frzC n st st[n]?
  | d => pure d
@[simp] def dFrz (f : Den) : Den := fun ρ => f ρ >>= frz
section
variable {K : Frag} {E : XK} {H : Hp} {o : Lo} {st : Store} {X : Cx}
theorem frz_ok {d : D} {v : V} {Q : VK} (r : Rep K H o d v) (s : StOk K H o st) (h : wpR (frz d st) (VOk K H o Q) (XOk K E H o)) : Q v H := by
  cases d with
  | ref n =>
    obtain ⟨b, rfl, hb⟩ := r
    have h' : wpR (frzC n st st[n]?) (VOk K H o Q) (XOk K E H o) := h
    cases q : st[n]? with
    | none => rw [q] at h'; exact False.elim h'
    | some c =>
      have ck := s.cell n c q
      rw [q] at h'
      cases c with
      | lst ds =>
        obtain ⟨a, xs, e1, e2, e3⟩ := ck
        have e : a = b := by
          rw [e1] at hb
          rcases hb with hb | hb <;> cases hb
          rfl
        subst e
        obtain ⟨s', av⟩ := s.free e1
        exact (show VOk K H o Q (.lst ds) (st.set n .dead) from h') _ _ _ (Le.free (n := n)) s' ⟨a, xs, rfl, e2, av, (Le.free (n := n)).rep.reps e3⟩
      | dic ks ds =>
        obtain ⟨a, kvs, e1, e2, e4, e3⟩ := ck
        have e : a = b := by
          rw [e1] at hb
          rcases hb with hb | hb <;> cases hb
          rfl
        subst e
        obtain ⟨s', av⟩ := s.free e1
        exact (show VOk K H o Q (.dic ks ds) (st.set n .dead) from h') _ _ _ (Le.free (n := n)) s' ⟨a, kvs, rfl, e2, av, e4, (Le.free (n := n)).rep.reps e3⟩
      | _ => exact False.elim h'
  | _ => exact (show VOk K H o Q _ st from h) v H o (Le.refl _ _) s r
theorem pd_frz {e : Expr} {f : Den} (h : PD X E e f) : PD X E e (dFrz f) := PE.imp h fun σ H Q h => by
  obtain ⟨o, ρ, st, he, hs, h⟩ := h
  refine ⟨o, ρ, st, he, hs, ?_⟩
  refine (wpR.bind.mp h).mono (fun d st1 h1 v H1 o1 l s1 r => ?_) fun _ _ x => x
  exact frz_ok (E := E) r s1 (wpR.mono h1 (fun _ _ x => x.mono l) fun _ _ x => x.mono l)
end
end MP

namespace MP
open PySem L2
open PySem.Spec PyProof.Rows
/-! ## dicts with nested tuples as keys, all values True -/
def ksPut (ds : List D) (k : D) : List D := if ds.any (fun x => decide (nk x = nk k)) then ds else ds ++ [k]
def ksPuts (ds ks : List D) : List D := ks.foldl ksPut ds
def ksKey (k : D) : Bool := match k with
  | .tup _ => (nk k).any fun q => decide (q.depth ≤ 8)
  | _ => false
def ksOk (k v : D) : Bool := ksKey k && (match v with | .bl true => true | _ => false)
def ksCell : Option Cell → D → D → Option Cell
  | some (.kset ds), k, v => bif ksOk k v && decide (ds.length < big) then some (.kset (ksPut ds k)) else none
  | some (.dic [] []), k, v => bif ksOk k v then some (.kset [k]) else none
  | _, _, _ => none
def setK : D → D → D → M Unit
  | .ref n, k, v => fun st => match ksCell st[n]? k v with
    | some c => .ok () (st.set n c)
    | none => .stuck
  | _, _, _ => M.stuck
def kaPut (kas : KA) (k : NestedKey × Addr) : KA := if kas.any (fun x => decide (x.1 = k.1)) then kas else kas ++ [k]
def xsN (kas : KA) : List (NestedKey × Addr × Value) := kas.map fun k => (k.1, k.2, .bool true)
theorem atKey_xsN : ∀ (kas : KA) (k : NestedKey), (atKey (xsN kas) k).isSome = kas.any fun x => decide (x.1 = k)
  | [], _ => rfl
  | x :: r, k => by
    have ih := atKey_xsN r k
    unfold atKey at ih ⊢
    unfold xsN at ih ⊢
    by_cases h : x.1 = k
    · simp [h]
    · simp only [List.map_cons, List.find?_cons, h, decide_false, List.any_cons, Bool.false_or]
      exact ih
theorem stored_xsN (kas : KA) (k : NestedKey) (a : Addr) : storedH (xsN kas) k a (.bool true) = xsN (kaPut kas (k, a)) := by
  unfold storedH kaPut
  rw [atKey_xsN]
  split
  · unfold xsN
    rw [List.map_map]
    refine List.map_congr_left fun x _ => ?_
    simp [putAt]
  · simp [xsN]
theorem xsN_length (kas : KA) : (xsN kas).length = kas.length := by simp [xsN]
section
variable {K : Frag} {H : Hp} {o : Lo}
theorem ksR_mem : ∀ {ds : List D} {kas : KA}, ds.map nk = kas.map (fun k => some k.1) → ∀ k ∈ kas, ∃ d ∈ ds, nk d = some k.1
  | [], [], _, k, hk => by cases hk
  | [], _ :: _, h, _, _ => by simp at h
  | _ :: _, [], h, _, _ => by simp at h
  | d :: ds, q :: kas, h, k, hk => by
    simp only [List.map_cons, List.cons.injEq] at h
    rcases List.mem_cons.mp hk with rfl | hk
    · exact ⟨d, List.mem_cons_self, h.1⟩
    · obtain ⟨d', h1, h2⟩ := ksR_mem h.2 k hk
      exact ⟨d', List.mem_cons_of_mem _ h1, h2⟩
theorem ksR_any : ∀ {ds : List D} {kas : KA} {d : D} {q : NestedKey}, ds.map nk = kas.map (fun k => some k.1) → nk d = some q → (ds.any fun x => decide (nk x = nk d)) = kas.any fun x => decide (x.1 = q)
  | [], [], _, _, _, _ => rfl
  | [], _ :: _, _, _, h, _ => by simp at h
  | _ :: _, [], _, _, h, _ => by simp at h
  | x :: ds, y :: kas, d, q, h, e => by
    simp only [List.map_cons, List.cons.injEq] at h
    have ih := ksR_any (d := d) (q := q) h.2 e
    rw [List.any_cons, List.any_cons, ih, h.1, e]
    simp
theorem ksR_put {ds : List D} {kas : KA} {d : D} {q : NestedKey} {a : Addr} (h : KsR ds kas) (e : nk d = some q) (hd : q.depth ≤ 8) : KsR (ksPut ds d) (kaPut kas (q, a)) := by
  obtain ⟨h1, h2, h3⟩ := h
  unfold ksPut kaPut
  rw [ksR_any h1 e]
  cases hk : kas.any fun x => decide (x.1 = q) with
  | true => simp only [if_true]; exact ⟨h1, h2, h3⟩
  | false =>
    simp only [Bool.false_eq_true, if_false]
    refine ⟨by simp [h1, e], ?_, fun k hm => ?_⟩
    · rw [List.map_append]
      refine List.nodup_append.mpr ⟨h2, by simp, fun x hx y hy => ?_⟩
      have hy : y = q := by simpa using hy
      obtain ⟨z, hz, rfl⟩ := List.mem_map.mp hx
      intro e
      have : (kas.any fun x => decide (x.1 = q)) = true := List.any_eq_true.mpr ⟨z, hz, by simp [e, hy]⟩
      rw [hk] at this; cases this
    · rcases List.mem_append.mp hm with hm | hm
      · exact h3 k hm
      · simp at hm; subst hm; exact hd
theorem ksR_reps {ds : List D} {kas : KA} {d : D} {q : NestedKey} {a : Addr} (h : KsR ds kas) (e : nk d = some q) (r : Reps K H o ds (kas.map fun k => V.ref k.2)) (rd : Rep K H o d (.ref a)) : Reps K H o (ksPut ds d) ((kaPut kas (q, a)).map fun k => V.ref k.2) := by
  unfold ksPut kaPut
  rw [ksR_any h.1 e]
  cases hk : kas.any fun x => decide (x.1 = q) with
  | true => simp only [if_true]; exact r
  | false =>
    simp only [Bool.false_eq_true, if_false]
    rw [List.map_append]
    exact r.append (Reps.one rd)
theorem ksR_length {ds : List D} {kas : KA} (h : KsR ds kas) : kas.length = ds.length := by
  have := congrArg List.length h.1
  simpa using this.symm
end
section
variable {E : XK} {H : Hp} {o : Lo} {st : Store} {X : Cx} {pins : List (Addr × Obj)} {σ : L2.St} {s : Shared}
mutual
theorem rep_nested (I : Inv X pins σ H s) : ∀ (d : D) {v : V} {u : Value} {k : NestedKey}, Rep X.K H o d v → RelV v u → nk d = some k → NestedIs s.heap k u
  | .non, v, u, k, r, rv, h => by
    cases (show some NestedKey.none = some k from h); cases (show v = .non from r); cases (show u = .none from rv)
    exact .none
  | .bl b, v, u, k, r, rv, h => by
    cases (show some (NestedKey.num _) = some k from h); cases (show v = .bl b from r); cases (show u = .bool b from rv)
    exact .bool rfl
  | .int i, v, u, k, r, rv, h => by
    cases (show some (NestedKey.num _) = some k from h); cases (show v = .int i from r)
    obtain ⟨t, rfl⟩ := (show ∃ t, u = Value.int i t from rv)
    exact .int i t
  | .tup ds, v, u, k, r, rv, h => by
    obtain ⟨ks, e, rfl⟩ := Option.map_eq_some_iff.mp (show (nks ds).map NestedKey.tup = some k from h)
    obtain ⟨a, xs, rfl, h1, h2⟩ := r
    cases (show u = Value.ref a from rv)
    obtain ⟨its, rvs, ⟨ob, ho, hc, n, hd⟩, _⟩ := I.tuple (tup_sq h1)
    exact .tup ho hc hd (by simpa using reps_nested I ds h2 rvs e)
  | .str _, _, _, _, _, _, h => by cases (show none = some _ from h)
  | .lst _, _, _, _, _, _, h => by cases (show none = some _ from h)
  | .dic _ _, _, _, _, _, _, h => by cases (show none = some _ from h)
  | .scr _, _, _, _, _, _, h => by cases (show none = some _ from h)
  | .ref _, _, _, _, _, _, h => by cases (show none = some _ from h)
  | .kset _, _, _, _, _, _, h => by cases (show none = some _ from h)
  | .cls _, _, _, _, _, _, h => by cases (show none = some _ from h)
  | .exv, _, _, _, _, _, h => by cases (show none = some _ from h)
  | .tupn _, _, _, _, _, _, h => by cases (show none = some _ from h)
theorem reps_nested (I : Inv X pins σ H s) : ∀ (ds : List D) {vs : List V} {us : List Value} {ks : List NestedKey}, Reps X.K H o ds vs → Vals vs us → nks ds = some ks → NestedAll s.heap ks us
  | [], vs, us, ks, r, rv, h => by
    cases (show some [] = some ks from h)
    cases (show vs = [] from r)
    cases rv
    exact .nil
  | d :: ds, vs, us, ks, r, rv, h => by
    obtain ⟨k, e1, e2⟩ := Option.bind_eq_some_iff.mp (show (nk d).bind (fun k => (nks ds).map (k :: ·)) = some ks from h)
    obtain ⟨ks', e3, rfl⟩ := Option.map_eq_some_iff.mp e2
    obtain ⟨v, vs', rfl, r1, r2⟩ := r
    cases rv with
    | cons rv rvs => exact .cons (rep_nested I d r1 rv e1) (reps_nested I ds r2 rvs e3)
end
theorem setN_is (I : Inv X pins σ H s) {ds : List D} {kas : KA} (h : KsR ds kas) (r : Reps X.K H o ds (kas.map fun k => V.ref k.2)) : ∀ x ∈ xsN kas, (nestedKind X.prog X.w).is s.heap x.1 x.2.1 := by
  intro x hx
  obtain ⟨k, hk, rfl⟩ := List.mem_map.mp hx
  obtain ⟨i, hi, e⟩ := List.getElem_of_mem hk
  have hd : (ds.map nk)[i]? = some (some k.1) := by rw [h.1, List.getElem?_map, List.getElem?_eq_getElem hi, e]; rfl
  rw [List.getElem?_map] at hd
  obtain ⟨d, hd1, hd2⟩ := Option.map_eq_some_iff.mp hd
  obtain ⟨v, hv, rv⟩ := r.get hd1
  rw [List.getElem?_map, List.getElem?_eq_getElem hi, e] at hv
  cases hv
  exact ⟨rep_nested I d rv (show RelV (.ref k.2) (.ref k.2) from rfl) hd2, h.2.2 k hk⟩
theorem entN_eq {P : Program} {w : World} {ds : List D} {kas : KA} (h : ds.map nk = kas.map fun k => some k.1) : kas.map entN = (xsN kas).map (entryOfKey (nestedKind P w)) := by
  unfold xsN
  rw [List.map_map]
  refine List.map_congr_left fun k hk => ?_
  obtain ⟨d, _, hd⟩ := ksR_mem h k hk
  show entN k = ⟨NestedKey.hash w k.1, .ref k.2, .bool true⟩
  rw [nk_hash d _ hd]
  rfl
theorem setN_dict (I : Inv X pins σ H s) {ds : List D} {kas : KA} {a : Addr} {ob : Obj} (k : KsAt s.heap a ob kas) (h : KsR ds kas) (r : Reps X.K H o ds (kas.map fun k => V.ref k.2)) : s.heap.DictOfH (nestedKind X.prog X.w) a (xsN kas) := by
  obtain ⟨_, _, k1, k2, es, ep, k3, k4⟩ := k
  exact ⟨ob, es, ep, k1, k2, k3, by rw [k4]; exact entN_eq h.1, setN_is I h r, by have := h.2.1; simpa [xsN, Function.comp_def] using this⟩
theorem dict_setN {P : Program} {w : World} {h : Heap} {ds : List D} {kas : KA} {a : Addr} (x : h.DictOfH (nestedKind P w) a (xsN kas)) (hs : (a == sysModules) = false) (hl : kas.length ≤ sizeLine) (hr : ds.map nk = kas.map fun k => some k.1) : ∃ ob, KsAt h a ob kas := by
  obtain ⟨ob, es, ep, h1, h2, h3, h4, _, _⟩ := x
  exact ⟨ob, hl, hs, h1, h2, es, ep, h3, by rw [h4]; exact (entN_eq hr).symm⟩
theorem ksOk_of {k v : D} {x : V} (h : ksOk k v = true) (r : Rep X.K H o k x) : v = .bl true ∧ (∃ a, x = .ref a) ∧ ∃ q, nk k = some q ∧ q.depth ≤ 8 := by
  unfold ksOk at h
  rw [Bool.and_eq_true] at h
  obtain ⟨h1, h2⟩ := h
  have hv : v = .bl true := by
    cases v with
    | bl b => cases b with
      | true => rfl
      | false => cases h2
    | _ => cases h2
  cases k with
  | tup es =>
    obtain ⟨q, e1, e2⟩ := Option.any_eq_true_iff_get .. |>.mp h1 |> fun ⟨hs, hh⟩ => (⟨(nk (.tup es)).get hs, (Option.some_get hs).symm, of_decide_eq_true hh⟩ : ∃ q, nk (.tup es) = some q ∧ q.depth ≤ 8)
    obtain ⟨a, _, rfl, _⟩ := r
    exact ⟨hv, ⟨a, rfl⟩, q, e1, e2⟩
  | _ => cases h1
theorem kset_put (hu : X.A.units + 64 < cLine) (I : Inv X pins σ H s) {ds : List D} {kas : KA} {a p : Addr} {d : D} {q : NestedKey} {ob : Obj} (hk : KsAt s.heap a ob kas) (hm : Mut (H a)) (hR : KsR ds kas) (hr : Reps X.K H o ds (kas.map fun k => V.ref k.2)) (hd : Rep X.K H o d (.ref p)) (e : nk d = some q) (dp : q.depth ≤ 8) (hl : ds.length < sizeLine)
    {Q : Unit → Shared → Prop} {Z : Value → Shared → Prop} (h : ∀ s', Inv X pins σ (upd H a (SetN a (kaPut kas (q, p)))) s' → Q () s') : wpAny (model X.prog X.w) X.A (setItem (.ref a) (.ref p) (.bool true)) Q Z s := by
  have hl' : kas.length < sizeLine := by rw [ksR_length hR]; exact hl
  refine wpAny_setItem_heap (knd := nestedKind X.prog X.w) (k := q) (xs := xsN kas) (show X.A.in1.units + 8 < cLine from ?_) ⟨rep_nested I d hd (show RelV (.ref p) (.ref p) from rfl) e, dp⟩ (setN_dict I hk hR hr) (fun h' hm' sb => ?_) (by rw [xsN_length]; exact Nat.le_of_lt hl')
  · show X.A.units + 1 + 8 < cLine
    omega
  · rw [stored_xsN] at hm'
    have hR' := ksR_put (a := p) hR e dp
    have hz : (kaPut kas (q, p)).length ≤ sizeLine := by
      unfold kaPut
      split
      · exact Nat.le_of_lt hl'
      · simp; omega
    obtain ⟨ob', k'⟩ := dict_setN (ds := ksPut ds d) hm' hk.2.1 hz hR'.1
    exact h _ (I.write (e := a) (t' := _) hm (.inl rfl) (fun b u hb hu => (sb.2 b hb).trans hu) ⟨_, k'.2.2.1⟩ k'.newN)
theorem sd_setK (hu : X.A.units + 64 < cLine) : PSet X (tSetD X.K E setK) := by
  intro pins s σ H x i v ov iv u Q I rx ri rv h
  obtain ⟨o, st, dx, di, dv, r1, r2, r3, so, h⟩ := h
  cases dx with
  | ref n =>
    have h' : wpR (match ksCell st[n]? di dv with | some c => R.ok () (st.set n c) | none => .stuck) (UOk X.K H o Q) (XOk X.K E H o) := h
    cases q : st[n]? with
    | none => rw [q] at h'; exact False.elim h'
    | some c =>
      rw [q] at h'
      obtain ⟨b, e0, h1⟩ := r1
      subst e0
      cases rx
      have at_ : ∀ {a}, o.l[n]? = some (some a) → b = a := fun {a} e1 => by
        rw [e1] at h1
        rcases h1 with h1 | h1
        · cases h1; rfl
        · cases h1
      cases c with
      | kset ds =>
        obtain ⟨a, kas, e1, e2, e3, e4⟩ := so.cell n _ q
        cases at_ e1
        have h2 : wpR (match (bif ksOk di dv && decide (ds.length < big) then some (Cell.kset (ksPut ds di)) else none) with | some c => R.ok () (st.set n c) | none => .stuck) (UOk X.K H o Q) (XOk X.K E H o) := h'
        cases qb : ksOk di dv && decide (ds.length < big) with
        | false => rw [qb] at h2; exact False.elim h2
        | true =>
          rw [qb] at h2
          rw [Bool.and_eq_true] at qb
          obtain ⟨rfl, ⟨p, rfl⟩, k, ek, dk⟩ := ksOk_of qb.1 r2
          cases ri
          cases (show v = .bl true from r3)
          cases (show u = Value.bool true from rv)
          obtain ⟨⟨ob, hob⟩, _⟩ := I.hok b _ e2
          have hm : some b ∈ o.l := List.mem_of_getElem? e1
          refine kset_put hu I hob (by rw [e2]; trivial) e3 e4 r2 ek dk (Nat.lt_of_lt_of_le (of_decide_eq_true qb.2) big_le) fun s' I' => ⟨_, I', ?_⟩
          exact (show UOk X.K H o Q () (st.set n (.kset (ksPut ds di))) from h2) _ o (Le.write hm) (so.write e1 ⟨b, _, rfl, upd_same, ksR_put e3 ek dk, (Le.write hm).rep.reps (ksR_reps e3 ek e4 r2)⟩)
      | dic ks ds =>
        obtain ⟨a, kvs, e1, e2, e3, e4⟩ := so.cell n _ q
        cases at_ e1
        cases ks with
        | cons _ _ => cases ds <;> exact False.elim h'
        | nil =>
          cases ds with
          | cons _ _ => exact False.elim h'
          | nil =>
            have h2 : wpR (match (bif ksOk di dv then some (Cell.kset [di]) else none) with | some c => R.ok () (st.set n c) | none => .stuck) (UOk X.K H o Q) (XOk X.K E H o) := h'
            cases qb : ksOk di dv with
            | false => rw [qb] at h2; exact False.elim h2
            | true =>
              rw [qb] at h2
              obtain ⟨rfl, ⟨p, rfl⟩, k, ek, dk⟩ := ksOk_of qb r2
              cases ri
              cases (show v = .bl true from r3)
              cases (show u = Value.bool true from rv)
              have ekv : kvs = [] := List.map_eq_nil_iff.mp e3
              subst ekv
              obtain ⟨_, hsm, vs, kv, ob, es, ep, ho, hx, hdt, _, he, _⟩ := I.hok b _ e2
              cases kv
              have he : es.toList = [] := by cases hq : es.toList with
                | nil => rfl
                | cons _ _ => rw [hq] at he; cases he
              have hob : KsAt s.heap b ob [] := ⟨Nat.zero_le _, hsm, ho, hx, es, ep, hdt, by simpa using he⟩
              have hm : some b ∈ o.l := List.mem_of_getElem? e1
              have R0 : KsR [] ([] : KA) := ⟨rfl, List.nodup_nil, fun _ h => nomatch h⟩
              refine kset_put (ds := []) hu I hob (by rw [e2]; trivial) R0 rfl r2 ek dk (by rw [sizeLine_eq]; decide) fun s' I' => ⟨_, I', ?_⟩
              exact (show UOk X.K H o Q () (st.set n (.kset [di])) from h2) _ o (Le.write hm) (so.write e1 ⟨b, _, rfl, upd_same, ksR_put (ds := []) R0 ek dk, (Le.write hm).rep.reps (ksR_reps (ds := []) R0 ek rfl r2)⟩)
      | _ => exact False.elim h'
  | _ => exact False.elim h
@[simp] def gSubK (fo fi : Den) : DenG := fun d ρ => fo ρ >>= fun x => fi ρ >>= fun i => setK x i d >>= fun _ => pure ρ
theorem dg_subK {a i : Expr} {fo fi : Den} {pos : Pos} (hu : X.A.units + 64 < cLine) (ho : PD X E a fo) (hi : PD X E i fi)
    (ha : ∀ v, assign (.Subscript a i pos) X.env v = (do
      let ov ← holding [v] (eval a X.env)
      let iv ← holding [v, ov] (eval i X.env)
      standAt pos
      holding [v, ov, iv] (setItem ov iv v)
      release [v, ov, iv] [])) : PDG X E (.Subscript a i pos) (gSubK fo fi) :=
  PG.imp (pg_sub ho hi (sd_setK (E := E) hu) ha) fun v σ H Q h => by
    obtain ⟨o, ρ, st, d, he, hs, r, h⟩ := h
    refine ⟨o, ρ, st, he, hs, ?_⟩
    refine (wpR.bind.mp h).mono (fun x st1 h1 vx H1 o1 l1 s1 r1 => ⟨o1, ρ, st1, he.mono l1.rep, s1, ?_⟩) fun _ _ x => x
    refine (wpR.bind.mp h1).mono (fun i st2 h2 vi H2 o2 l2 s2 r2 => ⟨o2, st2, x, i, d, Rep.mono l2 _ _ r1, r2, Rep.mono (l1.trans l2) _ _ r, s2, ?_⟩) fun _ _ x => x.mono l1
    have l12 := l1.trans l2
    refine wpR.mono (wpR.bind.mp h2) (fun u st3 h3 H3 o3 l3 s3 => ?_) fun _ _ x => x.mono l12
    exact (show EOk X.K H o Q ρ st3 from h3) σ H3 o3 (l12.trans l3) s3 (he.mono ((l12.trans l3).rep))
end
/-! ### dict([(k, True), ..]) -/
def ksPairs : List D → Option (List D)
  | [] => some []
  | .tup [k, .bl true] :: r => bif ksKey k then (ksPairs r).map (k :: ·) else none
  | _ => none
def ksAlloc (n : Nat) : Option (List D) → M D
  | some ks => guardM (decide (n ≤ big)) (M.alloc (.kset (ksPuts [] ks)))
  | none => M.stuck
def biDictK : D → M D
  | .lst ps => ksAlloc ps.length (ksPairs ps)
  | _ => M.stuck
def kaPuts (kas more : KA) : KA := more.foldl kaPut kas
theorem stored_all : ∀ (more kas : KA), storedAllH (xsN kas) (xsN more) = xsN (kaPuts kas more)
  | [], kas => rfl
  | k :: more, kas => by
    show storedAllH (storedH (xsN kas) k.1 k.2 (.bool true)) (xsN more) = xsN (kaPuts (kaPut kas k) more)
    rw [stored_xsN]
    exact stored_all more _
theorem kaPut_length (kas : KA) (k : NestedKey × Addr) : (kaPut kas k).length ≤ kas.length + 1 := by
  unfold kaPut
  split <;> simp
theorem kaPuts_length : ∀ (more kas : KA), (kaPuts kas more).length ≤ kas.length + more.length
  | [], kas => Nat.le_refl _
  | k :: more, kas => by
    have h1 := kaPuts_length more (kaPut kas k)
    have h2 := kaPut_length kas k
    show (kaPuts (kaPut kas k) more).length ≤ kas.length + (more.length + 1)
    omega
section
variable {K : Frag} {H : Hp} {o : Lo}
theorem ksPuts_ok : ∀ {ks ds : List D} {more kas : KA}, KsR ds kas → Reps K H o ds (kas.map fun k => V.ref k.2) → ks.map nk = more.map (fun k => some k.1) → (∀ k ∈ more, k.1.depth ≤ 8) → Reps K H o ks (more.map fun k => V.ref k.2) →
    KsR (ksPuts ds ks) (kaPuts kas more) ∧ Reps K H o (ksPuts ds ks) ((kaPuts kas more).map fun k => V.ref k.2)
  | [], ds, [], kas, hR, r, _, _, _ => ⟨hR, r⟩
  | [], _, _ :: _, _, _, _, h, _, _ => by simp at h
  | _ :: _, _, [], _, _, _, h, _, _ => by simp at h
  | k :: ks, ds, (q, a) :: more, kas, hR, r, h, hd, rk => by
    simp only [List.map_cons, List.cons.injEq] at h
    obtain ⟨v, vs, e, r1, r2⟩ := rk
    obtain ⟨rfl, rfl⟩ := List.cons.inj e
    have h8 : q.depth ≤ 8 := hd _ List.mem_cons_self
    have h9 := ksPuts_ok (ks := ks) (more := more) (ds := ksPut ds k) (kas := kaPut kas (q, a)) (ksR_put hR h.1 h8) (ksR_reps hR h.1 r r1) h.2 (fun x hx => hd x (List.mem_cons_of_mem _ hx)) r2
    exact h9
theorem ksKey_of {k : D} {x : V} (h : ksKey k = true) (r : Rep K H o k x) : (∃ a, x = .ref a) ∧ ∃ q, nk k = some q ∧ q.depth ≤ 8 := by
  cases k with
  | tup es =>
    have h' : (nk (.tup es)).any (fun q => decide (q.depth ≤ 8)) = true := h
    cases e : nk (.tup es) with
    | none => rw [e] at h'; cases h'
    | some q =>
      rw [e] at h'
      obtain ⟨a, _, rfl, _⟩ := r
      exact ⟨⟨a, rfl⟩, q, rfl, by simpa using h'⟩
  | _ => cases h
theorem ksPairs_reps : ∀ {ps ks : List D} {vs : List V}, ksPairs ps = some ks → Reps K H o ps vs → ∃ (Ts : List Addr) (more : KA), vs = Ts.map V.ref ∧ ks.map nk = more.map (fun k => some k.1) ∧ (∀ k ∈ more, k.1.depth ≤ 8) ∧ Reps K H o ks (more.map fun k => V.ref k.2) ∧ Ts.length = more.length ∧ ∀ (i : Nat) (T : Addr) (k : NestedKey × Addr), Ts[i]? = some T → more[i]? = some k → SqT K H T [.ref k.2, .bl true]
  | [], ks, vs, h, r => by
    cases (show some [] = some ks from h)
    cases (show vs = [] from r)
    exact ⟨[], [], rfl, rfl, (fun _ h => nomatch h), rfl, rfl, fun i T k h => by simp at h⟩
  | p :: ps, ks, vs, h, r => by
    obtain ⟨v, vs', rfl, r1, r2⟩ := r
    match p, h, r1 with
    | .tup [k, .bl true], h, r1 =>
      have h' : (bif ksKey k then (ksPairs ps).map (k :: ·) else none) = some ks := h
      cases hk : ksKey k with
      | false => rw [hk] at h'; cases h'
      | true =>
        rw [hk] at h'
        obtain ⟨ks', e, rfl⟩ := Option.map_eq_some_iff.mp h'
        obtain ⟨Ts, more, rfl, e1, e2, e3, e4, e5⟩ := ksPairs_reps e r2
        obtain ⟨a, xs, rfl, h1, h2⟩ := r1
        obtain ⟨x, xs', rfl, hx, y, xs'', rfl, hy, hz⟩ := h2
        cases (show xs'' = [] from hz)
        cases (show y = .bl true from hy)
        obtain ⟨⟨b, rfl⟩, q, hq, dq⟩ := ksKey_of hk hx
        refine ⟨a :: Ts, (q, b) :: more, rfl, by simp [hq, e1], fun k hk => ?_, ⟨_, _, rfl, hx, e3⟩, by simp [e4], fun i T k hT hk => ?_⟩
        · rcases List.mem_cons.mp hk with rfl | hk
          · exact dq
          · exact e2 k hk
        · cases i with
          | zero => simp at hT hk; subst hT; subst hk; exact tup_sq h1
          | succ i => exact e5 i T k (by simpa using hT) (by simpa using hk)
end
section
variable {E : XK} {H : Hp} {o : Lo} {st : Store} {X : Cx}
theorem cd_dictK (hc : X.calm = true) (hu : X.A.units + 64 < cLine) : CallD X E (.type "dict") (on1 biDictK) := cd_on1 fun pins s σ H v us Q d o st I r r1 so h => by
  cases d with
  | lst ps =>
    have h' : wpR (ksAlloc ps.length (ksPairs ps) st) (VOk X.K H o Q) (XOk X.K E H o) := h
    cases hp : ksPairs ps with
    | none => rw [hp] at h'; exact False.elim h'
    | some ks =>
      rw [hp] at h'
      obtain ⟨hl, h2⟩ := guardM_wp h'
      have hl := of_decide_eq_true hl
      obtain ⟨a, xs, rfl, k1, av, q1⟩ := r1
      obtain ⟨Ts, more, rfl, e1, e2, e3, e4, e5⟩ := ksPairs_reps hp q1
      obtain ⟨u, rfl, ru⟩ := r.one
      cases ru
      obtain ⟨its, rv, pl, hz⟩ := I.list (SqL.of k1)
      have ei := refs_at rv
      subst ei
      have lT : Ts.length = ps.length := by have := q1.length; simpa using this
      have hpair : ∀ (i : Nat) (k : NestedKey × Addr), more[i]? = some k → ∃ T, Ts[i]? = some T ∧ s.heap.IsTuple T #[.ref k.2, .bool true] := fun i k hk => by
        have hi : i < Ts.length := by rw [e4]; exact (List.getElem?_eq_some_iff.mp hk).1
        obtain ⟨its, rv, p, _⟩ := I.tuple (e5 i _ k (List.getElem?_eq_getElem hi) hk)
        refine ⟨_, List.getElem?_eq_getElem hi, ?_⟩
        cases rv with
        | cons rx rv =>
        cases rv with
        | cons ry rv =>
        cases rv
        cases rx
        cases ry
        exact p
      let psV : List (Value × Value) := more.map fun k => (.ref k.2, .bool true)
      have lV : psV.length = ps.length := by simp only [psV, List.length_map]; rw [← e4, lT]
      obtain ⟨ob, n, ho, hcl, hdn, hdat⟩ := pl
      refine call_dict_pairsH (knd := nestedKind X.prog X.w) (ps := xsN more) (PairArg.list a (Ts.map Value.ref).toArray (fun j => (Ts[j]?).getD 0) psV) (I.ok.hd hc) (show X.A.in1.in1.units + 8 < cLine from ?_) ⟨⟨ob, n, ho, hcl, hdn, hdat⟩, ?_, fun j k v hj => ?_⟩ ⟨?_, fun i key v hr => ?_⟩ (fun h' hk x hx => ?_) ?_ fun h' tk hm' hk => ?_
      · show X.A.units + 1 + 1 + 8 < cLine
        omega
      · simp only [psV, List.size_toArray, List.length_map]; exact e4
      · have hj' : (more.map fun k => ((Value.ref k.2, Value.bool true) : Value × Value))[j]? = some (k, v) := hj
        rw [List.getElem?_map] at hj'
        obtain ⟨m, hm, e⟩ := Option.map_eq_some_iff.mp hj'
        cases e
        obtain ⟨T, hT, hpT⟩ := hpair j m hm
        have eT : (Ts[j]?).getD 0 = T := by rw [hT]; rfl
        show (Ts.map Value.ref).toArray[j]? = some (.ref ((Ts[j]?).getD 0)) ∧ PairAt s.heap ((Ts[j]?).getD 0) (.ref m.2) (.bool true)
        rw [eT]
        exact ⟨by simp [hT], .inl hpT⟩
      · rw [xsN_length, lV, ← lT, e4]
      · have hr' : (more.map fun k => ((Value.ref k.2, Value.bool true) : Value × Value))[i]? = some (key, v) := hr
        rw [List.getElem?_map] at hr'
        obtain ⟨m, hm, e⟩ := Option.map_eq_some_iff.mp hr'
        cases e
        exact ⟨m.1, m.2, by unfold xsN; rw [List.getElem?_map, hm]; rfl, rfl⟩
      · obtain ⟨m, hm, rfl⟩ := List.mem_map.mp hx
        obtain ⟨i, hi, e⟩ := List.getElem_of_mem hm
        have hd : (ks.map nk)[i]? = some (some m.1) := by rw [e1, List.getElem?_map, List.getElem?_eq_getElem hi, e]; rfl
        rw [List.getElem?_map] at hd
        obtain ⟨d, hd1, hd2⟩ := Option.map_eq_some_iff.mp hd
        obtain ⟨v, hv, rv⟩ := e3.get hd1
        rw [List.getElem?_map, List.getElem?_eq_getElem hi, e] at hv
        cases hv
        exact nestedKind_stays.stays (fun b o vs n hb _ => hk b o (Nat.ne_of_lt (Heap.lt_size hb)) (by simp) hb) ⟨rep_nested I d rv (show RelV (.ref m.2) (.ref m.2) from rfl) hd2, e2 m hm⟩
      · rw [lV]; exact Nat.le_trans hl big_le
      · have hm2 : h'.DictOfH (nestedKind X.prog X.w) s.heap.objs.size (xsN (kaPuts [] more)) := by
          rw [← stored_all]; exact hm'
        have R0 : KsR [] ([] : KA) := ⟨rfl, List.nodup_nil, fun _ h => nomatch h⟩
        have hp0 : H s.heap.objs.size = none := I.hok.fresh (Nat.le_refl _)
        obtain ⟨R1, P1⟩ := ksPuts_ok (ks := ks) (ds := []) R0 (show Reps X.K H o [] ([].map _) from rfl) e1 e2 e3
        have hsm : (s.heap.objs.size == sysModules) = false := beq_eq_false_iff_ne.mpr (Nat.ne_of_gt I.big)
        have hln : (kaPuts [] more).length ≤ sizeLine := by
          have := kaPuts_length more []
          rw [← e4, lT] at this
          simp at this
          exact Nat.le_trans this (Nat.le_trans hl big_le)
        obtain ⟨ob', k'⟩ := dict_setN (ds := ksPuts [] ks) hm2 hsm hln R1.1
        refine ⟨.ref s.heap.objs.size, upd H s.heap.objs.size (SetN s.heap.objs.size (kaPuts [] more)), I.laid (t' := tk) (fun b u hb => hk b u (by simp) hb) (Nat.le_refl _) k'.newN, rfl, ?_⟩
        exact ok_alloc h2 so hp0 ⟨_, _, rfl, upd_same, R1, (Le.alloc hp0).rep.reps P1⟩
  | _ => exact False.elim h
/-! ### list(d) -/
def ksLst (n : Nat) (st : Store) : Option Cell → R D
  | some (.kset ds) => .ok (.lst ds) st
  | _ => .stuck
def biListK : D → M D
  | .ref n => fun st => ksLst n st st[n]?
  | _ => M.stuck
theorem ents_keys {kas : KA} {es : Array DictEntry} {acc : Array Value} (he : es.toList = kas.map entN) (hs : acc.size = es.size) (hk : ∀ (j : Nat) (v : Value), acc[j]? = some v → ∃ en : DictEntry, es[j]? = some en ∧ v = en.key) : acc.toList = (kas.map (·.2)).map Value.ref := by
  have l1 : es.size = kas.length := by rw [← Array.length_toList, he, List.length_map]
  apply List.ext_getElem?
  intro j
  rw [List.getElem?_map, List.getElem?_map]
  cases hj : acc.toList[j]? with
  | none =>
    have h1 := List.getElem?_eq_none_iff.mp hj
    rw [Array.length_toList] at h1
    rw [List.getElem?_eq_none (by omega)]
    rfl
  | some v =>
    obtain ⟨en, hen, rfl⟩ := hk j v (by rw [← Array.getElem?_toList]; exact hj)
    rw [← Array.getElem?_toList, he, List.getElem?_map] at hen
    obtain ⟨k, hk', rfl⟩ := Option.map_eq_some_iff.mp hen
    rw [hk']
    rfl
theorem cd_listK (hc : X.calm = true) : CallD X E (.type "list") (on1 biListK) := cd_on1 fun pins s σ H v us Q d o st I r r1 so h => by
  cases d with
  | ref n =>
    have h' : wpR (ksLst n st st[n]?) (VOk X.K H o Q) (XOk X.K E H o) := h
    cases q : st[n]? with
    | none => rw [q] at h'; exact False.elim h'
    | some c =>
      rw [q] at h'
      cases c with
      | kset ds =>
        obtain ⟨a, kas, e1, e2, e3, e4⟩ := so.cell n _ q
        obtain ⟨b, rfl, hb⟩ := r1
        have e : a = b := by
          rw [e1] at hb
          rcases hb with hb | hb <;> cases hb
          rfl
        subst e
        obtain ⟨u, rfl, rx⟩ := r.one
        cases rx
        obtain ⟨⟨ob, z, hs, ho, hx, es, ep, hdt, he⟩, _⟩ := I.hok a _ e2
        have l1 : es.size = kas.length := by rw [← Array.length_toList, he, List.length_map]
        refine PySem.W.kdl_call (kdl_raw hs hx hdt) (I.ok.hd hc) ho (by omega) fun g tk acc c kp e it => ?_
        have ea := ents_keys he it.1 it.2
        have rv : Vals ((kas.map (·.2)).map V.ref) acc.toList := by rw [ea]; exact vals_refs _
        have hz : ((kas.map (·.2)).map V.ref).length ≤ sizeLine := by simpa using z
        have hp0 : H s.heap.objs.size = none := I.hok.fresh (Nat.le_refl _)
        refine ⟨.ref s.heap.objs.size, _, I.laid (t' := tk) (o := .lst ((kas.map (·.2)).map V.ref)) kp (Nat.le_refl _) ⟨hz, acc.toList, c, rv, by rw [Array.toArray_toList]; exact e⟩, rfl, ?_⟩
        refine ok_newLst h' so ?_ hp0
        rw [List.map_map]
        exact e4
      | _ => exact False.elim h'
  | _ => exact False.elim h
end
/-! ### for k in d -/
section
variable {K : Frag} {H : Hp} {o : Lo} {st : Store}
theorem StOk.freeW {n : Nat} {a : Addr} {u : HO} (s : StOk K H o st) (hl : o.l[n]? = some (some a)) : StOk K (upd H a u) { o with l := o.l.set n none } (st.set n .dead) ∧ Le H o (upd H a u) { o with l := o.l.set n none } ∧ Lo.av { o with l := o.l.set n none } a := by
  have hm : some a ∈ o.l := List.mem_of_getElem? hl
  have hn0 : n < o.l.length := (List.getElem?_eq_some_iff.mp hl).1
  obtain ⟨s1, av⟩ := s.free hl
  have le : Le H o (upd H a u) { o with l := o.l.set n none } := (Le.write hm).trans Le.free
  refine ⟨⟨s1.len, s1.nd, fun b hb => ?_, fun m c e => ?_⟩, le, av⟩
  · obtain ⟨⟨w, e⟩, nm⟩ := s1.zt b hb
    exact ⟨⟨w, by rw [upd_ne (fun q => av.2 (by rw [← q]; exact hb))]; exact e⟩, nm⟩
  · by_cases hn : n = m
    · subst hn
      rw [List.getElem?_set_self (by rw [← s.len]; exact hn0)] at e
      cases e
      exact List.getElem?_set_self hn0
    · rw [List.getElem?_set_ne hn] at e
      show CellOk _ _ _ ((o.l.set n none)[m]?) c
      rw [List.getElem?_set_ne hn]
      exact (s.cell m c e).mono le.rep fun b w e1 e2 => by rw [upd_ne (fun q => hn (by subst q; exact s.nd n m _ hl e1))]; exact e2
end
def Itks (d : Addr) (o : Obj) (kas : KA) : It :=
  ⟨fun i H => H d = some (KsO d o kas) ∧ i < kas.length, fun i H x H' => H' = H ∧ ∃ k, kas[i]? = some k ∧ x = .ref k.2, fun i H => H d = some (KsO d o kas) ∧ kas.length ≤ i⟩
theorem turn_ks {P : Program} {w : World} {K : Frag} {tg : Expr} {d : Addr} {o : Obj} {es : Array DictEntry} {ep : Nat} {kas : KA} (it : Addr) (hod : o.data = .dict es ep) (he : es.toList = kas.map entN) :
    Turn P w K tg (Itks d o kas) [it] it (fun i h => h.IsKeyIter it d i kas.length ep) where
  mem := by simp
  obj := fun i h st b hb => by
    have e : b = it := by simpa using hb
    subst e; obtain ⟨oi, e, c, dd⟩ := st
    exact ⟨oi, e, fun v z => by rw [dd] at z; cases z⟩
  keep := fun i h h' st k => st.at fun oi e => k it (by simp) oi e
  item := by
    intro X hP hw hK hc i pins s σ H E I hf st hg; subst hP hw hK
    obtain ⟨hd, hi⟩ := hg
    obtain ⟨f0, f1, f2, f3, f4, f5⟩ := hf it (by simp)
    obtain ⟨⟨_, hs, hgd, hx, _⟩, _⟩ := I.hok d _ hd
    have hsz : es.size = kas.length := by rw [← Array.length_toList, he, List.length_map]
    have hen : es[i]? = some (entN kas[i]) := by rw [← Array.getElem?_toList, he, List.getElem?_map, List.getElem?_eq_getElem hi]; rfl
    refine next_key_item st hgd hod hsz hen fun h' st' sb => ?_
    have I1 : Inv X pins σ H { s with heap := h' } := I.turned (t' := s.toks) (fun b ob hb e => (sb.2 b hb).trans e) f0 f1 f3 f4 f5
    obtain ⟨oi, e, c, dd⟩ := id st'
    exact ⟨.ref kas[i].2, rfl, go_of (s := { s with heap := h' }) e c dd (by decide) ⟨.ref kas[i].2, H, I1, rfl, ⟨rfl, kas[i], List.getElem?_eq_getElem hi, rfl⟩, st', fun b hb => (hf b hb).1⟩⟩
  done := by
    intro X hP hw hK hc i pins s σ H E I hf st hg; subst hP hw hK
    obtain ⟨hd, hi⟩ := hg
    obtain ⟨f0, f1, f2, f3, f4, f5⟩ := hf it (by simp)
    obtain ⟨⟨_, hs, hgd, hx, _⟩, _⟩ := I.hok d _ hd
    have hsz : es.size = kas.length := by rw [← Array.length_toList, he, List.length_map]
    exact next_key_end (I.ok.hd hc) st hgd hod hsz hi fun h' eb => ⟨rfl, I.turned (t' := s.toks) (fun b ob hb e => eb b ob hb e) f0 f1 f3 f4 f5⟩
  self := fun A i s Q E st h => wpAny_pyIter_keyiter st h
def iKsT (td : TE) : TI := fun σ H R => td σ H fun x H1 => ∃ d, x = .ref d ∧ ((∃ kas, H1 d = some (SetN d kas) ∧ ∀ o, R (Itks d o kas) (upd H1 d (KsO d o kas))) ∨ (H1 d = some (.dK []) ∧ ∀ o, R (Itks d o []) (upd H1 d (KsO d o []))))
theorem pi_ks {X : Cx} {tg e : Expr} {td : TE} (he : PE X e td) : PI X tg e (iKsT td) := by
  refine ⟨fun pins s σ H R I h => ?_⟩
  refine thn (he.run pins s σ H _ I h) fun u s1 ⟨x, H1, I1, rx, d, ex, q⟩ => ?_
  subst ex
  cases rx
  have go : ∀ (kas : KA) (o : Obj), KsAt s1.heap d o kas → Mut (H1 d) → R (Itks d o kas) (upd H1 d (KsO d o kas)) → wpAny (model X.prog X.w) X.A (pyIter (.ref d)) (PIE X pins σ tg R) X.xe s1 := fun kas o k hm hR => by
    have I2 : Inv X pins σ (upd H1 d (KsO d o kas)) s1 := I1.write (e := d) (t' := s1.toks) hm (.inl rfl) (fun b u _ hu => hu) ⟨_, k.2.2.1⟩ k.new
    obtain ⟨_, hs, hgd, hx, es, ep, hdt, hee⟩ := k
    refine iter_keys hs hgd hx hdt (pi_one (tk := s1.toks) I2 _ (turn_ks _ hdt hee) ⟨_, Heap.get?_push_size _ rfl, rfl, ?_⟩ hR)
    rw [show es.size = kas.length by rw [← Array.length_toList, hee, List.length_map]]
    rfl
  rcases q with ⟨kas, hd, q⟩ | ⟨hd, q⟩
  · obtain ⟨⟨o, k⟩, _⟩ := I1.hok d _ hd
    exact go kas o k (by rw [hd]; trivial) (q o)
  · obtain ⟨_, hsm, vs, kv, ob, es, ep, ho, hx, hdt, _, hee, _⟩ := I1.hok d _ hd
    cases kv
    have he' : es.toList = [] := by cases hq : es.toList with
      | nil => rfl
      | cons _ _ => rw [hq] at hee; cases hee
    exact go [] ob ⟨Nat.zero_le _, hsm, ho, hx, es, ep, hdt, by simpa using he'⟩ (by rw [hd]; trivial) (q ob)
def ksOpenC (n : Nat) (st : Store) : Option Cell → R (List D)
  | some (.kset ds) => .ok ds (st.set n .dead)
  | some (.dic [] []) => .ok [] (st.set n .dead)
  | _ => .stuck
def ksOpen : D → M (List D)
  | .ref n => fun st => ksOpenC n st st[n]?
  | _ => M.stuck
@[simp] def iKs (f : Den) : DenI := fun ρ => f ρ >>= ksOpen
section
variable {E : XK} {H : Hp} {o : Lo} {st : Store} {X : Cx}
theorem walks_ks {K : Frag} {a : Addr} {ob : Obj} {kas : KA} {ds : List D} (hH : H a = some (KsO a ob kas)) (av : o.av a) (hk : Reps K H o ds (kas.map fun k => V.ref k.2)) : Walks K H o (Itks a ob kas) ds := fun H1 o1 st1 l s1 => by
  obtain ⟨h1, _⟩ := l.kp a _ hH av
  have r1 := l.rep.reps hk
  have hl : kas.length = ds.length := by have := hk.length; simpa using this
  refine ⟨⟨h1, Nat.le_of_eq hl⟩, fun i d hd => ?_⟩
  have hi : i < kas.length := by rw [hl]; exact (List.getElem?_eq_some_iff.mp hd).1
  refine ⟨⟨h1, hi⟩, fun x H2 y => ?_⟩
  obtain ⟨rfl, k, hk1, rfl⟩ := y
  obtain ⟨v, hv, rv⟩ := r1.get hd
  rw [List.getElem?_map, hk1] at hv
  cases hv
  exact ⟨.inl rfl, rv⟩
theorem di_ks {tg e : Expr} {f : Den} (h : PD X E e f) : PDI X E tg e (iKs f) := PI.imp (pi_ks h) fun σ H R h => by
  obtain ⟨o, ρ, st, he, hs, h⟩ := h
  refine ⟨o, ρ, st, he, hs, ?_⟩
  refine (wpR.bind.mp h).mono (fun d st1 h1 v H1 o1 l s1 r => ?_) fun _ _ x => x
  cases d with
  | ref n =>
    obtain ⟨b, rfl, hb⟩ := r
    have h' : wpR (ksOpenC n st1 st1[n]?) (IOk X.K H o R) (XOk X.K E H o) := h1
    refine ⟨b, rfl, ?_⟩
    cases q : st1[n]? with
    | none => rw [q] at h'; exact False.elim h'
    | some c =>
      rw [q] at h'
      cases c with
      | kset ds =>
        obtain ⟨a, kas, e1, e2, e3, e4⟩ := s1.cell n _ q
        have e : a = b := by
          rw [e1] at hb
          rcases hb with hb | hb <;> cases hb
          rfl
        subst e
        refine .inl ⟨kas, e2, fun ob => ?_⟩
        obtain ⟨s2, le, av⟩ := StOk.freeW (u := KsO a ob kas) s1 e1
        exact (show IOk X.K H o R ds (st1.set n .dead) from h') _ _ _ (l.trans le) s2 (walks_ks upd_same av (le.rep.reps e4))
      | dic ks ds =>
        cases ks with
        | cons _ _ => cases ds <;> exact False.elim h'
        | nil =>
          cases ds with
          | cons _ _ => exact False.elim h'
          | nil =>
            obtain ⟨a, kvs, e1, e2, e3, e4⟩ := s1.cell n _ q
            have e : a = b := by
              rw [e1] at hb
              rcases hb with hb | hb <;> cases hb
              rfl
            subst e
            have ekv : kvs = [] := List.map_eq_nil_iff.mp e3
            subst ekv
            refine .inr ⟨e2, fun ob => ?_⟩
            obtain ⟨s2, le, av⟩ := StOk.freeW (u := KsO a ob []) s1 e1
            exact (show IOk X.K H o R [] (st1.set n .dead) from h') _ _ _ (l.trans le) s2 (walks_ks upd_same av rfl)
      | _ => exact False.elim h'
  | _ => exact False.elim h1
end
@[simp] abbrev iZip (fs : DenL) : DenI := fun ρ => fs ρ >>= zipL
@[simp] abbrev iEnum (fs : DenL) : DenI := fun ρ => fs ρ >>= enumL
/-! ### range(i, j, -1) -/
def rangeDown (i j : Int) : List D := (List.range (i - j).toNat).map fun (k : Nat) => D.int (i + (k : Int) * (-1))
def rng3 : List D → M (List D)
  | [.int i, .int j, .int c] => bif decide (c = -1 ∧ -(2 ^ 62) ≤ i ∧ i < 2 ^ 62 ∧ -(2 ^ 62) ≤ j ∧ j < 2 ^ 62) then pure (rangeDown i j) else M.stuck
  | _ => M.stuck
@[simp] abbrev iRange3 (fs : DenL) : DenI := fun ρ => fs ρ >>= rng3
section
variable {E : XK} {X : Cx}
theorem walks_down {K : Frag} {H : Hp} {o : Lo} {lo : Int} {n : Nat} : Walks K H o (Itc lo (-1) n) ((List.range n).map fun (k : Nat) => D.int (lo + (k : Int) * (-1))) := fun H1 o1 st1 l s1 => by
  refine ⟨by show n ≤ _; simp, fun i d hd => ?_⟩
  rw [List.getElem?_map] at hd
  obtain ⟨k, hk, rfl⟩ := Option.map_eq_some_iff.mp hd
  obtain ⟨hi, e⟩ := List.getElem?_eq_some_iff.mp hk
  simp at hi e
  subst e
  refine ⟨hi, fun x H2 y => ?_⟩
  obtain ⟨rfl, rfl⟩ := y
  exact ⟨.inl rfl, rfl⟩
theorem di_range3 {tg a b c : Expr} {fs : DenL} {p pos : Pos} (hg : Gl X "range") (hm : X.mg "range" = none) (ha : PL X E [a, b, c] fs) (hs : starEach [a, b, c] X.env = (false, eval a X.env) :: starEach [b, c] X.env) (hs2 : (backTo pos (starEach [b, c] X.env)).any (·.1) = false) :
    PDI X E tg (.Call (.Name "range" p) [a, b, c] [] pos) (iRange3 fs) :=
  PI.imp (pi_range3 hg hm ha hs hs2) fun σ H R h => by
    obtain ⟨o, ρ, st, he, hs, h⟩ := h
    refine ⟨o, ρ, st, he, hs, ?_⟩
    refine (wpR.bind.mp h).mono (fun ds st1 h1 vs H1 o1 l s1 r => ?_) fun _ _ x => x
    match ds, r, h1 with
    | [], _, h1 => exact False.elim h1
    | [d], _, h1 => cases d <;> exact False.elim h1
    | [d, e], _, h1 => cases d <;> cases e <;> exact False.elim h1
    | d :: e :: f :: _ :: _, _, h1 => cases d <;> cases e <;> cases f <;> exact False.elim h1
    | [d, e, f], r, h1 =>
      obtain ⟨v, vs1, rfl, rv, r2⟩ := r
      obtain ⟨w, u, rfl, rw', ru⟩ := r2.two_of
      cases d with
      | int i =>
        cases e with
        | int j =>
          cases f with
          | int c =>
            have h2 : wpR ((bif decide (c = -1 ∧ -(2 ^ 62) ≤ i ∧ i < 2 ^ 62 ∧ -(2 ^ 62) ≤ j ∧ j < 2 ^ 62) then (pure (rangeDown i j) : M (List D)) else M.stuck) st1) (IOk X.K H o R) (XOk X.K E H o) := h1
            cases q : decide (c = -1 ∧ -(2 ^ 62) ≤ i ∧ i < 2 ^ 62 ∧ -(2 ^ 62) ≤ j ∧ j < 2 ^ 62) with
            | false => rw [q] at h2; exact False.elim h2
            | true =>
              rw [q] at h2
              obtain ⟨rfl, a1, a2, a3, a4⟩ := of_decide_eq_true q
              cases (show v = .int i from rv)
              cases (show w = .int j from rw')
              cases (show u = .int (-1) from ru)
              exact ⟨i, j, -1, (i - j).toNat, rfl, RgC.neg a1 a2 a3 a4, (show IOk X.K H o R (rangeDown i j) st1 from h2) _ H1 o1 l s1 walks_down⟩
          | _ => exact False.elim h1
        | _ => cases f <;> exact False.elim h1
      | _ => cases e <;> cases f <;> exact False.elim h1
end
/-! ### list * int, a list of one's own -/
def mulOwn : D → D → M D
  | .lst xs, .int k => guardM (decide (-(2 ^ 63) ≤ k ∧ k < 2 ^ 63 ∧ xs.length * k.toNat ≤ big)) (M.alloc (.lst (List.replicate k.toNat xs).flatten))
  | _, _ => M.stuck
theorem od_mulOwn {X : Cx} {E : XK} : OpD X E (binaryOp .Mult) mulOwn := by
  intro pins s σ H x y v u Q I rx ry h
  obtain ⟨dx, dy, o, st, r1, r2, so, h⟩ := h
  cases dx with
  | lst ds =>
    cases dy with
    | int k =>
      obtain ⟨hc, h⟩ := guardM_wp h
      obtain ⟨h1, h2, h3⟩ := of_decide_eq_true hc
      obtain ⟨a, xs, rfl, k1, k2, q1⟩ := r1
      exact op_rep pins s σ H _ y v u Q I rx ry ⟨a, _, xs, rfl, r2, k1, h1, h2, by rw [q1.length]; exact Nat.le_trans h3 big_le, fun p hp => ok_alloc h so hp (cell_lst so hp (q1.rep _))⟩
    | _ => exact False.elim h
  | _ => cases dy <;> exact False.elim h
end MP

namespace MP
open PySem L2
open PySem.Spec PyProof.Rows
/-! ## list(x) as a list of one's own -/
def biListO : D → M D
  | .tup ds => M.alloc (.lst ds)
  | .lst ds => M.alloc (.lst ds)
  | .ref n => lstOf (.ref n) >>= fun ds => M.alloc (.lst ds)
  | _ => M.stuck
section
variable {X : Cx} {E : XK}
theorem cd_listO : CallD X E (.type "list") (on1 biListO) := cd_on1 fun pins s σ H v us Q d o st I r r1 so h => by
  cases d <;> first | exact False.elim h | skip
  · obtain ⟨a, ys, rfl, k1, q1⟩ := r1
    exact call_list_of pins s σ H _ us Q I r ⟨a, ys, rfl, .inr (tup_sq k1), fun l hl => ok_alloc h so hl (cell_lst so hl q1)⟩
  · obtain ⟨a, ys, rfl, k1, _, q1⟩ := r1
    exact call_list_of pins s σ H _ us Q I r ⟨a, ys, rfl, .inl (SqL.of k1), fun l hl => ok_alloc h so hl (cell_lst so hl q1)⟩
  · obtain ⟨ds, a, ys, rfl, k1, q1, h⟩ := lstOf_wp r1 so (wpR.bind.mp h)
    exact call_list_of pins s σ H _ us Q I r ⟨a, ys, rfl, .inl (SqL.of k1), fun l hl => ok_alloc h so hl (cell_lst so hl q1)⟩
end
/-! ## a if c else b as a test -/
def tIfT (t ta tb : TT) : TT := fun σ H Q => t σ H fun c H1 => if c = true then ta σ H1 Q else tb σ H1 Q
theorem pt_ifT {X : Cx} {c a b : Expr} {t ta tb : TT} {pos : Pos} (hc : PT X c t) (ha : PT X a ta) (hb : PT X b tb) : PT X (.IfExp c a b pos) (tIfT t ta tb) := by
  refine ⟨fun pins s σ H Q I h => ?_⟩
  refine isTrue_IfExp (thn (hc.run pins s σ H _ I h) fun d s1 ⟨H1, I1, q1⟩ => ?_)
  cases d with
  | true => exact ha.run pins s1 σ H1 Q I1 q1
  | false => exact hb.run pins s1 σ H1 Q I1 q1
@[simp] def dBIf (c f g : DenB) : DenB := fun ρ => c ρ >>= fun b => cond b (f ρ) (g ρ)
theorem pb_if {X : Cx} {E : XK} {c a b : Expr} {pos : Pos} {fc f g : DenB} (hc : PB X E c fc) (ha : PB X E a f) (hb : PB X E b g) : PB X E (.IfExp c a b pos) (dBIf fc f g) := PT.imp (pt_ifT hc ha hb) fun σ H Q h => by
  obtain ⟨o, ρ, st, he, hs, h1⟩ := tTT_bind (g := fun c ρ => cond c (f ρ) (g ρ)) h
  refine ⟨o, ρ, st, he, hs, h1.mono (fun c st1 q H1 o1 l s1 => ?_) fun _ _ x => x⟩
  have q' := q H1 o1 l s1
  cases c with
  | true => exact iteT q'
  | false => exact iteF q'
@[simp] theorem listO_t {xs : List D} : biListO (.tup xs) = M.alloc (.lst xs) := rfl
@[simp] theorem listO_l {xs : List D} : biListO (.lst xs) = M.alloc (.lst xs) := rfl
end MP

namespace MP
open PySem L2
open PySem.Spec PyProof.Rows
/-! ## sorted(texts) -/
theorem lt_as : ∀ a b : List Nat, ltCps a b = true → ltCps b a = false
  | [], [], h => by simp [ltCps] at h
  | [], _ :: _, _ => rfl
  | _ :: _, [], h => by simp [ltCps] at h
  | x :: a, y :: b, h => by
    have ih := lt_as a b
    simp only [ltCps, Bool.or_eq_true, decide_eq_true_eq, Bool.and_eq_true, beq_iff_eq] at h
    simp only [ltCps, Bool.or_eq_false_iff, decide_eq_false_iff_not, Bool.and_eq_false_iff]
    rcases h with h | ⟨h, k⟩
    · exact ⟨by omega, .inl (by simp; omega)⟩
    · exact ⟨by omega, .inr (ih k)⟩
theorem le_anti : ∀ a b : List Nat, ltCps a b = false → ltCps b a = false → a = b
  | [], [], _, _ => rfl
  | [], _ :: _, h, _ => by simp [ltCps] at h
  | _ :: _, [], _, h => by simp [ltCps] at h
  | x :: a, y :: b, h, k => by
    have ih := le_anti a b
    simp only [ltCps, Bool.or_eq_false_iff, decide_eq_false_iff_not, Bool.and_eq_false_iff] at h k
    have e : x = y := by omega
    subst e
    have h2 : ltCps a b = false := by
      rcases h.2 with q | q
      · simp at q
      · exact q
    have k2 : ltCps b a = false := by
      rcases k.2 with q | q
      · simp at q
      · exact q
    rw [ih h2 k2]
theorem le_tr : ∀ a b c : List Nat, ltCps b a = false → ltCps c b = false → ltCps c a = false
  | [], _, c, _, _ => by cases c <;> rfl
  | _ :: _, [], _, h, _ => by simp [ltCps] at h
  | _ :: _, _ :: _, [], _, h => by simp [ltCps] at h
  | x :: a, y :: b, z :: c, h, k => by
    have ih := le_tr a b c
    simp only [ltCps, Bool.or_eq_false_iff, decide_eq_false_iff_not, Bool.and_eq_false_iff] at h k ⊢
    refine ⟨by omega, ?_⟩
    by_cases e : z = x
    · have e1 : z = y := by omega
      have e2 : y = x := by omega
      subst e1 e2
      refine .inr (ih ?_ ?_)
      · rcases h.2 with q | q
        · simp at q
        · exact q
      · rcases k.2 with q | q
        · simp at q
        · exact q
    · exact .inl (by simpa using e)
def leS (a b : Str) : Bool := !ltCps b.cps.toList a.cps.toList
theorem leS_f {a b : Str} : leS a b = true ↔ ltCps b.cps.toList a.cps.toList = false := by unfold leS; simp
theorem leS_tr (a b c : Str) (h : leS a b = true) (k : leS b c = true) : leS a c = true := leS_f.mpr (le_tr _ _ _ (leS_f.mp h) (leS_f.mp k))
theorem leS_total (a b : Str) : (leS a b || leS b a) = true := by
  unfold leS
  cases h : ltCps b.cps.toList a.cps.toList with
  | false => rfl
  | true => rw [lt_as _ _ h]; rfl
theorem leS_anti {a b : Str} (h : leS a b = true) (k : leS b a = true) : a = b := by
  have e := le_anti _ _ (leS_f.mp k) (leS_f.mp h)
  obtain ⟨a⟩ := a
  obtain ⟨b⟩ := b
  have : a = b := Array.toList_inj.mp e
  rw [this]
theorem rising_pw : ∀ (l : List Str) (p : Str), risingS p l = true → (p :: l).Pairwise (fun a b => leS a b = true)
  | [], p, _ => by simp
  | x :: r, p, h => by
    have h' : (!ltCps x.cps.toList p.cps.toList && risingS x r) = true := h
    rw [Bool.and_eq_true] at h'
    have ih := rising_pw r x h'.2
    have hp : leS p x = true := h'.1
    refine List.pairwise_cons.mpr ⟨fun y hy => ?_, ih⟩
    rcases List.mem_cons.mp hy with rfl | hy
    · exact hp
    · exact leS_tr _ _ _ hp (List.rel_of_pairwise_cons ih hy)
theorem sorted_pw : ∀ (l : List Str), sortedS l = true → l.Pairwise (fun a b => leS a b = true)
  | [], _ => by simp
  | x :: r, h => rising_pw r x h
def sortSt (xs : List Str) : List Str := xs.mergeSort leS
theorem sortSt_perm (xs : List Str) : (sortSt xs).Perm xs := List.mergeSort_perm _ _
theorem sortSt_pw (xs : List Str) : (sortSt xs).Pairwise (fun a b => leS a b = true) := List.pairwise_mergeSort leS_tr leS_total xs
theorem sortSt_eq {xs ys : List Str} (p : ys.Perm xs) (h : sortedS ys = true) : ys = sortSt xs :=
  List.Perm.eq_of_pairwise (le := fun a b => leS a b = true) (fun a b _ _ h k => leS_anti h k) (sorted_pw ys h) (sortSt_pw xs) (p.trans (sortSt_perm xs).symm)
theorem strsD_map : ∀ ss : List Str, strsD (ss.map D.str) = some ss
  | [] => rfl
  | s :: ss => by
    show (strsD (ss.map D.str)).map (s :: ·) = _
    rw [strsD_map ss]; rfl
def biSortS : D → M D
  | .lst ds => match strsD ds with
    | some ss => guardM (decide (ss.length ≤ big)) (pure (.lst ((sortSt ss).map D.str)))
    | none => M.stuck
  | _ => M.stuck
@[simp] theorem sortS_l {ss : List Str} : biSortS (.lst (ss.map D.str)) = guardM (decide (ss.length ≤ big)) (pure (.lst ((sortSt ss).map D.str))) := by
  unfold biSortS
  simp only [strsD_map]
section
variable {K : Frag} {E : XK} {H : Hp} {o : Lo} {st : Store} {X : Cx}
theorem reps_strs : ∀ {ss : List Str} {vs : List V}, Reps K H o (ss.map D.str) vs → vs = ss.map V.str
  | [], vs, h => by cases (show vs = [] from h); rfl
  | s :: ss, vs, h => by
    obtain ⟨v, vs', rfl, h1, h2⟩ := h
    have e : v = .str s := h1
    rw [e, reps_strs h2]; rfl
theorem reps_ofStrs : ∀ (ss : List Str), Reps K H o (ss.map D.str) (ss.map V.str)
  | [] => rfl
  | s :: ss => ⟨_, _, rfl, rfl, reps_ofStrs ss⟩
def rSortedA (K : Frag) : List V → Hp → VK → Prop := fun vs H Q => ∃ (a : Addr) (xs : List Str), vs = [V.ref a] ∧ SqL K H a (xs.map V.str) ∧ xs.length ≤ big ∧
  ∀ (ys : List Str) (p : Addr), ys.Perm xs → sortedS ys = true → H p = none → Q (.ref p) (upd H p (.lst (ys.map V.str)))
theorem cr_sortedA : CallR X (.builtin "sorted") (rSortedA X.K) := by
  intro pins s σ H vs us Q I r h
  obtain ⟨a, xs, rfl, hs, hb, q⟩ := h
  obtain ⟨its, rv, hl, hz⟩ := I.list hs
  rw [Vals.ref1 r]
  have hlen0 := rv.length
  rw [List.length_map] at hlen0
  refine PyProof.Rows.sorted_strsAny hl.isList rv.strs (by rw [← hlen0]; exact Nat.le_trans hb big_le) fun out ys h1 h2 h3 => ?_
  obtain ⟨ep, he'⟩ := PyProof.Rows.sortedAll_at s.heap its out
  have hlen : (ys.map V.str).length ≤ sizeLine := by rw [List.length_map, h2.length_eq]; exact Nat.le_trans hb big_le
  exact ⟨.ref _, upd H (s.heap.objs.size + 1) (.lst (ys.map V.str)), I.laid (t' := s.toks) (fun _ _ => PyProof.Rows.sortedAll_old) (Nat.le_succ _) ⟨hlen, out.toList, ep, vals_of_strs h1, he'⟩, rfl, q ys _ h2 h3 (I.hok.fresh (Nat.le_succ _))⟩
theorem cd_sortS : CallD X E (.builtin "sorted") (on1 biSortS) := cd_on1 fun pins s σ H v us Q d o st I r r1 so h => by
  cases d with
  | lst ds =>
    cases e : strsD ds with
    | none =>
      have h' : wpR ((match strsD ds with | some ss => guardM (decide (ss.length ≤ big)) (pure (.lst ((sortSt ss).map D.str))) | none => M.stuck : M D) st) (VOk X.K H o Q) (XOk X.K E H o) := h
      rw [e] at h'
      exact False.elim h'
    | some ss =>
      have es := strsD_eq e
      subst es
      rw [sortS_l] at h
      obtain ⟨hc, h⟩ := guardM_wp h
      obtain ⟨a, xs, rfl, k, av, r2⟩ := r1
      rw [reps_strs r2] at k
      exact cr_sortedA pins s σ H _ us Q I r ⟨a, ss, rfl, SqL.of k, of_decide_eq_true hc, fun ys p hp hs hn => by
        rw [sortSt_eq hp hs]
        exact ok_newLst h so (reps_ofStrs _) hn⟩
  | _ => exact False.elim h
end

/-! ## the texts that are the keys of a dict of one's own: [str(t) for t in d] -/
def keyStrs : List Key → Option (List Str)
  | [] => some []
  | .inr s :: ks => (keyStrs ks).map (s :: ·)
  | .inl _ :: _ => none
theorem keyStrs_eq : ∀ {ks : List Key} {ss : List Str}, keyStrs ks = some ss → ks = ss.map Sum.inr
  | [], ss, h => by cases (show some [] = some ss from h); rfl
  | .inr s :: ks, ss, h => by
    obtain ⟨r, e, rfl⟩ := Option.map_eq_some_iff.mp (show (keyStrs ks).map (s :: ·) = some ss from h)
    rw [keyStrs_eq e]; rfl
  | .inl _ :: _, _, h => by cases h
theorem keyStrs_map : ∀ ss : List Str, keyStrs (ss.map Sum.inr) = some ss
  | [] => rfl
  | s :: ss => by
    show (keyStrs (ss.map Sum.inr)).map (s :: ·) = _
    rw [keyStrs_map ss]; rfl
def skOf (st : Store) : Option Cell → R D
  | some (.dic ks ds) => match keyStrs ks with
    | some ss => bif decide (ss.length ≤ big) then .ok (.lst (ss.map D.str)) st else .stuck
    | none => .stuck
  | _ => .stuck
def skM : Option (Option D) → M D
  | some (some (.ref n)) => fun st => skOf st st[n]?
  | _ => M.stuck
def dSK (i : Nat) : Den := fun ρ => skM ρ[i]?
section
variable {K : Frag} {E : XK} {H : Hp} {o : Lo} {st : Store} {X : Cx}
/-- .. by values -/
def tSK (i : Nat) : TE := fun σ H Q => ∃ (a : Addr) (kvs : List (Key × V)) (ss : List Str), σ[i]? = some (some (.ref a)) ∧ H a = some (.dK kvs) ∧ kvs.map (·.1) = ss.map Sum.inr ∧ ss.length ≤ big ∧ ∀ p, H p = none → Q (.ref p) (upd H p (.lst (ss.map V.str)))
def tStrAt (j : Nat) : TE := fun σ H Q => ∃ s, σ[j]? = some (some (.str s)) ∧ Q (.str s) H
theorem pe_strAt {X : Cx} {j : Nat} {x : Str} {p q pos : Pos} (hN : X.N[j]? = some x) (hv : Vis X.env.scope x) (hd : (x == ("__debug__" : Str)) = false) (hcd : (x == ("__classdict__" : Str)) = false) (hg : Gl X "str") (hm : X.mg "str" = none) (hb : bootBuiltins "str" = some (.type "str")) :
    PE X (.Call (.Name "str" p) [.Name x q] [] pos) (tStrAt j) := by
  refine PE.imp (pe_callTy SkE.call_str_str hg hm hb (pa_cons (pe_var hN hv hd hcd) pa_nil)) fun σ H Q h => ?_
  obtain ⟨s, e, h⟩ := h
  exact ⟨.str s, e, s, rfl, h⟩
theorem tSK_lock {i j : Nat} {vs : List Nat} {σ : L2.St} {H : Hp} {Q : VK} (hj : j ∈ vs) (hjl : j < σ.length) (h : tSK i σ H Q) :
    tLockE (tLc (iKeys (tVar i)) (gName j) (fun σ H Q => Q true H) (tStrAt j) vs) σ H Q := by
  obtain ⟨a, kvs, ss, e1, e2, e3, e4, q⟩ := h
  refine ⟨a, .dK kvs, e2, trivial, fun od => ?_⟩
  generalize hH1 : upd H a (.frz od (.dK kvs)) = H1
  have ha1 : H1 a = some (.frz od (.dK kvs)) := by rw [← hH1]; exact upd_same
  have hlen : kvs.length = ss.length := by have := congrArg List.length e3; simpa using this
  refine ⟨.ref a, e1, a, od, rfl, .inl ⟨kvs, ha1, fun D hD => ?_⟩⟩
  have hne : a ≠ D := fun e => by rw [e, hD] at ha1; cases ha1
  refine ⟨fun i m Hi => m = kvs.length - i ∧ i ≤ kvs.length ∧ Hi = upd H1 D (.lst ((ss.take i).map V.str)), ⟨_, rfl, Nat.zero_le _, by simp⟩, ?_⟩
  rintro k m Hi ⟨rfl, hk, rfl⟩
  have hai : (upd H1 D (.lst ((ss.take k).map V.str))) a = some (.frz od (.dK kvs)) := by rw [upd_ne hne]; exact ha1
  by_cases hlt : k < kvs.length
  · refine .inr ⟨⟨hai, hlt⟩, fun H' => H' = upd H1 D (.lst ((ss.take (k + 1)).map V.str)), fun H' e => ⟨_, by omega, rfl, hlt, e⟩, fun x H' y => ?_⟩
    obtain ⟨rfl, kk, vv, ekv, rfl⟩ := y
    have hks : k < ss.length := by omega
    have ek : kk = .inr ss[k] := by
      have : (kvs.map (·.1))[k]? = some kk := by rw [List.getElem?_map, ekv]; rfl
      rw [e3, List.getElem?_map, List.getElem?_eq_getElem hks] at this
      exact (Option.some.inj this).symm
    subst ek
    refine ⟨wipe_ext (by rw [List.length_set, wipe_length]) (fun n hn => by rw [List.getElem?_set_ne (fun e => hn (by rw [← e]; exact hj))]) |>.trans (wipe_wipe σ vs), ?_⟩
    refine iteT ⟨ss[k], List.getElem?_set_self (by rw [wipe_length]; exact hjl), (ss.take k).map V.str, upd_same, ?_, ?_⟩
    · rw [List.length_map, List.length_take]
      have := big_lt
      omega
    · rw [upd_upd]
      congr 2
      rw [List.take_add_one, List.getElem?_eq_getElem hks, List.map_append]
      rfl
  · have e : k = kvs.length := by omega
    subst e
    refine .inl ⟨⟨hai, Nat.le_refl _⟩, hai, ?_⟩
    have hDn : H D = none := by rw [← hH1, upd_ne (Ne.symm hne)] at hD; exact hD
    have e5 : upd (upd H1 D (.lst ((ss.take kvs.length).map V.str))) a (.dK kvs) = upd H D (.lst (ss.map V.str)) := by
      rw [hlen, List.take_length, ← hH1]
      funext b
      by_cases hb : b = a
      · subst hb; rw [upd_same, upd_ne hne, e2]
      · rw [upd_ne hb]
        by_cases hb2 : b = D
        · subst hb2; rw [upd_same, upd_same]
        · rw [upd_ne hb2, upd_ne hb2, upd_ne hb]
    rw [e5]
    exact q D hDn
theorem pd_strKeys {i j : Nat} {x y : Str} {p1 p2 p3 pos pos2 : Pos} {scope : Scope} {own : List (Str × Nat)} (hc : X.calm = true) (hN : X.N.Nodup) (hx : X.N[i]? = some x) (hv : Vis X.env.scope x) (hxd : (x == ("__debug__" : Str)) = false) (hxc : (x == ("__classdict__" : Str)) = false)
    (ok : BlkOk X.N X.env.scope scope own) (hj : j ∈ own.map (·.2))
    (hg : ∀ (s : Shared) (H : Hp) (C : Addr) (cl : List (Str × Addr)) (fp : List Addr), PG (X.blk s H scope (compEnvC scope cl C X.env) fp) (.Name y p1) (gName j))
    (he : ∀ (s : Shared) (H : Hp) (C : Addr) (cl : List (Str × Addr)) (fp : List Addr), PE (X.blk s H scope (compEnvC scope cl C X.env) fp) (.Call (.Name "str" p2) [.Name y p3] [] pos2) (tStrAt j)) {px : Pos} (hs : ∀ z, foldedSetIterable (.Name x px) X.env z = pure z) (hjN : j < X.N.length) :
    PD X E (.ListComp (.Call (.Name "str" p2) [.Name y p3] [] pos2) [⟨.Name y p1, .Name x px, [], 0⟩] scope pos) (dSK i) := by
  refine ⟨fun pins s σ H Q I h => ?_⟩
  refine (pe_lock (pe_lc hc hN (pi_keys (pe_var hx hv hxd hxc)) ok hg (fun s H C cl fp => pts_nil) he hs)).run pins s σ H Q I (tSK_lock hj ?_ ?_)
  · rw [I.len]; exact hjN
  obtain ⟨o, ρ, st, he, so, h⟩ := h
  have h' : wpR (skM ρ[i]? st) (VOk X.K H o Q) (XOk X.K E H o) := h
  cases e : ρ[i]? with
  | none => rw [e] at h'; exact False.elim h'
  | some od =>
    rw [e] at h'
    cases od with
    | none => exact False.elim h'
    | some d =>
      cases d with
      | ref n =>
        have h2 : wpR (skOf st st[n]?) (VOk X.K H o Q) (XOk X.K E H o) := h'
        cases e2 : st[n]? with
        | none => rw [e2] at h2; exact False.elim h2
        | some c =>
          rw [e2] at h2
          cases c with
          | dic ks ds =>
            have h3 : wpR ((match keyStrs ks with | some ss => bif decide (ss.length ≤ big) then R.ok (.lst (ss.map D.str)) st else .stuck | none => .stuck) : R D) (VOk X.K H o Q) (XOk X.K E H o) := h2
            cases e3 : keyStrs ks with
            | none => rw [e3] at h3; exact False.elim h3
            | some ss =>
              rw [e3] at h3
              have ck := so.cell n _ e2
              obtain ⟨a, kvs, k1, k2, k3, k4⟩ := ck
              obtain ⟨v, hv1, hv2⟩ := he.2 i _ e
              obtain ⟨b, rfl, hb⟩ := hv2
              have eb : b = a := by
                rw [k1] at hb
                rcases hb with hb | hb <;> cases hb
                rfl
              subst eb
              cases hl : decide (ss.length ≤ big) with
              | false =>
                have h4 : wpR ((bif decide (ss.length ≤ big) then R.ok (.lst (ss.map D.str)) st else .stuck) : R D) (VOk X.K H o Q) (XOk X.K E H o) := h3
                rw [hl] at h4
                exact False.elim h4
              | true =>
                have h4 : wpR ((bif decide (ss.length ≤ big) then R.ok (.lst (ss.map D.str)) st else .stuck) : R D) (VOk X.K H o Q) (XOk X.K E H o) := h3
                rw [hl] at h4
                exact ⟨b, kvs, ss, hv1, k2, by rw [k3]; exact keyStrs_eq e3, of_decide_eq_true hl, fun p hp => ok_newLst (show VOk X.K H o Q (.lst (ss.map D.str)) st from h4) so (reps_ofStrs _) hp⟩
          | _ => exact False.elim h2
      | _ => exact False.elim h'
end
end MP

/-! {k: v for .. in .. if ..}: a dict of one's own -/
namespace MP
open PySem L2
open PySem.Spec PyProof.Rows
def keyB {α : Type} (d : D) (f : Key → M α) : M α := match keyD d with
  | some k => f k
  | none => M.stuck
@[simp] theorem keyB_s {α : Type} {s : Str} {f : Key → M α} : keyB (.str s) f = f (.inr s) := rfl
theorem keyB_wp {α : Type} {d : D} {f : Key → M α} {st : Store} {Q : α → Store → Prop} {Z : Exn → Store → Prop} (h : wpR (keyB d f st) Q Z) : ∃ k, keyD d = some k ∧ wpR (f k st) Q Z := by
  unfold keyB at h
  cases e : keyD d with
  | none => rw [e] at h; exact False.elim h
  | some k => rw [e] at h; exact ⟨k, rfl, h⟩
def dcL (t : Tg) (c : DenB) (fk fv : Den) (ρ0 : Env) : List D → List Key → List D → M (List Key × List D)
  | [], ks, vs => pure (ks, vs)
  | d :: ds, ks, vs => optB (t.bind d ρ0) fun ρ1 => noX (c ρ1) >>= fun b => cond b (noX (fk ρ1) >>= fun x => noX (fv ρ1) >>= fun y => keyB x fun k => dcL t c fk fv ρ0 ds (dputK ks k) (dputV ks vs k y)) (dcL t c fk fv ρ0 ds ks vs)
def dicA (p : List Key × List D) : M D := M.alloc (.dic p.1 p.2)
@[simp] def dDcOwn (it : DenI) (vs : List Nat) (t : Tg) (c : DenB) (fk fv : Den) : Den := fun ρ => it ρ >>= fun ds => guardL (decide (ds.length ≤ big)) (dcL t c fk fv (wipeE ρ vs) ds [] [] >>= dicA)
section
variable {K : Frag} {E : XK} {H : Hp} {o : Lo} {st : Store} {X : Cx}
theorem tD_dc {it : DenI} {vs : List Nat} {t : Tg} {c : DenB} {fk fv : Den} {σ : L2.St} {Q : VK} (hsub : ∀ i ∈ t.slots, i ∈ vs) (h : tD K E (dDcOwn it vs t c fk fv) σ H Q) :
    tDc (tI K E it) (t.g K) (tT K EX0 c) (tD K EX0 fk) (tD K EX0 fv) vs σ H Q := by
  obtain ⟨o, ρ, st, he, hs, h⟩ := h
  refine ⟨o, ρ, st, he, hs, ?_⟩
  refine (wpR.bind.mp h).mono (fun ds st1 h1 J H1 o1 l1 s1 w Dd hD => ?_) fun _ _ x => x
  obtain ⟨hlen, h1⟩ := guardL_wp h1
  have hlen := of_decide_eq_true hlen
  have h1 := wpR.bind.mp h1
  refine ⟨fun i m Hi => m = ds.length - i ∧ i ≤ ds.length ∧ ∃ oi sti accd kvs, Lc H1 o1 Hi oi ∧ oi.z = Dd :: o1.z ∧ LeW K (upd H1 Dd (.dK [])) (o1.hold Dd) Hi oi ∧ StOk K Hi oi sti ∧ Hi Dd = some (.dK kvs) ∧ some Dd ∉ oi.l ∧ (kvs.map (·.1)).Nodup ∧ Reps K Hi oi accd (kvs.map (·.2)) ∧ kvs.length ≤ i ∧
      wpR (dcL t c fk fv (wipeE ρ vs) (ds.drop i) (kvs.map (·.1)) accd sti) (fun p st' => wpR (dicA p st') (VOk K H o Q) (XOk K E H o)) (XOk K E H o),
    ⟨_, rfl, Nat.zero_le _, o1.hold Dd, st1, [], [], Lc.hold hD, rfl, LeW.refl, s1.hold hD, upd_same, (s1.avOf hD).1, List.nodup_nil, rfl, Nat.le_refl _, h1⟩, ?_⟩
  rintro i m Hi ⟨rfl, hi, oi, sti, accd, kvs, lc, ez, lr, si, eD, nD, nd, ra, la, hw⟩
  have lr0 : LeW K H1 o1 Hi oi := (LeW.hold hD).trans lr
  obtain ⟨w1, w2⟩ := w Hi oi sti lr0 si
  by_cases hlt : i < ds.length
  · rw [List.drop_eq_getElem_cons hlt] at hw
    obtain ⟨go, yl⟩ := w2 i _ (List.getElem?_eq_getElem hlt)
    refine .inr ⟨go, fun H2 => ∃ m', m' < ds.length - i ∧ (m' = ds.length - (i + 1) ∧ i + 1 ≤ ds.length ∧ ∃ oi sti accd kvs, Lc H1 o1 H2 oi ∧ oi.z = Dd :: o1.z ∧ LeW K (upd H1 Dd (.dK [])) (o1.hold Dd) H2 oi ∧ StOk K H2 oi sti ∧ H2 Dd = some (.dK kvs) ∧ some Dd ∉ oi.l ∧ (kvs.map (·.1)).Nodup ∧ Reps K H2 oi accd (kvs.map (·.2)) ∧ kvs.length ≤ i + 1 ∧
      wpR (dcL t c fk fv (wipeE ρ vs) (ds.drop (i + 1)) (kvs.map (·.1)) accd sti) (fun p st' => wpR (dicA p st') (VOk K H o Q) (XOk K E H o)) (XOk K E H o)), fun _ x => x, fun x H2 y => ?_⟩
    obtain ⟨gr, rx⟩ := yl x H2 y
    have l2 : Le Hi oi H2 oi := Gr.le gr
    have s2 := Gr.stOk gr si
    have hw' : wpR (optB (t.bind ds[i] (wipeE ρ vs)) (fun ρ1 => noX (c ρ1) >>= fun b => cond b (noX (fk ρ1) >>= fun x => noX (fv ρ1) >>= fun y => keyB x fun k => dcL t c fk fv (wipeE ρ vs) (ds.drop (i + 1)) (dputK (kvs.map (·.1)) k) (dputV (kvs.map (·.1)) accd k y)) (dcL t c fk fv (wipeE ρ vs) (ds.drop (i + 1)) (kvs.map (·.1)) accd)) sti) (fun p st' => wpR (dicA p st') (VOk K H o Q) (XOk K E H o)) (XOk K E H o) := hw
    cases hb : t.bind ds[i] (wipeE ρ vs) with
    | none => rw [hb] at hw'; exact False.elim hw'
    | some ρ1 =>
      rw [hb] at hw'
      have env0 : EnvOk K H2 oi (wipeE ρ vs) (wipe σ vs) := ((he.mono (l1.rep.trans lr0.rep)).mono l2.rep).wipe vs
      refine t.ok rx hb env0 fun σ2 he2 kp => ?_
      refine ⟨(wipe_ext (kp.1.trans rfl) fun j hj => kp.2 j fun q => hj (hsub j q)).trans (wipe_wipe σ vs), ?_⟩
      have hw2 : wpR ((noX (c ρ1) >>= fun b => cond b (noX (fk ρ1) >>= fun x => noX (fv ρ1) >>= fun y => keyB x fun k => dcL t c fk fv (wipeE ρ vs) (ds.drop (i + 1)) (dputK (kvs.map (·.1)) k) (dputV (kvs.map (·.1)) accd k y)) (dcL t c fk fv (wipeE ρ vs) (ds.drop (i + 1)) (kvs.map (·.1)) accd)) sti) (fun p st' => wpR (dicA p st') (VOk K H o Q) (XOk K E H o)) (XOk K E H o) := hw'
      refine ⟨oi, ρ1, sti, he2, s2, ?_⟩
      refine wpR.mono (noX_wp (wpR.bind.mp hw2)) (fun b st3 h3 H3 o3 l3 s3 => ?_) fun _ _ x => x
      have lc3 : Lc H1 o1 H3 o3 := (lc.trans l2.toLc).trans l3.toLc
      have lr3 : LeW K Hi oi H3 o3 := l2.w.trans l3.w
      have ez3 : o3.z = Dd :: o1.z := l3.z.trans ez
      obtain ⟨eD2, nD2⟩ := l2.keep Dd _ eD nD
      obtain ⟨eD3, nD3⟩ := l3.keep Dd _ eD2 nD2
      cases b with
      | false =>
        exact iteF ⟨_, by omega, rfl, by omega, o3, st3, accd, kvs, lc3, ez3, lr.trans lr3, s3, eD3, nD3, nd, lr3.rep.reps ra, Nat.le_succ_of_le la, h3⟩
      | true =>
        refine iteT ⟨o3, ρ1, st3, he2.mono l3.rep, s3, ?_⟩
        have h3' : wpR ((noX (fk ρ1) >>= fun x => noX (fv ρ1) >>= fun y => keyB x fun k => dcL t c fk fv (wipeE ρ vs) (ds.drop (i + 1)) (dputK (kvs.map (·.1)) k) (dputV (kvs.map (·.1)) accd k y)) st3) (fun p st' => wpR (dicA p st') (VOk K H o Q) (XOk K E H o)) (XOk K E H o) := h3
        refine wpR.mono (noX_wp (wpR.bind.mp h3')) (fun x4 st4 h4 v4 H4 o4 l4 s4 r4 => ?_) fun _ _ x => x
        obtain ⟨eD4, nD4⟩ := l4.keep Dd _ eD3 nD3
        have ez4 : o4.z = Dd :: o1.z := l4.z.trans ez3
        refine ⟨o4, ρ1, st4, (he2.mono l3.rep).mono l4.rep, s4, ?_⟩
        refine wpR.mono (noX_wp (wpR.bind.mp h4)) (fun y5 st5 h5 v5 H5 o5 l5 s5 r5 => ?_) fun _ _ x => x
        obtain ⟨eD5, nD5⟩ := l5.keep Dd _ eD4 nD4
        have ez5 : o5.z = Dd :: o1.z := l5.z.trans ez4
        have hin : Dd ∈ o5.z := by rw [ez5]; exact List.mem_cons_self
        obtain ⟨k, ek, h6⟩ := keyB_wp h5
        have lr5 : LeR K Hi oi H5 o5 := (lr3.rep.trans l4.rep).trans l5.rep
        obtain ⟨p1, p2⟩ := dput_rep (k := k) nd (lr5.reps ra) r5
        refine ⟨kvs, k, keyD_rep ek (l5.rep _ _ r4), eD5, by have := big_lt; omega, _, by omega, rfl, by omega, o5, st5, dputV (kvs.map (·.1)) accd k y5, putK kvs k v5, ((lc3.trans l4.toLc).trans l5.toLc).rewriteNew hD, ez5, ((((lr.trans lr3).trans l4.w)).trans l5.w).trans (LeW.rewrite hin), s5.rewrite hin, upd_same, nD5,
          by rw [p1]; exact (dputK_nodup nd).1, (LeR.rewrite hin).reps p2, by have := length_putK kvs k v5; omega, ?_⟩
        rw [p1]
        exact h6
  · have e : i = ds.length := by omega
    subst e
    rw [List.drop_length] at hw
    refine .inl ⟨w1, ?_⟩
    have hw' : wpR (M.alloc (.dic (kvs.map (·.1)) accd) sti) (VOk K H o Q) (XOk K E H o) := hw
    have nz : Dd ∉ o1.z := (s1.avOf hD).2
    obtain ⟨s3, r3⟩ := si.hole (p := Dd) (z := o1.z) ez nz
    have le3 : Le H1 o1 (fun a => if a = Dd then none else Hi a) { oi with z := o1.z } := ⟨⟨fun a u e n => by
      obtain ⟨g1, g2⟩ := lc.keep a u e n
      exact ⟨by show (if a = Dd then none else Hi a) = _; rw [if_neg (ne_of_none e hD)]; exact g1, g2⟩, lc.loc, lc.x⟩, rfl⟩
    have eH : Hi = upd (fun a => if a = Dd then none else Hi a) Dd (.dK kvs) := by
      funext a
      by_cases ha : a = Dd
      · subst ha; rw [upd_same, eD]
      · rw [upd_ne ha, if_neg ha]
    rw [eH]
    have hn : (fun a => if a = Dd then none else Hi a) Dd = none := if_pos rfl
    exact ok_alloc (wpR.mono hw' (fun _ _ x => x.mono (l1.trans le3)) fun _ _ x => x.mono (l1.trans le3)) s3 hn ⟨Dd, kvs, rfl, upd_same, rfl, (Le.alloc hn).rep.reps (r3.reps ra)⟩
theorem pd_dc {kx vx tg iter : Expr} {ifs : List Expr} {scope : Scope} {own : List (Str × Nat)} {pos : Pos} {it : DenI} {t : Tg} {c : DenB} {fk fv : Den} (hc : X.calm = true) (hN : X.N.Nodup) (hi : PDI X E tg iter it) (ok : BlkOk X.N X.env.scope scope own)
    (hg : ∀ (s : Shared) (H : Hp) (C : Addr) (cl : List (Str × Addr)) (fp : List Addr), PG (X.blk s H scope (compEnvC scope cl C X.env) fp) tg (t.g X.K))
    (ht : ∀ (s : Shared) (H : Hp) (C : Addr) (cl : List (Str × Addr)) (fp : List Addr), PTs (X.blk s H scope (compEnvC scope cl C X.env) fp) ifs (tT X.K EX0 c))
    (hk : ∀ (s : Shared) (H : Hp) (C : Addr) (cl : List (Str × Addr)) (fp : List Addr), PE (X.blk s H scope (compEnvC scope cl C X.env) fp) kx (tD X.K EX0 fk))
    (he : ∀ (s : Shared) (H : Hp) (C : Addr) (cl : List (Str × Addr)) (fp : List Addr), PE (X.blk s H scope (compEnvC scope cl C X.env) fp) vx (tD X.K EX0 fv)) (hs : ∀ x, foldedSetIterable iter X.env x = pure x) (hsub : ∀ i ∈ t.slots, i ∈ own.map (·.2)) :
    PD X E (.DictComp kx vx [⟨tg, iter, ifs, 0⟩] scope pos) (dDcOwn it (own.map (·.2)) t c fk fv) := PE.imp (pe_dc hc hN hi ok hg ht hk he hs) fun _ _ _ h => tD_dc hsub h
end
end MP
/-! [.. for ..]: a list of one's own -/
namespace MP
open PySem L2
open PySem.Spec PyProof.Rows
def lstA (ys : List D) : M D := M.alloc (.lst ys)
@[simp] def dLcOwn (it : DenI) (vs : List Nat) (t : Tg) (c : DenB) (f : Den) : Den := fun ρ => it ρ >>= fun ds => guardL (decide (ds.length ≤ big)) (lcL t c f (wipeE ρ vs) ds >>= lstA)
section
variable {K : Frag} {E : XK} {H : Hp} {o : Lo} {st : Store} {X : Cx}
theorem tD_lcO {it : DenI} {vs : List Nat} {t : Tg} {c : DenB} {f : Den} {σ : L2.St} {Q : VK} (hsub : ∀ i ∈ t.slots, i ∈ vs) (h : tD K E (dLcOwn it vs t c f) σ H Q) :
    tLc (tI K E it) (t.g K) (tT K EX0 c) (tD K EX0 f) vs σ H Q := by
  obtain ⟨o, ρ, st, he, hs, h⟩ := h
  refine ⟨o, ρ, st, he, hs, ?_⟩
  refine (wpR.bind.mp h).mono (fun ds st1 h1 J H1 o1 l1 s1 w Dd hD => ?_) fun _ _ x => x
  obtain ⟨hlen, h1⟩ := guardL_wp h1
  have hlen := of_decide_eq_true hlen
  have h1 := wpR.bind.mp h1
  refine ⟨fun i m Hi => m = ds.length - i ∧ i ≤ ds.length ∧ ∃ oi sti accd acc, Lc H1 o1 Hi oi ∧ oi.z = Dd :: o1.z ∧ LeW K (upd H1 Dd (.lst [])) (o1.hold Dd) Hi oi ∧ StOk K Hi oi sti ∧ Hi Dd = some (.lst acc) ∧ some Dd ∉ oi.l ∧ Reps K Hi oi accd acc ∧ accd.length ≤ i ∧
      wpR (lcL t c f (wipeE ρ vs) (ds.drop i) sti) (fun ys st' => wpR (lstA (accd ++ ys) st') (VOk K H o Q) (XOk K E H o)) (XOk K E H o),
    ⟨_, rfl, Nat.zero_le _, o1.hold Dd, st1, [], [], Lc.hold hD, rfl, LeW.refl, s1.hold hD, upd_same, (s1.avOf hD).1, rfl, Nat.le_refl _, h1⟩, ?_⟩
  rintro i m Hi ⟨rfl, hi, oi, sti, accd, acc, lc, ez, lr, si, eD, nD, ra, la, hw⟩
  have lr0 : LeW K H1 o1 Hi oi := (LeW.hold hD).trans lr
  obtain ⟨w1, w2⟩ := w Hi oi sti lr0 si
  by_cases hlt : i < ds.length
  · rw [List.drop_eq_getElem_cons hlt] at hw
    obtain ⟨go, yl⟩ := w2 i _ (List.getElem?_eq_getElem hlt)
    refine .inr ⟨go, fun H2 => ∃ m', m' < ds.length - i ∧ (m' = ds.length - (i + 1) ∧ i + 1 ≤ ds.length ∧ ∃ oi sti accd acc, Lc H1 o1 H2 oi ∧ oi.z = Dd :: o1.z ∧ LeW K (upd H1 Dd (.lst [])) (o1.hold Dd) H2 oi ∧ StOk K H2 oi sti ∧ H2 Dd = some (.lst acc) ∧ some Dd ∉ oi.l ∧ Reps K H2 oi accd acc ∧ accd.length ≤ i + 1 ∧
      wpR (lcL t c f (wipeE ρ vs) (ds.drop (i + 1)) sti) (fun ys st' => wpR (lstA (accd ++ ys) st') (VOk K H o Q) (XOk K E H o)) (XOk K E H o)), fun _ x => x, fun x H2 y => ?_⟩
    obtain ⟨gr, rx⟩ := yl x H2 y
    have l2 : Le Hi oi H2 oi := Gr.le gr
    have s2 := Gr.stOk gr si
    have hw' : wpR (optB (t.bind ds[i] (wipeE ρ vs)) (fun ρ1 => noX (c ρ1) >>= fun b => cond b (noX (f ρ1) >>= fun y => lcL t c f (wipeE ρ vs) (ds.drop (i + 1)) >>= fun ys => pure (y :: ys)) (lcL t c f (wipeE ρ vs) (ds.drop (i + 1)))) sti) (fun ys st' => wpR (lstA (accd ++ ys) st') (VOk K H o Q) (XOk K E H o)) (XOk K E H o) := hw
    cases hb : t.bind ds[i] (wipeE ρ vs) with
    | none => rw [hb] at hw'; exact False.elim hw'
    | some ρ1 =>
      rw [hb] at hw'
      have env0 : EnvOk K H2 oi (wipeE ρ vs) (wipe σ vs) := ((he.mono (l1.rep.trans lr0.rep)).mono l2.rep).wipe vs
      refine t.ok rx hb env0 fun σ2 he2 kp => ?_
      refine ⟨(wipe_ext (kp.1.trans rfl) fun j hj => kp.2 j fun q => hj (hsub j q)).trans (wipe_wipe σ vs), ?_⟩
      have hw2 : wpR ((noX (c ρ1) >>= fun b => cond b (noX (f ρ1) >>= fun y => lcL t c f (wipeE ρ vs) (ds.drop (i + 1)) >>= fun ys => pure (y :: ys)) (lcL t c f (wipeE ρ vs) (ds.drop (i + 1)))) sti) (fun ys st' => wpR (lstA (accd ++ ys) st') (VOk K H o Q) (XOk K E H o)) (XOk K E H o) := hw'
      refine ⟨oi, ρ1, sti, he2, s2, ?_⟩
      refine wpR.mono (noX_wp (wpR.bind.mp hw2)) (fun b st3 h3 H3 o3 l3 s3 => ?_) fun _ _ x => x
      have lc3 : Lc H1 o1 H3 o3 := (lc.trans l2.toLc).trans l3.toLc
      have lr3 : LeW K Hi oi H3 o3 := l2.w.trans l3.w
      have ez3 : o3.z = Dd :: o1.z := l3.z.trans ez
      obtain ⟨eD2, nD2⟩ := l2.keep Dd _ eD nD
      obtain ⟨eD3, nD3⟩ := l3.keep Dd _ eD2 nD2
      cases b with
      | false =>
        exact iteF ⟨_, by omega, rfl, by omega, o3, st3, accd, acc, lc3, ez3, lr.trans lr3, s3, eD3, nD3, lr3.rep.reps ra, Nat.le_succ_of_le la, h3⟩
      | true =>
        refine iteT ⟨o3, ρ1, st3, he2.mono l3.rep, s3, ?_⟩
        have h3' : wpR ((noX (f ρ1) >>= fun y => lcL t c f (wipeE ρ vs) (ds.drop (i + 1)) >>= fun ys => pure (y :: ys)) st3) (fun ys st' => wpR (lstA (accd ++ ys) st') (VOk K H o Q) (XOk K E H o)) (XOk K E H o) := h3
        refine wpR.mono (noX_wp (wpR.bind.mp h3')) (fun y' st4 h4 v4 H4 o4 l4 s4 r4 => ?_) fun _ _ x => x
        obtain ⟨eD4, nD4⟩ := l4.keep Dd _ eD3 nD3
        have ez4 : o4.z = Dd :: o1.z := l4.z.trans ez3
        have hin : Dd ∈ o4.z := by rw [ez4]; exact List.mem_cons_self
        have al : acc.length = accd.length := ra.length
        refine ⟨acc, eD4, by have := big_lt; omega, _, by omega, rfl, by omega, o4, st4, accd ++ [y'], acc ++ [v4], (lc3.trans l4.toLc).rewriteNew hD, ez4, (((lr.trans lr3).trans l4.w)).trans (LeW.rewrite hin), s4.rewrite hin, upd_same, nD4,
          (LeR.rewrite hin).reps ((l4.rep.reps (lr3.rep.reps ra)).append (Reps.one r4)), by simp; omega, ?_⟩
        refine (wpR.bind.mp h4).mono (fun ys st5 h5 => ?_) fun _ _ x => x
        have h5' : wpR (lstA (accd ++ y' :: ys) st5) (VOk K H o Q) (XOk K E H o) := h5
        rw [List.append_assoc]
        exact h5'
  · have e : i = ds.length := by omega
    subst e
    rw [List.drop_length] at hw
    refine .inl ⟨w1, ?_⟩
    have hw0 : wpR (lstA (accd ++ []) sti) (VOk K H o Q) (XOk K E H o) := hw
    rw [List.append_nil] at hw0
    have hw' : wpR (M.alloc (.lst accd) sti) (VOk K H o Q) (XOk K E H o) := hw0
    have nz : Dd ∉ o1.z := (s1.avOf hD).2
    obtain ⟨s3, r3⟩ := si.hole (p := Dd) (z := o1.z) ez nz
    have le3 : Le H1 o1 (fun a => if a = Dd then none else Hi a) { oi with z := o1.z } := ⟨⟨fun a u e n => by
      obtain ⟨g1, g2⟩ := lc.keep a u e n
      exact ⟨by show (if a = Dd then none else Hi a) = _; rw [if_neg (ne_of_none e hD)]; exact g1, g2⟩, lc.loc, lc.x⟩, rfl⟩
    have eH : Hi = upd (fun a => if a = Dd then none else Hi a) Dd (.lst acc) := by
      funext a
      by_cases ha : a = Dd
      · subst ha; rw [upd_same, eD]
      · rw [upd_ne ha, if_neg ha]
    rw [eH]
    have hn : (fun a => if a = Dd then none else Hi a) Dd = none := if_pos rfl
    exact ok_alloc (wpR.mono hw' (fun _ _ x => x.mono (l1.trans le3)) fun _ _ x => x.mono (l1.trans le3)) s3 hn ⟨Dd, acc, rfl, upd_same, (Le.alloc hn).rep.reps (r3.reps ra)⟩
theorem dp_setLcO {i : Nat} {y : Str} {py : Pos} {elt tg iter : Expr} {ifs : List Expr} {scope : Scope} {own : List (Str × Nat)} {pos spos : Pos} {it : DenI} {t : Tg} {c : DenB} {f : Den} (hc : X.calm = true) (hN : X.N.Nodup) (hy : X.N[i]? = some y) (hyl : X.env.scope.names.lookup y = some .local)
    (hsw : swapsWith (.ListComp elt [⟨tg, iter, ifs, 0⟩] scope pos) (some (.Name y py)) spos.line X.env = pure true) (hi : PDI X E tg iter it) (ok : BlkOk X.N X.env.scope scope own)
    (hg : ∀ (s : Shared) (H : Hp) (C : Addr) (cl : List (Str × Addr)) (fp : List Addr), PG (X.blk s H scope (compEnvC scope cl C X.env) fp) tg (t.g X.K))
    (ht : ∀ (s : Shared) (H : Hp) (C : Addr) (cl : List (Str × Addr)) (fp : List Addr), PTs (X.blk s H scope (compEnvC scope cl C X.env) fp) ifs (tT X.K EX0 c))
    (he : ∀ (s : Shared) (H : Hp) (C : Addr) (cl : List (Str × Addr)) (fp : List Addr), PE (X.blk s H scope (compEnvC scope cl C X.env) fp) elt (tD X.K EX0 f)) (hs : ∀ x, foldedSetIterable iter X.env x = pure x) (hsub : ∀ i ∈ t.slots, i ∈ own.map (·.2)) :
    PDS X E (.Assign [.Name y py] (.ListComp elt [⟨tg, iter, ifs, 0⟩] scope pos) spos) (dAsg (dLcOwn it (own.map (·.2)) t c f) (gSet i)) := PS.imp (ps_setLc hc hN hy hyl hsw hi ok hg ht he hs) fun D σ H h => by
  have h1 : tD X.K E (dLcOwn it (own.map (·.2)) t c f) σ H fun v H1 => D.nx (σ.set i (some v)) H1 := by
    obtain ⟨o, ρ, st, he, hs, h⟩ := h
    refine ⟨o, ρ, st, he, hs, ?_⟩
    exact (wpR.bind.mp h).mono (fun d st1 h1 v H1 o1 l s1 r => (show EOk X.K H o D.nx (ρ.set i (some d)) st1 from h1) _ H1 o1 l s1 ((he.mono l.rep).set i r)) fun _ _ x => x
  exact tD_lcO hsub h1
end
end MP
/-! f'..' -/
namespace MP
open PySem L2
open PySem.Spec PyProof.Rows
def fmtM : D → M D
  | .str y => guardM (decide (y.length ≤ big)) (pure (.str y))
  | .int i => guardM (decide (i.natAbs.log2 < 1920)) (pure (.str (toString i)))
  | _ => M.stuck
@[simp] theorem fmtM_s {y : Str} : fmtM (.str y) = guardM (decide (y.length ≤ big)) (pure (.str y)) := rfl
@[simp] def dFmt (f : Den) : Den := fun ρ => f ρ >>= fmtM
def strM {α : Type} (d : D) (f : Str → M α) : M α := match d with
  | .str y => f y
  | _ => M.stuck
@[simp] theorem strM_s {α : Type} {y : Str} {f : Str → M α} : strM (.str y) f = f y := rfl
@[simp] def denJs : List Den → Str → Env → M D
  | [], acc, _ => pure (.str acc)
  | f :: fs, acc, ρ => f ρ >>= fun d => strM d fun y => guardM (decide ((acc ++ y).length ≤ big)) (denJs fs (acc ++ y) ρ)
@[simp] def dFs (fs : List Den) : Den := fun ρ => denJs fs Str.empty ρ
section
variable {K : Frag} {E : XK} {H : Hp} {o : Lo} {st : Store} {X : Cx}
theorem pd_fmt {e : Expr} {f : Den} {pos : Pos} (h : PD X E e f) : PD X E (.FormattedValue e (-1) none pos) (dFmt f) := PE.imp (pe_fmt h) fun σ H Q h => by
  obtain ⟨o, ρ, st, he, hs, h⟩ := h
  refine ⟨o, ρ, st, he, hs, ?_⟩
  refine (wpR.bind.mp h).mono (fun d st1 h1 v H1 o1 l s1 r => ?_) fun _ _ x => x
  cases d with
  | str y =>
    obtain ⟨hz, h1⟩ := guardM_wp (show wpR (guardM (decide (y.length ≤ big)) (pure (.str y)) st1) (VOk X.K H o Q) (XOk X.K E H o) from h1)
    exact .inl ⟨y, r, Nat.le_trans (of_decide_eq_true hz) big_le, (show VOk X.K H o Q (.str y) st1 from h1) _ H1 o1 l s1 rfl⟩
  | int i =>
    obtain ⟨hz, h1⟩ := guardM_wp (show wpR (guardM (decide (i.natAbs.log2 < 1920)) (pure (.str (toString i))) st1) (VOk X.K H o Q) (XOk X.K E H o) from h1)
    exact .inr ⟨i, r, of_decide_eq_true hz, (show VOk X.K H o Q (.str (toString i)) st1 from h1) _ H1 o1 l s1 rfl⟩
  | _ => exact False.elim h1
theorem tJs_of : ∀ (fs : List Den) {acc : Str} {σ : L2.St} {H : Hp} {o : Lo} {st : Store} {ρ : Env} {Q : VK}, EnvOk K H o ρ σ → StOk K H o st → wpR (denJs fs acc ρ st) (VOk K H o Q) (XOk K E H o) → tJs (fs.map (tD K E)) acc σ H fun out H1 => Q (.str out) H1
  | [], acc, σ, H, o, st, ρ, Q, he, hs, h => (show VOk K H o Q (.str acc) st from h) _ H o (Le.refl _ _) hs rfl
  | f :: fs, acc, σ, H, o, st, ρ, Q, he, hs, h => by
    refine ⟨o, ρ, st, he, hs, ?_⟩
    refine (wpR.bind.mp (show wpR ((f ρ >>= fun d => strM d fun y => guardM (decide ((acc ++ y).length ≤ big)) (denJs fs (acc ++ y) ρ)) st) (VOk K H o Q) (XOk K E H o) from h)).mono (fun d st1 h1 v H1 o1 l s1 r => ?_) fun _ _ x => x
    cases d with
    | str y =>
      obtain ⟨hz, h1⟩ := guardM_wp (show wpR (guardM (decide ((acc ++ y).length ≤ big)) (denJs fs (acc ++ y) ρ) st1) (VOk K H o Q) (XOk K E H o) from h1)
      exact ⟨y, r, Nat.le_trans (of_decide_eq_true hz) big_le, tJs_of fs (he.mono l.rep) s1 (wpR.mono h1 (fun _ _ x => x.mono l) fun _ _ x => x.mono l)⟩
    | _ => exact False.elim h1
abbrev PDJ (X : Cx) (E : XK) (es : List Expr) (fs : List Den) : Prop := PJ X es (fs.map (tD X.K E))
theorem pj_nilD : PDJ X E [] [] := PJ.nil
theorem pj_consD {e : Expr} {es : List Expr} {f : Den} {fs : List Den} (h : PD X E e f) (r : PDJ X E es fs) : PDJ X E (e :: es) (f :: fs) := PJ.cons h r
theorem pd_fs {v1 v2 : Expr} {rest : List Expr} {fs : List Den} {pos : Pos} (h : PDJ X E (v1 :: v2 :: rest) fs) : PD X E (.JoinedStr (v1 :: v2 :: rest) pos) (dFs fs) := PE.imp (pe_joined h) fun σ H Q h => by
  obtain ⟨o, ρ, st, he, hs, h⟩ := h
  exact tJs_of fs he hs h
end
end MP

namespace MP
open PySem L2
open PySem.Spec PyProof.Rows
/-! ## a range of three numbers that is used up at once -/
def rgItems (i c : Int) (n : Nat) : List D := (List.range n).map fun (k : Nat) => D.int (i + (k : Int) * c)
def rgMany (i j c : Int) : Nat := if i < j then ((j - i - 1) / c + 1).toNat else 0
def rgFits (i j c : Int) : Bool := decide (0 < c ∧ c < 2305843009213693952 ∧ -(2 ^ 62) ≤ i ∧ i < 2 ^ 62 ∧ -(2 ^ 62) ≤ j ∧ j < 2 ^ 62 ∧ rgMany i j c ≤ big)
theorem rgMany_size {i j c : Int} (h : 0 < c) : Builtin.Range.rangeSize i j c = (rgMany i j c : Nat) := by
  unfold Builtin.Range.rangeSize rgMany
  rw [if_pos h]
  by_cases hij : i < j
  · rw [if_pos hij, if_pos hij]
    have : 0 ≤ (j - i - 1) / c := Int.ediv_nonneg (by omega) (by omega)
    omega
  · rw [if_neg hij, if_neg hij]; rfl
theorem rgFits_small {i j c : Int} (h : rgFits i j c = true) : Builtin.Range.small i j c = true := by
  obtain ⟨h0, h1, h2, h3, h4, h5, h6⟩ := of_decide_eq_true h
  have h7 : rgMany i j c ≤ 16000000 := h6
  unfold Builtin.Range.small Builtin.Range.rangeFitsLong
  rw [rgMany_size h0]
  simp only [Bool.and_eq_true, Bool.or_eq_true, decide_eq_true_eq, beq_iff_eq, gt_iff_lt, h0, if_true]
  omega
theorem rg_lg {n : Nat} (h : n < 2305843009213693952) : n.log2 < 61 := by
  by_cases h0 : n = 0
  · subst h0; decide
  · exact (Nat.log2_lt h0).mpr h
def tupRg : List D → M D
  | [.int i, .int j, .int c] => guardM (rgFits i j c) (pure (.tup (rgItems i c (rgMany i j c))))
  | _ => M.stuck
def lstRg : List D → M D
  | [.int i, .int j, .int c] => guardM (rgFits i j c) (pure (.lst (rgItems i c (rgMany i j c))))
  | _ => M.stuck
@[simp] theorem tupRg_i {i j c : Int} : tupRg [.int i, .int j, .int c] = guardM (rgFits i j c) (pure (.tup (rgItems i c (rgMany i j c)))) := rfl
@[simp] theorem lstRg_i {i j c : Int} : lstRg [.int i, .int j, .int c] = guardM (rgFits i j c) (pure (.lst (rgItems i c (rgMany i j c)))) := rfl
def rgVs (i c : Int) (n : Nat) : List V := (List.range n).map fun (k : Nat) => V.int (i + (k : Int) * c)
theorem rgVs_len {i c : Int} {n : Nat} : (rgVs i c n).length = n := by unfold rgVs; rw [List.length_map, List.length_range]
theorem rgVs_of {i c : Int} {n : Nat} {acc : Array Value} (h : ItemsOf (fun k v => ∃ t, v = .int (i + k * c) t) acc n) : Vals (rgVs i c n) acc.toList := by
  have e : acc.toList.length = n := by rw [Array.length_toList]; exact h.1
  subst e
  exact vals_of_get acc.toList _ fun j u hj => (h.2 j u (by rw [← hj, Array.getElem?_toList]))
theorem rg_reps {K : Frag} {H : Hp} {o : Lo} {i c : Int} {n : Nat} : Reps K H o (rgItems i c n) (rgVs i c n) := by
  unfold rgItems rgVs
  generalize List.range n = l
  induction l with
  | nil => rfl
  | cons k l ih => exact ⟨_, _, rfl, rfl, ih⟩
section
variable {X : Cx} {E : XK} {a b c : Expr} {ta : TA} {p p2 pos pos2 : Pos} {fs : DenL}
theorem range3_run (hg : Gl X "range") (hm : X.mg "range" = none) (ha : PA X [a, b, c] ta) (hs : starEach [a, b, c] X.env = (false, eval a X.env) :: starEach [b, c] X.env) (hpl : (backTo pos (starEach [b, c] X.env)).any (·.1) = false)
    {pins : List (Addr × Obj)} {s : Shared} {σ : L2.St} {H : Hp} {Q : Int → Int → Int → Hp → Prop} (I : L2.Inv X pins σ H s) (h : ta σ H fun vs H1 => ∃ i j k : Int, vs = [.int i, .int j, .int k] ∧ k ≠ 0 ∧ k.natAbs < 2305843009213693952 ∧ Q i j k H1) :
    wpAny (model X.prog X.w) X.A (eval (.Call (.Name "range" p) [a, b, c] [] pos) X.env) (fun x s1 => ∃ r i j k t u v H1, x = .ref r ∧ IsRange s1.heap r i j k t u v ∧ L2.Inv X pins σ H1 s1 ∧ Q i j k H1) X.xe s := by
  refine Call_ (ld_blt I hg hm boot_range (PyProof.Rows.callWith_type1 (thn (ha.run pos pins s σ H _ I h) fun us s1 ⟨vs, H1, I1, r1, q1⟩ => ?_) hs hpl))
  obtain ⟨i, j, k, rfl, c0, c1, q⟩ := q1
  cases r1 with
  | cons ra rr => cases rr with
    | cons rb rr => cases rr with
      | cons rc rr =>
        cases rr
        obtain ⟨t, rfl⟩ := ra; obtain ⟨t1, rfl⟩ := rb; obtain ⟨t2, rfl⟩ := rc
        refine call_range_3 c0 ?_ (.inl (PyProof.noPylong_of_log2 (Nat.lt_trans (rg_lg c1) (by decide : 61 < 9000))))
        have I2 : L2.Inv X pins σ H1 { s1 with heap := s1.heap.push { cls := .type "range", data := .fields #[.int i t, .int j t1, .int k t2] } } := I1.kept (t' := s1.toks) fun b o e => Heap.get?_push_of_some _ e
        exact ⟨_, i, j, k, t, t1, t2, H1, rfl, IsRange.new .., I2, q⟩
theorem rg_take {op : D → M D} {mk : List D → M D} (hmk : ∀ i j k, mk [.int i, .int j, .int k] = guardM (rgFits i j k) (op (.tup (rgItems i k (rgMany i j k))))) (hno : ∀ ds, (∀ i j k, ds ≠ [.int i, .int j, .int k]) → mk ds = M.stuck)
    {σ : L2.St} {H : Hp} {Q : VK} (h : tD X.K E (fun ρ => fs ρ >>= mk) σ H Q) : tL X.K E fs σ H fun vs H1 => ∃ i j k : Int, vs = [.int i, .int j, .int k] ∧ k ≠ 0 ∧ k.natAbs < 2305843009213693952 ∧ (rgFits i j k = true ∧ ∃ o st, StOk X.K H1 o st ∧ wpR (op (.tup (rgItems i k (rgMany i j k))) st) (VOk X.K H1 o Q) (XOk X.K E H1 o)) := by
  obtain ⟨o, ρ, st, he, hs, h⟩ := tD_lst h
  refine ⟨o, ρ, st, he, hs, h.mono (fun ds st1 h1 vs H1 o1 l s1 r => ?_) fun _ _ x => x⟩
  obtain ⟨ds', o2, st2, r2, so2, h2⟩ := h1 vs H1 o1 l s1 r
  by_cases hd : ∃ i j k, ds' = [D.int i, .int j, .int k]
  · obtain ⟨i, j, k, rfl⟩ := hd
    rw [hmk] at h2
    obtain ⟨hf, h3⟩ := guardM_wp h2
    obtain ⟨v, w, rfl, rv, r3⟩ := r2
    obtain ⟨v2, v3, rfl, rv2, rv3⟩ := r3.two_of
    cases (show v = .int i from rv)
    cases (show v2 = .int j from rv2)
    cases (show v3 = .int k from rv3)
    obtain ⟨g0, g1, _⟩ := of_decide_eq_true hf
    exact ⟨i, j, k, rfl, by omega, by omega, hf, o2, st2, so2, h3⟩
  · rw [hno ds' fun i j k e => hd ⟨i, j, k, e⟩] at h2
    exact False.elim h2
theorem tupRg_no {ds : List D} (h : ∀ i j k, ds ≠ [.int i, .int j, .int k]) : tupRg ds = M.stuck := by
  unfold tupRg; split
  · exact absurd rfl (h _ _ _)
  · rfl
theorem lstRg_no {ds : List D} (h : ∀ i j k, ds ≠ [.int i, .int j, .int k]) : lstRg ds = M.stuck := by
  unfold lstRg; split
  · exact absurd rfl (h _ _ _)
  · rfl
theorem pd_tupRg (hg0 : Gl X "tuple") (hm0 : X.mg "tuple" = none) (hg : Gl X "range") (hm : X.mg "range" = none) (hc : X.calm = true) (ha : PL X E [a, b, c] fs) (hs : starEach [a, b, c] X.env = (false, eval a X.env) :: starEach [b, c] X.env) (hpl : (backTo pos2 (starEach [b, c] X.env)).any (·.1) = false)
    (na : starEach [.Call (.Name "range" p2) [a, b, c] [] pos2] X.env = (false, eval (.Call (.Name "range" p2) [a, b, c] [] pos2) X.env) :: starEach [] X.env) :
    PD X E (.Call (.Name "tuple" p) [.Call (.Name "range" p2) [a, b, c] [] pos2] [] pos) (dCall tupRg fs) := by
  refine ⟨fun pins s σ H Q I h => ?_⟩
  have h0 := rg_take (op := pure) (mk := tupRg) (fun _ _ _ => rfl) (fun _ => tupRg_no) h
  refine Call_ (ld_blt I hg0 hm0 boot_tuple (PyProof.Rows.callWith_type1 (args_cons (thn (range3_run hg hm ha hs hpl I h0) fun x s1 hx => args_nil ?_) na) na))
  obtain ⟨r, i, j, k, t, u, v, H1, rfl, hr, I1, hf, o, st, so, q⟩ := hx
  have hf' := of_decide_eq_true hf
  refine call_tuple_range (I1.ok.hd hc) hr (rgFits_small hf) (rgMany_size hf'.1) (Nat.le_trans hf'.2.2.2.2.2.2 (by decide)) fun h2 tk acc hk hi => ?_
  have I2 : L2.Inv X pins σ H1 { s1 with heap := h2, toks := tk } := I1.kept hk
  have hz : (rgVs i k (rgMany i j k)).length ≤ sizeLine := by rw [rgVs_len]; exact Nat.le_trans hf'.2.2.2.2.2.2 big_le
  refine ⟨.ref h2.objs.size, upd H1 h2.objs.size (.tup (rgVs i k (rgMany i j k))), I2.laid (t' := tk) (fun c o e => Heap.get?_push_of_some _ e) (Nat.le_refl _) (show ObjOk X.prog X.w _ _ _ (.tup (rgVs i k (rgMany i j k))) from ⟨hz, acc.toList, rgVs_of hi, ?_⟩), rfl, ok_newTup q so rg_reps (I2.hok.fresh (Nat.le_refl _))⟩
  rw [Array.toArray_toList]
  exact IsTup.new _ _
theorem pd_lstRg (hg0 : Gl X "list") (hm0 : X.mg "list" = none) (hg : Gl X "range") (hm : X.mg "range" = none) (hc : X.calm = true) (ha : PL X E [a, b, c] fs) (hs : starEach [a, b, c] X.env = (false, eval a X.env) :: starEach [b, c] X.env) (hpl : (backTo pos2 (starEach [b, c] X.env)).any (·.1) = false)
    (na : starEach [.Call (.Name "range" p2) [a, b, c] [] pos2] X.env = (false, eval (.Call (.Name "range" p2) [a, b, c] [] pos2) X.env) :: starEach [] X.env) :
    PD X E (.Call (.Name "list" p) [.Call (.Name "range" p2) [a, b, c] [] pos2] [] pos) (dCall lstRg fs) := by
  refine ⟨fun pins s σ H Q I h => ?_⟩
  have h0 := rg_take (op := fun d => match d with | .tup ds => pure (.lst ds) | _ => M.stuck) (mk := lstRg) (fun _ _ _ => rfl) (fun _ => lstRg_no) h
  refine Call_ (ld_blt I hg0 hm0 boot_list (PyProof.Rows.callWith_type1 (args_cons (thn (range3_run hg hm ha hs hpl I h0) fun x s1 hx => args_nil ?_) na) na))
  obtain ⟨r, i, j, k, t, u, v, H1, rfl, hr, I1, hf, o, st, so, q⟩ := hx
  have hf' := of_decide_eq_true hf
  refine call_list_range (I1.ok.hd hc) hr (rgFits_small hf) (rgMany_size hf'.1) (Nat.le_trans hf'.2.2.2.2.2.2 (by decide)) fun h2 tk acc c2 hk eq hi => ?_
  have hz : (rgVs i k (rgMany i j k)).length ≤ sizeLine := by rw [rgVs_len]; exact Nat.le_trans hf'.2.2.2.2.2.2 big_le
  refine ⟨.ref s1.heap.objs.size, upd H1 s1.heap.objs.size (.lst (rgVs i k (rgMany i j k))), I1.laid hk (Nat.le_refl _) (show ObjOk X.prog X.w _ _ _ (.lst (rgVs i k (rgMany i j k))) from ⟨hz, acc.toList, c2, rgVs_of hi, ?_⟩), rfl, ok_newLst q so rg_reps (I1.hok.fresh (Nat.le_refl _))⟩
  rw [Array.toArray_toList]
  exact eq
end
/-! ## t[::-1] -/
def revT : D → M D
  | .tup ds => pure (.tup ds.reverse)
  | _ => M.stuck
@[simp] theorem revT_t {ds : List D} : revT (.tup ds) = pure (.tup ds.reverse) := rfl
section
variable {prog : Program} {w : World} {A : Around} {E : Value → Shared → Prop} {s : Shared}
theorem back_places (n : Nat) : Builtin.Slice.slicePlaces ((n : Int) - 1) (-1) (-1) = n := by
  unfold Builtin.Slice.slicePlaces
  have e : -(-1 : Int) = 1 := rfl
  rw [if_neg (by decide), e, Int.ediv_one]
  split <;> omega
theorem back_pick (xs : Array Value) : ((List.range xs.size).filterMap fun (k : Nat) => xs[((xs.size : Int) - 1 + (k : Int) * (-1)).toNat]?) = xs.toList.reverse := by
  have e : ((List.range xs.size).filterMap fun (k : Nat) => xs[((xs.size : Int) - 1 + (k : Int) * (-1)).toNat]?) = ((List.range xs.size).map fun k => xs.size - 1 - k).filterMap (xs[·]?) := by
    rw [List.filterMap_map]
    have g : ∀ l : List Nat, (∀ k ∈ l, k < xs.size) → l.filterMap (fun (k : Nat) => xs[((xs.size : Int) - 1 + (k : Int) * (-1)).toNat]?) = l.filterMap ((xs[·]?) ∘ fun k => xs.size - 1 - k) := fun l => by
      induction l with
      | nil => intro _; rfl
      | cons k l ih =>
        intro hl
        have hk := hl k List.mem_cons_self
        have e1 : ((xs.size : Int) - 1 + (k : Int) * (-1)).toNat = xs.size - 1 - k := by omega
        rw [List.filterMap_cons, List.filterMap_cons, ih fun y hy => hl y (List.mem_cons_of_mem _ hy), e1]
        rfl
    exact g _ fun k hk => List.mem_range.mp hk
  rw [e, PySem.W.krv_range, List.filterMap_reverse, PySem.W.krv_all]
theorem back_applied {sl : Addr} {tk : Tok} {n : Nat} {Q : Int × Int × Nat → Shared → Prop} (hs : s.heap.IsSliceOf sl .none .none (.int (-1) tk)) (h : Q ((n : Int) - 1, -1, n) s) :
    wpAny (model prog w) A (Builtin.Slice.sliceApplied (.ref sl) (pure (n : Int))) Q E s := by
  obtain ⟨os, hos, _, hd⟩ := hs
  unfold Builtin.Slice.sliceApplied Builtin.Slice.sliceFields
  refine wpAny_bind (wpAny_bind (wpAny_field hos hd (x := .none) rfl (wpAny_bind (wpAny_field hos hd (x := .none) rfl (wpAny_bind (wpAny_field hos hd (x := .int (-1) tk) rfl (wpAny_pure ?_)))))))
  refine wpAny_bind (HT.slicePart_ (.int (-1) tk) ?_)
  show wpAny _ _ (if ((-1 : Int) == 0) = true then _ else _) _ _ s
  rw [if_neg (by decide)]
  refine wpAny_bind (slicePart_none (wpAny_bind (slicePart_none (wpAny_bind (wpAny_pure ?_)))))
  show wpAny _ _ (pure ((n : Int) - 1, (-1 : Int), Builtin.Slice.slicePlaces ((n : Int) - 1) (-1) (-1))) _ _ s
  rw [back_places]
  exact wpAny_pure h
theorem back_item {t sl : Addr} {tk : Tok} {items : Array Value} {Q : Value → Shared → Prop} (ht : IsTup s.heap t items) (hs : s.heap.IsSliceOf sl .none .none (.int (-1) tk)) (hz : items.size ≤ sizeLine)
    (h : Q (.ref s.heap.objs.size) { s with heap := s.heap.push { cls := .type "tuple", data := .seq items.toList.reverse.toArray } }) : wpAny (model prog w) A (getItem (.ref t) (.ref sl)) Q E s := by
  have hT : s.TypeIs (.ref sl) "slice" := let ⟨os, hos, hc, _⟩ := hs; ⟨os, hos, hc⟩
  have ok : sizeOk (.seq items.toList.reverse.toArray) := by
    show items.toList.reverse.toArray.size ≤ sizeLine
    rw [List.size_toArray, List.length_reverse, Array.length_toList]; exact hz
  unfold getItem
  try with_reducible refine wpAny_holding ?_
  first | refine wpAny_bind (wpAny_pure ?_) | skip
  refine wpAny_bind (wpAny_sequenceKey ht.typeIs (by decide) (wpAny_bind (wpAny_callSpecial?_slot (name := Str.ofString "__getitem__") ht.typeIs PyProof.Rows.slot_tuple_getitem (wpAny_call_entry PyProof.Rows.slot_tuple_getitem ht.typeIs entry_tuple_getitem ?_ (args_tuple_getitem _ _)))))
  show wpAny _ _ (Builtin.Tuple.tupleItemsOf (.ref t) >>= _) _ _ s
  refine wpAny_bind (tupleItemsOf_ ht (wpAny_bind (wpAny_typeOf hT ?_)))
  rw [if_pos (by decide)]
  refine wpAny_bind (back_applied hs ?_)
  have hno : ¬ (((items.size : Int) - 1 == 0 && (-1 : Int) == 1 && items.size == items.size) = true) := by simp
  show wpAny _ _ (if ((items.size : Int) - 1 == 0 && (-1 : Int) == 1 && items.size == items.size) = true then _ else _) _ _ s
  rw [if_neg hno, back_pick]
  first
    | exact wpAny_bind (m := Builtin.Tuple.tupleExact _) (wpAny_newObj_type (wpAny_pure ⟨_, rfl, wpAny_pure h⟩) ok)
    | exact wpAny_bind (wpAny_bind (m := Builtin.Tuple.tupleExact _) (wpAny_newObj_type (wpAny_pure ⟨_, rfl, wpAny_pure h⟩) ok))
end
theorem Reps.rev {K : Frag} {H : Hp} {o : Lo} : ∀ {ds : List D} {vs : List V}, Reps K H o ds vs → Reps K H o ds.reverse vs.reverse
  | [], vs, h => by cases (show vs = [] from h); rfl
  | d :: ds, _, h => by
    obtain ⟨v, vs, rfl, h1, h2⟩ := h
    rw [List.reverse_cons, List.reverse_cons]
    exact (Reps.rev h2).append ⟨v, [], rfl, h1, rfl⟩
theorem pd_revT {X : Cx} {E : XK} {e : Expr} {f : Den} {k : Nat} {p1 p2 p3 pos : Pos} (he : PD X E e f) : PD X E (.Subscript e (.Slice none none (some (.UnaryOp .USub (.Constant (.int 1) k p1) p2)) p3) pos) (d1 revT f) := by
  refine ⟨fun pins s σ H Q I h => ?_⟩
  refine Subscript_ (thn (he.run pins s σ H _ I (tD_one h)) fun v s1 ⟨x, H1, I1, r1, q1⟩ => ?_)
  obtain ⟨d, o, st, rd, so, h1⟩ := q1
  cases d with
  | tup ds =>
    have rd0 := rd
    obtain ⟨a, xs, rfl, kk, q⟩ := rd
    cases r1
    have hst : PO X (some (.UnaryOp .USub (.Constant (.int 1) k p1) p2)) (tPart (tUn (rU fun i => .int (-i)) (tC (.int 1)))) := po_some (pe_un un_neg pe_int)
    refine wpAny_Slice (thn (po_none.run pins s1 σ H1 (fun o H2 => o = none ∧ H2 = H1) I1 ⟨rfl, rfl⟩) fun vl s2 ⟨l, H2, I2, pl, el, e2⟩ => thn (po_none.run pins s2 σ H2 (fun o H3 => o = none ∧ H3 = H2) I2 ⟨rfl, rfl⟩) fun vu s3 ⟨u, H3, I3, pu, eu, e3⟩ => ?_)
    subst el e2 eu e3
    refine thn (hst.run pins s3 σ H3 (fun o H4 => o = some (-1) ∧ H4 = H3) I3 ⟨1, rfl, -1, rfl, rfl, rfl⟩) fun vs s4 ⟨o4, H4, I4, ps, eo, e4⟩ => ?_
    subst eo e4
    cases pl; cases pu; cases ps with
    | int _ tk =>
    have I5 : L2.Inv X pins σ H4 { s4 with heap := s4.heap.push { cls := .type "slice", data := .fields #[Value.none, .none, .int (-1) tk] } } := I4.kept (t' := s4.toks) fun b ob q => Heap.get?_push_of_some _ q
    obtain ⟨its, r, ht, hz⟩ := I5.tuple (tup_sq kk)
    have hlen := r.length
    show wpAny (model X.prog X.w) X.A (subscriptTail e (.Slice none none (some (.UnaryOp .USub (.Constant (.int 1) k p1) p2)) p3) (.ref a) (.ref s4.heap.objs.size)) (EP X pins σ Q) X.xe { s4 with heap := s4.heap.push { cls := .type "slice", data := .fields #[Value.none, .none, .int (-1) tk] } }
    refine tail_any (ops := [.ref a, .ref s4.heap.objs.size]) ht.typeIs PyProof.Rows.slot_tuple_getitem.lookup (back_item ht (Heap.IsSliceOf.new _ _ _ _) (by rw [List.size_toArray]; omega) ?_) (by with_unfolding_all rfl)
    exact ⟨.ref _, _, I5.laid (t' := s4.toks) (o := .tup xs.reverse) (fun b ob q => Heap.get?_push_of_some _ q) (Nat.le_refl _) ⟨by rw [List.length_reverse]; exact hz, _, r.reverse, IsTup.new _ _⟩, rfl, ok_newTup h1 so q.rev (I5.hok.fresh (Nat.le_refl _))⟩
  | _ => exact False.elim h1
end MP

namespace MP
open PySem L2
open PySem.Spec PyProof.Rows
/-! ## sorted(set(xs)) of a list of numbers -/
abbrev setO (w : World) : Obj := { cls := .type "set", dict := none, data := .set #[] 0 (.fresh 0 0 (!w.params.followText "set-order")) }
section
variable {P : Program} {w : World} {A : Around} {E : Value → Shared → Prop} {s : Shared}
set_option maxHeartbeats 3200000 in
theorem set_ints {l : Addr} {items : Array Value} {ns : List Int} {Q : Value → Shared → Prop} (hh : A.handled = none) (hl : s.heap.IsList l items) (hit : IntsAre items.toList ns) (hb : ns.length + 1 < scanBound)
    (h : ∀ (g : Heap) (tk c : Nat), SetR w g s.heap.objs.size (fun j => decide (j ∈ ns)) c → c ≤ ns.length → (∀ b o, s.heap.get? b = some o → g.get? b = some o) → Q (.ref s.heap.objs.size) { s with heap := g, toks := tk }) :
    wpAny (model P w) A (call (.type "set") [.ref l]) Q E s := by
  have hz : items.size = ns.length := by have q := IntsAre.length hit; rw [Array.length_toList] at q; exact q
  obtain ⟨c, tl, hmro⟩ := F.called_set.mro
  have f1 := F.called_set.made
  have f2 := F.called_set.sub
  have f3 := F.called_set.notType
  have f4 := F.called_set.canCreate
  have f5 := F.typeCall_set_1 (.ref l)
  refine wpAny_call (codeAny_of_tree ?_)
  show wpAny _ _ (callAny (.type "set") _) _ _ _
  refine wpAny_pure ⟨Code.quiet_builtin _ (by decide +kernel), codeAny_builtin F.entry_type_call ?_⟩
  rw [Around.under_plain (weight_type_call_type "set" [.ref l] []) rfl]
  repeat (any_goals (first | assumption | wp_step))
  refine codeAny_mono (code_set_led1 (.ref l) (E := E) (Q₁ := fun obj s₁ => obj = .ref s.heap.objs.size ∧ s₁ = { s with heap := s.heap.push (setO w) }) ⟨rfl, rfl⟩) fun r s₁ hr => ?_
  match r, hr with
  | .error e, hr => exact hr
  | .ok .next, hr => exact hr.elim
  | .ok .brk, hr => exact hr.elim
  | .ok .cont, hr => exact hr.elim
  | .ok (.ret obj), hr =>
    obtain ⟨rfl, rfl⟩ := hr
    have gS : (s.heap.push (setO w)).get? s.heap.objs.size = some (setO w) := Heap.get?_push_size _ rfl
    have gT : Shared.TypeIs { s with heap := s.heap.push (setO w) } (.ref s.heap.objs.size) "set" := ⟨_, gS, rfl⟩
    have f6 := F.called_set.init.lookup
    have f7 := F.called_set.init.bind (.ref s.heap.objs.size)
    repeat (any_goals (first | assumption | wp_step))
    refine codeAny_mono (codeAny_call_builtin (R := wants (fun r s₂ => r = .none ∧ ∃ g tk c, s₂ = { s with heap := g, toks := tk } ∧ SetR w g s.heap.objs.size (fun j => decide (j ∈ ns)) c ∧ c ≤ ns.length ∧ (∀ b o, s.heap.get? b = some o → g.get? b = some o)) E) F.called_set.init.plain F.entry_set_init (check_set_init_1 gT ?_)) fun r₂ s₂ hr₂ => ?_
    · obtain ⟨⟨ocls, odict, odata, oslots⟩, hol, hcl, nl, hdl⟩ := hl
      simp only at hcl hdl
      subst hcl hdl
      have hpush : (s.heap.push (setO w)).get? l = some _ := Heap.get?_push_of_some _ hol
      have f8 := F.sub_list_set
      have f9 := F.sub_list_frozenset
      have f10 : (Value.type "list" == Value.type "dict") = false := by decide
      have hl1 : (s.heap.push (setO w)).IsList l items := ⟨_, hpush, rfl, nl, rfl⟩
      unfold Builtin.«set.__init__» noKeywords Builtin.Frozenset.updateFrom
      generalize hPI : pyIter = PI
      wp_walk
      subst hPI
      refine wpAny_pyIter_list hl1 (wpAny_bind (wpAny_runValue ?_))
      have l0 : l < s.heap.objs.size := Heap.lt_size hol
      have zz : (s.heap.push (setO w)).objs.size = s.heap.objs.size + 1 := Heap.size_push ..
      have l1 : l ≠ (s.heap.push (setO w)).objs.size := by rw [zz]; exact Nat.ne_of_lt (Nat.lt_succ_of_lt l0)
      have fs : s.heap.objs.size ∉ [(s.heap.push (setO w)).objs.size, l] := by
        rw [zz]
        simp only [List.mem_cons, List.not_mem_nil, or_false, not_or]
        exact ⟨Nat.ne_of_lt (Nat.lt_succ_self _), Nat.ne_of_gt l0⟩
      have vals : ∀ (i : Nat) (v : Value), items[i]? = some v → ∃ k t, ns[i]? = some k ∧ v = .int k t := fun i v hv => by
        have hi : i < ns.length := by rw [← hz]; exact (Array.getElem?_eq_some_iff.mp hv).1
        obtain ⟨t, e⟩ := PyProof.Rows.IntsAre.int_at hit i v (by rw [Array.getElem?_toList]; exact hv)
        exact ⟨ns[i], t, List.getElem?_eq_getElem hi, by rw [e, List.getD_eq_getElem?_getD, List.getElem?_eq_getElem hi]; rfl⟩
      refine set_update_ints ((Walks.list (A := A.in1.in1.in1) (by simp [hh]) _ l l1 items).toS) s.heap.objs.size fs ns hz hb vals (items.size - 0) 0 _ (by omega) (Nat.zero_le _) ⟨⟨_, Heap.get?_push_size _ rfl, rfl, rfl⟩, (hl1.push _)⟩ ⟨0, Nat.le_refl 0, setR_new_at (Heap.get?_push_of_some _ gS)⟩ fun s3 c3 hm hc3 hS3 => ?_
      obtain ⟨g3, g2, d3, tk3, os3⟩ := s3
      cases (show g2 = s.gens from hm.gens)
      cases (show d3 = s.drawn from hm.drawn)
      cases (show os3 = s.os from hm.os)
      show wpAny _ _ _ _ _ _
      refine wpAny_pure ?_
      show wpAny _ _ (ret Value.none) _ _ _
      refine wpAny_pure ⟨rfl, g3, tk3, c3, rfl, hS3, by rw [← hz]; exact hc3, fun b o e => ?_⟩
      have b0 : b < s.heap.objs.size := Heap.lt_size e
      refine hm.heap b o ?_ (Heap.get?_push_of_some _ (Heap.get?_push_of_some _ e))
      rw [zz]
      simp only [List.mem_cons, List.not_mem_nil, or_false, not_or]
      exact ⟨Nat.ne_of_lt b0, Nat.ne_of_lt (Nat.lt_succ_of_lt b0)⟩
    · match r₂, hr₂ with
      | .error e, hr₂ => exact hr₂
      | .ok .next, hr₂ => exact hr₂.elim
      | .ok .brk, hr₂ => exact hr₂.elim
      | .ok .cont, hr₂ => exact hr₂.elim
      | .ok (.ret r), hr₂ =>
        obtain ⟨rfl, g, tk, c, rfl, k1, k2, k3⟩ := hr₂
        repeat (any_goals (first | assumption | wp_step))
        exact h _ _ _ k1 k2 k3
end
end MP

namespace MP
open PySem L2
open PySem.Spec PyProof.Rows
/-- the numbers of a list, each once, rising -/
def insU (x : Int) : List Int → List Int
  | [] => [x]
  | y :: r => if x < y then x :: y :: r else if x = y then y :: r else y :: insU x r
def sortU (ns : List Int) : List Int := ns.foldr insU []
theorem insU_mem {x k : Int} : ∀ {l : List Int}, k ∈ insU x l ↔ k = x ∨ k ∈ l
  | [] => by simp [insU]
  | y :: r => by
    unfold insU
    split
    · simp
    · split
      · rename_i e; subst e; simp
      · rw [List.mem_cons, insU_mem (l := r), List.mem_cons]
        constructor
        · rintro (h | h | h) <;> simp [h]
        · rintro (h | h | h) <;> simp [h]
theorem insU_pw {x : Int} : ∀ {l : List Int}, l.Pairwise (· < ·) → (insU x l).Pairwise (· < ·)
  | [], _ => by simp [insU]
  | y :: r, h => by
    obtain ⟨h1, h2⟩ := List.pairwise_cons.mp h
    unfold insU
    split
    · rename_i q
      refine List.pairwise_cons.mpr ⟨fun z hz => ?_, h⟩
      rcases List.mem_cons.mp hz with rfl | hz
      · exact q
      · exact Int.lt_trans q (h1 z hz)
    · split
      · exact h
      · refine List.pairwise_cons.mpr ⟨fun z hz => ?_, insU_pw h2⟩
        rcases insU_mem.mp hz with rfl | hz
        · omega
        · exact h1 z hz
theorem sortU_mem {k : Int} : ∀ {l : List Int}, k ∈ sortU l ↔ k ∈ l
  | [] => by simp [sortU]
  | x :: r => by
    show k ∈ insU x (sortU r) ↔ _
    rw [insU_mem, sortU_mem (l := r), List.mem_cons]
theorem sortU_pw : ∀ {l : List Int}, (sortU l).Pairwise (· < ·)
  | [] => by simp [sortU]
  | x :: r => insU_pw (sortU_pw (l := r))
theorem sortU_len : ∀ {l : List Int}, (sortU l).length ≤ l.length
  | [] => by simp [sortU]
  | x :: r => by
    have h : ∀ {m : List Int}, (insU x m).length ≤ m.length + 1 := fun {m} => by
      induction m with
      | nil => simp [insU]
      | cons y s ih =>
        unfold insU
        by_cases h1 : x < y
        · rw [if_pos h1]; exact Nat.le_refl _
        · rw [if_neg h1]
          by_cases h2 : x = y
          · rw [if_pos h2]; exact Nat.le_succ _
          · rw [if_neg h2]; exact Nat.succ_le_succ ih
    have := sortU_len (l := r)
    have := h (m := sortU r)
    show (insU x (sortU r)).length ≤ r.length + 1
    omega
theorem rise_eq : ∀ {a b : List Int}, a.Pairwise (· < ·) → b.Pairwise (· < ·) → (∀ k, k ∈ a ↔ k ∈ b) → a = b
  | [], [], _, _, _ => rfl
  | [], y :: b, _, _, h => absurd ((h y).mpr List.mem_cons_self) (by simp)
  | x :: a, [], _, _, h => absurd ((h x).mp List.mem_cons_self) (by simp)
  | x :: a, y :: b, ha, hb, h => by
    obtain ⟨a1, a2⟩ := List.pairwise_cons.mp ha
    obtain ⟨b1, b2⟩ := List.pairwise_cons.mp hb
    have e : x = y := by
      rcases List.mem_cons.mp ((h x).mp List.mem_cons_self) with q | q
      · exact q
      · rcases List.mem_cons.mp ((h y).mpr List.mem_cons_self) with p | p
        · exact p.symm
        · have := a1 y p; have := b1 x q; omega
    subst e
    congr 1
    refine rise_eq a2 b2 fun k => ⟨fun hk => ?_, fun hk => ?_⟩
    · rcases List.mem_cons.mp ((h k).mp (List.mem_cons_of_mem _ hk)) with q | q
      · have := a1 k hk; omega
      · exact q
    · rcases List.mem_cons.mp ((h k).mpr (List.mem_cons_of_mem _ hk)) with q | q
      · have := b1 k hk; omega
      · exact q
def intsOfD : List D → Option (List Int)
  | [] => some []
  | .int i :: r => (intsOfD r).map (i :: ·)
  | _ :: _ => none
theorem intsOfD_map : ∀ ns : List Int, intsOfD (ns.map D.int) = some ns
  | [] => rfl
  | n :: r => by show (intsOfD (r.map D.int)).map (n :: ·) = _; rw [intsOfD_map r]; rfl
theorem intsOfD_eq : ∀ {ds : List D} {ns : List Int}, intsOfD ds = some ns → ds = ns.map D.int
  | [], ns, h => by cases (show some [] = some ns from h); rfl
  | .int i :: r, ns, h => by
    obtain ⟨m, e, rfl⟩ := Option.map_eq_some_iff.mp (show (intsOfD r).map (i :: ·) = some ns from h)
    rw [List.map_cons, ← intsOfD_eq e]
  | .non :: _, _, h => by cases h
  | .bl _ :: _, _, h => by cases h
  | .str _ :: _, _, h => by cases h
  | .tup _ :: _, _, h => by cases h
  | .lst _ :: _, _, h => by cases h
  | .dic _ _ :: _, _, h => by cases h
  | .scr _ :: _, _, h => by cases h
  | .ref _ :: _, _, h => by cases h
  | .kset _ :: _, _, h => by cases h
  | .cls _ :: _, _, h => by cases h
  | .exv :: _, _, h => by cases h
  | .tupn _ :: _, _, h => by cases h
theorem ints_reps {K : Frag} {H : Hp} {o : Lo} : ∀ {ns : List Int} {xs : List V}, Reps K H o (ns.map D.int) xs → xs = ns.map V.int
  | [], _, h => h
  | n :: ns, _, h => by
    obtain ⟨v, vs, rfl, h1, h2⟩ := h
    rw [show v = V.int n from h1, ints_reps h2]; rfl
theorem reps_ints {K : Frag} {H : Hp} {o : Lo} : ∀ {ns : List Int}, Reps K H o (ns.map D.int) (ns.map V.int)
  | [] => rfl
  | n :: ns => ⟨_, _, rfl, rfl, reps_ints⟩
def sortSet : D → M D
  | .lst ds => match intsOfD ds with
    | some ns => guardM (decide (ns.length < 60)) (pure (.lst ((sortU ns).map D.int)))
    | none => M.stuck
  | _ => M.stuck
theorem sortSet_i {ns : List Int} (h : ns.length < 60) : sortSet (.lst (ns.map D.int)) = pure (.lst ((sortU ns).map D.int)) := by
  show (match intsOfD (ns.map D.int) with | some ns => guardM (decide (ns.length < 60)) (pure (.lst ((sortU ns).map D.int))) | none => M.stuck) = _
  rw [intsOfD_map]
  show guardM (decide (ns.length < 60)) _ = _
  rw [decide_eq_true h]; rfl
def rSetI (K : Frag) (w : World) : List V → Hp → VK → Prop := fun xs H Q => ∃ (a : Addr) (ns : List Int), xs = [.ref a] ∧ SqL K H a (ns.map V.int) ∧ ns.length < 60 ∧ ∀ p c, H p = none → c ≤ ns.length → Q (.ref p) (upd H p (SetO w p (fun j => decide (j ∈ ns)) c))
section
variable {X : Cx} {E : XK}
theorem cr_setI (hc : X.calm = true) : CallR X (.type "set") (rSetI X.K X.w) := by
  intro pins s σ H xs us Q I r h
  obtain ⟨a, ns, rfl, hs, hl, q⟩ := h
  rw [Vals.ref1 r]
  obtain ⟨its, rv, pl, hz⟩ := I.list hs
  refine set_ints (I.ok.hd hc) pl.isList (by simpa using intsAre_of rv) (by unfold scanBound; omega) fun g tk c R hcn k => ?_
  exact ⟨.ref s.heap.objs.size, _, I.laid (t' := tk) k (Nat.le_refl _) (setO_new R), rfl, q _ c (I.hok.fresh (Nat.le_refl _)) hcn⟩
theorem pd_sortSet {e : Expr} {f : Den} {p p2 pos pos2 : Pos} (hg : Gl X "sorted") (hm : X.mg "sorted" = none) (hg2 : Gl X "set") (hm2 : X.mg "set" = none) (hc : X.calm = true) (he : PD X E e f)
    (na : starEach [e] X.env = (false, eval e X.env) :: starEach [] X.env) (na2 : starEach [.Call (.Name "set" p2) [e] [] pos2] X.env = (false, eval (.Call (.Name "set" p2) [e] [] pos2) X.env) :: starEach [] X.env) :
    PD X E (.Call (.Name "sorted" p) [.Call (.Name "set" p2) [e] [] pos2] [] pos) (d1 sortSet f) := by
  refine PE.imp (pe_callB (cr_sortedSet hc) hg hm (by decide +kernel) (pa_cons (pe_callTy (cr_setI hc) hg2 hm2 (by decide +kernel) (pa_cons he pa_nil na) (by decide) (by decide) na rfl) pa_nil na2) (by decide) (by decide) na2 rfl) fun σ H Q h => ?_
  obtain ⟨o, ρ, st, hev, so, h⟩ := tD_one h
  refine ⟨o, ρ, st, hev, so, h.mono (fun d st1 h1 v H1 o1 l s1 r => ?_) fun _ _ x => x⟩
  obtain ⟨d2, o2, st2, r2, so2, h2⟩ := h1 v H1 o1 l s1 r
  cases d2 with
  | lst ds =>
    obtain ⟨a, xs, rfl, k1, av, q1⟩ := r2
    have h3 : wpR ((match intsOfD ds with | some ns => guardM (decide (ns.length < 60)) (pure (.lst ((sortU ns).map D.int))) | none => M.stuck) st2) (VOk X.K H1 o2 Q) (XOk X.K E H1 o2) := h2
    cases q : intsOfD ds with
    | none => rw [q] at h3; exact False.elim h3
    | some ns =>
      rw [q] at h3
      obtain ⟨hl, h4⟩ := guardM_wp h3
      have hl := of_decide_eq_true hl
      rw [intsOfD_eq q] at q1
      cases ints_reps q1
      refine ⟨a, ns, rfl, SqL.of k1, hl, fun p c hp hcn => ⟨p, _, c, rfl, upd_same, by omega, fun ms p3 pw hmem hlen hp3 => ?_⟩⟩
      have e1 : ms = sortU ns := rise_eq pw sortU_pw fun k => by rw [hmem k, sortU_mem, decide_eq_true_eq]
      subst e1
      have l2 : Le H1 o2 (upd H1 p (SetO X.w p (fun j => decide (j ∈ ns)) c)) o2 := Le.new hp
      have h5 : VOk X.K H1 o2 Q (.lst ((sortU ns).map D.int)) st2 := h4
      exact ok_newLst (h5.mono l2) (so2.new hp) reps_ints hp3
  | _ => exact False.elim h2
end
end MP

namespace MP
open PySem L2
open PySem.Spec PyProof.Rows
/-! ## instances -/
def insC (x : Option Cell) : Option (Str × List Str × List D) := match x with
  | some (.ins c fs ds) => some (c, fs, ds)
  | _ => none
def insAt (st : Store) : D → Option (Str × List Str × List D)
  | .ref n => insC st[n]?
  | _ => none
theorem insC_some {x : Option Cell} {c : Str} {fs : List Str} {ds : List D} (h : insC x = some (c, fs, ds)) : x = some (.ins c fs ds) := by
  unfold insC at h
  split at h
  · cases h; rfl
  · cases h
/-- what a class of the text is known by -/
structure ClsF (K : Frag) (c : Str) : Prop where
  cl : Cls K (He.ga K c)
  sf : PySem.W.selfFirst K (He.ga K c) = true
  ns : PySem.W.noSeq K (He.ga K c) = true
  ha : PySem.W.findIn K (.ref (He.ga K c)) "__class__" = some (some (.builtin "object.__class__"))
  hn : PySem.W.specialIn K (.builtin "object.__class__") "__get__" = some (some (.builtin "getset_descriptor.__get__"))
  htk : PySem.W.takesIn K (.builtin "object.__class__") = some true
  hm : PySem.W.mroIn K (He.ga K c) (.type "object") = some true
  me : PySem.W.kitOne K (.ref (He.ga K c)) (.ref (He.ga K c)) = some true
  no : ∀ t ∈ (["NoneType", "bool", "int", "str", "tuple", "list", "dict"] : List String), PySem.W.kitOne K (.type t) (.ref (He.ga K c)) = some false
abbrev NoA (K : Frag) (c f : Str) : Prop := NoAttr K (He.ga K c) f
/-- a method by its meaning -/
structure CalM (P : Program) (w : World) (K : Frag) (mg : Str → Option Value) (base : Heap) (k : Nat) (c m : Str) (np : Nat) (p : List D → M D) : Prop where
  ex : ∃ f, FnR P w K mg base (L2.CX P w) k f (spD K np p) ∧ Meth K (He.ga K c) m f ∧ PySem.W.fnIn K f = true
theorem CalM.mono {P : Program} {w : World} {K : Frag} {mg : Str → Option Value} {base : Heap} {j k : Nat} {c m : Str} {np : Nat} {p : List D → M D} (h : CalM P w K mg base j c m np p) (q : j ≤ k) : CalM P w K mg base k c m np p :=
  let ⟨f, F, r⟩ := h.ex; ⟨f, F.mono q, r⟩
section
variable {K : Frag} {E : XK} {H H' : Hp} {o o' : Lo} {st : Store} {X : Cx} {k : Nat}
theorem ins_of {d : D} {v : V} {c : Str} {fs : List Str} {ds : List D} (r : Rep K H o d v) (s : StOk K H o st) (e : insAt st d = some (c, fs, ds)) :
    ∃ n a dx vs, d = .ref n ∧ v = .ref a ∧ st[n]? = some (.ins c fs ds) ∧ o.l[n]? = some (some a) ∧ H a = some (.ins (He.ga K c) dx vs) ∧ vs.map (·.1) = fs ∧ Reps K H o ds (vs.map (·.2)) := by
  cases d with
  | ref n =>
    have e' := insC_some (show insC st[n]? = _ from e)
    obtain ⟨a, dx, vs, e1, e2, e3, e4⟩ := s.cell n _ e'
    obtain ⟨b, rfl, h⟩ := r
    have : b = a := by
      rw [e1] at h
      rcases h with h | h <;> cases h
      rfl
    subst this
    exact ⟨n, b, dx, vs, rfl, rfl, e', e1, e2, e3, e4⟩
  | _ => cases e
theorem lookup_reps {f : Str} {y : D} : ∀ {fs : List Str} {ds : List D} {vs : List (Str × V)}, vs.map (·.1) = fs → Reps K H o ds (vs.map (·.2)) → (fs.zip ds).lookup f = some y → ∃ u, vs.lookup f = some u ∧ Rep K H o y u
  | fs, ds, [], h, r, e => by
    cases h
    simp at e
  | fs, ds, (g, u) :: vs, h, r, e => by
    cases h
    cases ds with
    | nil => simp at e
    | cons d ds =>
      obtain ⟨u', vs', e1, r1, r2⟩ := r
      simp only [List.map_cons, List.cons.injEq] at e1
      obtain ⟨rfl, rfl⟩ := e1
      simp only [List.map_cons, List.zip_cons_cons, List.lookup_cons] at e ⊢
      cases q : f == g with
      | true => rw [q] at e; cases e; exact ⟨u, rfl, r1⟩
      | false => rw [q] at e; exact lookup_reps rfl r2 e
/-! ### x.f -/
def fldOf (c f : Str) (d : D) : M D := fun st => match insAt st d with
  | some (c', fs, ds) => if c' = c then (match (fs.zip ds).lookup f with
    | some y => .ok y st
    | none => .stuck) else .stuck
  | none => .stuck
theorem fld_wp {c f : Str} {d : D} {Q : D → Store → Prop} {Z : Exn → Store → Prop} (h : wpR (fldOf c f d st) Q Z) : ∃ fs ds y, insAt st d = some (c, fs, ds) ∧ (fs.zip ds).lookup f = some y ∧ Q y st := by
  unfold fldOf at h
  cases q : insAt st d with
  | none => rw [q] at h; exact False.elim h
  | some z =>
    obtain ⟨c', fs, ds⟩ := z
    rw [q] at h
    simp only at h
    by_cases hc : c' = c
    · subst hc
      rw [if_pos rfl] at h
      cases q2 : (fs.zip ds).lookup f with
      | none => rw [q2] at h; exact False.elim h
      | some y => rw [q2] at h; exact ⟨fs, ds, y, rfl, q2, h⟩
    · rw [if_neg hc] at h; exact False.elim h
@[simp] def dFld (c f : Str) (fx : Den) : Den := fun ρ => fx ρ >>= fldOf c f
theorem pd_fld {c f : Str} {e : Expr} {fx : Den} {pos : Pos} (C : ClsF X.K c) (n : NoA X.K c f) (he : PD X E e fx) (hb : attributeBase e f X.env (eval e X.env) = eval e X.env) : PD X E (.Attribute e f pos) (dFld c f fx) := PE.imp (pe_fld he hb) fun σ H Q h => by
  obtain ⟨o, ρ, st, he, hs, h⟩ := h
  refine ⟨o, ρ, st, he, hs, (wpR.bind.mp h).mono (fun d st1 h1 v H1 o1 l s1 r => ?_) fun _ _ x => x⟩
  obtain ⟨fs, ds, y, e1, e2, h2⟩ := fld_wp h1
  obtain ⟨m, a, dx, vs, rfl, rfl, _, _, e3, e4, e5⟩ := ins_of r s1 e1
  obtain ⟨u, e6, r6⟩ := lookup_reps e4 e5 e2
  exact ⟨a, _, dx, vs, u, rfl, e3, C.cl, n, e6, h2 u H1 o1 l s1 r6⟩
/-! ### x.f = e -/
def putD (f : Str) (y : D) : List Str → List D → List D
  | g :: fs, d :: ds => if g = f then y :: ds else d :: putD f y fs ds
  | _, _ => [y]
def putN (f : Str) : List Str → List Str
  | [] => [f]
  | g :: r => if g = f then g :: r else g :: putN f r
theorem put_reps {f : Str} {y : D} {v : V} (rv : Rep K H o y v) : ∀ {vs : List (Str × V)} {ds : List D}, Reps K H o ds (vs.map (·.2)) → (putF f v vs).map (·.1) = putN f (vs.map (·.1)) ∧ Reps K H o (putD f y (vs.map (·.1)) ds) ((putF f v vs).map (·.2))
  | [], ds, r => by
    cases ds with
    | nil => exact ⟨rfl, v, [], rfl, rv, rfl⟩
    | cons d ds => obtain ⟨_, _, e, _⟩ := r; cases e
  | (g, u) :: vs, ds, r => by
    cases ds with
    | nil => cases (show _ = [] from r)
    | cons d ds =>
      obtain ⟨u', vs', e1, r1, r2⟩ := r
      simp only [List.map_cons, List.cons.injEq] at e1
      obtain ⟨rfl, rfl⟩ := e1
      unfold putF
      simp only [List.map_cons, putN, putD]
      by_cases h : g = f
      · rw [if_pos h, if_pos h, if_pos h]
        exact ⟨rfl, v, _, rfl, rv, r2⟩
      · rw [if_neg h, if_neg h, if_neg h]
        obtain ⟨k1, k2⟩ := put_reps rv r2
        exact ⟨by rw [List.map_cons, k1], u, _, rfl, r1, k2⟩
def setF (c f : Str) (x y : D) : M Unit := fun st => match x, insAt st x with
  | .ref n, some (c', fs, ds) => if c' = c ∧ fs.length < 900 then .ok () (st.set n (.ins c (putN f fs) (putD f y fs ds))) else .stuck
  | _, _ => .stuck
theorem setF_wp {c f : Str} {x y : D} {Q : Unit → Store → Prop} {Z : Exn → Store → Prop} (h : wpR (setF c f x y st) Q Z) : ∃ n fs ds, x = .ref n ∧ insAt st x = some (c, fs, ds) ∧ fs.length < 900 ∧ Q () (st.set n (.ins c (putN f fs) (putD f y fs ds))) := by
  unfold setF at h
  cases x with
  | ref n =>
    cases q : insAt st (.ref n) with
    | none => rw [q] at h; exact False.elim h
    | some z =>
      obtain ⟨c', fs, ds⟩ := z
      rw [q] at h
      simp only at h
      by_cases hc : c' = c ∧ fs.length < 900
      · rw [if_pos hc] at h
        obtain ⟨rfl, hl⟩ := hc
        exact ⟨n, fs, ds, rfl, rfl, hl, h⟩
      · rw [if_neg hc] at h; exact False.elim h
  | _ => exact False.elim h
def dSetF (c f : Str) (fo fv : Den) : DenS := fun ρ => fv ρ >>= fun y => fo ρ >>= fun x => setF c f x y >>= fun _ => pure (.nx ρ)
theorem dp_fld {c f : Str} {eo ev : Expr} {fo fv : Den} {pos' pos : Pos} (C : ClsF X.K c) (n : NoA X.K c f) (ho : PD X E eo fo) (hv : PD X E ev fv) (hs : swapsWith ev (some (.Attribute eo f pos')) pos.line X.env = pure false) :
    PDS X E (.Assign [.Attribute eo f pos'] ev pos) (dSetF c f fo fv) := PS.imp (ps_fld ho hv hs) fun D σ H h => by
  obtain ⟨o, ρ, st, he, so, h⟩ := h
  refine ⟨o, ρ, st, he, so, (wpR.bind.mp h).mono (fun y st1 h1 v H1 o1 l1 s1 r1 => ?_) fun _ _ z => z⟩
  refine ⟨o1, ρ, st1, he.mono l1.rep, s1, (wpR.bind.mp h1).mono (fun x st2 h2 u H2 o2 l2 s2 r2 => ?_) fun _ _ z => z.mono l1⟩
  obtain ⟨m, fs, ds, rfl, e1, hl, h3⟩ := setF_wp (wpR.bind.mp h2)
  obtain ⟨m', a, dx, vs, em, rfl, e0, e2, e3, e4, e5⟩ := ins_of r2 s2 e1
  cases em
  have hm : some a ∈ o2.l := List.mem_of_getElem? e2
  have ll := l1.trans l2
  have rv := Rep.mono l2 _ _ r1
  obtain ⟨p1, p2⟩ := put_reps (f := f) rv e5
  have hlen : vs.length < 1000 := by
    have : (vs.map (·.1)).length = fs.length := by rw [e4]
    rw [List.length_map] at this
    omega
  refine ⟨a, _, dx, vs, rfl, e3, C.cl, n, hlen, ?_⟩
  subst e4
  have lw : Le H2 o2 (upd H2 a (.ins (He.ga X.K c) dx (putF f v vs))) o2 := Le.write hm
  have sw := s2.write (n := m) (a := a) (u := .ins (He.ga X.K c) dx (putF f v vs)) (c := .ins c (putN f (vs.map (·.1))) (putD f y (vs.map (·.1)) ds)) e2 ⟨a, dx, _, rfl, upd_same, p1, lw.rep.reps p2⟩
  exact (show EOk X.K H o D.nx ρ _ from h3) σ _ _ (ll.trans lw) sw ((he.mono ll.rep).mono lw.rep)
end
end MP

namespace MP
open PySem L2
open PySem.Spec PyProof.Rows
section
variable {K : Frag} {E : XK} {H H' : Hp} {o o' : Lo} {st : Store} {X : Cx} {k j : Nat}
/-- by any list of values -/
theorem spD_of {np : Nat} {p : List D → M D} {ds : List D} {vs : List V} {Q : VK} (hl : ds.length = np) (s : StOk K H o st) (r : Reps K H o ds vs) (h : wpR (p ds st) (VOk K H o Q) (XOk K E H o)) : spD K np p vs H Q E :=
  ⟨o, ds, st, r, hl, s, h⟩
/-! ### C(..) -/
def nonM (r : D) : D → M D
  | .non => pure r
  | _ => M.stuck
def mkO (c : Str) (p : List D → M D) (ds : List D) : M D := M.alloc (.ins c [] []) >>= fun r => p (r :: ds) >>= nonM r
/-- a class by its meaning when it's called -/
structure MkC (P : Program) (w : World) (K : Frag) (mg : Str → Option Value) (base : Heap) (k : Nat) (c : Str) (np : Nat) (p : List D → M D) : Prop where
  ex : ∃ f, FnR P w K mg base (L2.CX P w) k f (spD K np p) ∧ Mk K (He.ga K c) f
  mg : mg c = some (.ref (He.ga K c))
theorem MkC.mono {P : Program} {w : World} {K : Frag} {mg : Str → Option Value} {base : Heap} {j k : Nat} {c : Str} {np : Nat} {p : List D → M D} (h : MkC P w K mg base j c np p) (q : j ≤ k) : MkC P w K mg base k c np p :=
  let ⟨⟨f, F, r⟩, m⟩ := h; ⟨⟨f, F.mono q, r⟩, m⟩
theorem mk_new {c : Str} {np : Nat} {p : List D → M D} {ds : List D} {vs : List V} {Q : VK} (hl : ds.length + 1 = np) (s : StOk K H o st) (r : Reps K H o ds vs) (h : wpR (mkO c p ds st) (VOk K H o Q) (XOk K E H o)) :
    ∀ x dx, H x = none → H dx = none → dx ≠ x → spD K np p (V.ref x :: vs) (upd (upd H dx (.own x)) x (.ins (He.ga K c) dx [])) (fun v H2 => v = .non ∧ Q (.ref x) H2) E := by
  intro x dx hx hdx hne
  have hx' : (upd H dx (.own x)) x = none := by rw [upd_ne (Ne.symm hne)]; exact hx
  have s1 := s.new (u := .own x) hdx
  have l1 : Le H o (upd H dx (.own x)) o := Le.new hdx
  have l2 : Le (upd H dx (.own x)) o (upd (upd H dx (.own x)) x (.ins (He.ga K c) dx [])) (o.push x) := Le.alloc hx'
  have s2 : StOk K (upd (upd H dx (.own x)) x (.ins (He.ga K c) dx [])) (o.push x) (st ++ [.ins c [] []]) := s1.alloc hx' ⟨x, dx, [], rfl, upd_same, rfl, rfl⟩
  have ll := l1.trans l2
  have h1 := wpR.bind.mp (show wpR ((M.alloc (.ins c [] []) >>= fun r => p (r :: ds) >>= nonM r) st) _ _ from h)
  have h2 : wpR ((p (.ref st.length :: ds) >>= nonM (.ref st.length)) (st ++ [.ins c [] []])) (VOk K H o Q) (XOk K E H o) := h1
  have r0 : Rep K (upd (upd H dx (.own x)) x (.ins (He.ga K c) dx [])) (o.push x) (.ref st.length) (.ref x) := Rep.alloc s1
  refine spD_of (ds := .ref st.length :: ds) (by simpa using hl) s2 ⟨.ref x, vs, rfl, r0, ll.rep.reps r⟩ ?_
  refine (wpR.bind.mp h2).mono (fun d st3 h3 v H3 o3 l3 s3 r3 => ?_) fun _ _ z => z.mono ll
  cases d with
  | non => exact ⟨r3, (show VOk K H o Q (.ref st.length) st3 from h3) _ H3 o3 (ll.trans l3) s3 (Rep.mono l3 _ _ r0)⟩
  | _ => exact False.elim h3
theorem tD_make {c : Str} {np : Nat} {p : List D → M D} {fs : DenL} {σ : L2.St} {Q : VK} (h : tD K E (dCall (arity np fun ds => mkO c p ds) fs) σ H Q) : StX.tMakeR (He.ga K c) (spD K (np + 1) p) E (tL K E fs) σ H Q := by
  obtain ⟨o, ρ, st, he, hs, h⟩ := h
  refine ⟨o, ρ, st, he, hs, (wpR.bind.mp h).mono (fun ds st1 h1 vs H1 o1 l s1 r => ?_) fun _ _ x => x⟩
  have h2 : wpR ((bif ds.length == np then mkO c p ds else M.stuck) st1) (VOk K H o Q) (XOk K E H o) := h1
  cases q : ds.length == np with
  | false => rw [q] at h2; exact False.elim h2
  | true =>
    rw [q] at h2
    exact mk_new (by rw [eq_of_beq q]) s1 r (wpR.mono h2 (fun _ _ x => x.mono l) fun _ _ x => x.mono l)
theorem pd_make {c : Str} {np : Nat} {p : List D → M D} {e : Expr} {es : List Expr} {fs : DenL} {pn pos : Pos} (ck : Cok X E k) (F : MkC X.prog X.w X.K X.mg X.base j c (np + 1) p) (hj : j + 1 ≤ k) (hg : Gl X c) (ha : PL X E (e :: es) fs)
    (hdb : (c == ("__debug__" : Str)) = false) (he : starEach (e :: es) X.env = (false, eval e X.env) :: starEach es X.env) (hpl : (backTo pos (starEach es X.env)).any (·.1) = false) :
    PD X E (.Call (.Name c pn) (e :: es) [] pos) (dCall (arity np fun ds => mkO c p ds) fs) :=
  let ⟨f, G, M⟩ := F.ex
  PE.imp (StX.pe_makeR M G (ck.room.mono hj) hg F.mg ck.pass ha hdb he hpl) fun _ _ _ h => tD_make h
/-- cls(..), cls a name of the def -/
def clsM (c : Str) : D → M Unit
  | .cls c' => if c' = c then pure () else M.stuck
  | _ => M.stuck
def dMakeL (i : Nat) (c : Str) (np : Nat) (p : List D → M D) (fs : DenL) : Den := fun ρ => dVar i ρ >>= clsM c >>= fun _ => dCall (arity np fun ds => mkO c p ds) fs ρ
theorem pd_makeL {i : Nat} {x c : Str} {np : Nat} {p : List D → M D} {e : Expr} {es : List Expr} {fs : DenL} {pn pos : Pos} (ck : Cok X E k) (F : MkC X.prog X.w X.K X.mg X.base j c (np + 1) p) (hj : j + 1 ≤ k) (hN : X.N[i]? = some x) (hv : Vis X.env.scope x) (ha : PL X E (e :: es) fs)
    (hdb : (x == ("__debug__" : Str)) = false) (hcd : (x == ("__classdict__" : Str)) = false) (he : starEach (e :: es) X.env = (false, eval e X.env) :: starEach es X.env) (hpl : (backTo pos (starEach es X.env)).any (·.1) = false) :
    PD X E (.Call (.Name x pn) (e :: es) [] pos) (dMakeL i c np p fs) := by
  obtain ⟨f, G, Mm⟩ := F.ex
  refine ⟨fun pins s σ H Q I h => ?_⟩
  obtain ⟨o, ρ, st, he', hs, h⟩ := h
  have hv1 := (wpR.bind (m := dVar i ρ >>= clsM c) (f := fun _ => dCall (arity np fun ds => mkO c p ds) fs ρ)).mp h
  have hv2 := wpR.bind.mp hv1
  have e1 : ρ[i]? = some (some (.cls c)) ∧ tD X.K E (dCall (arity np fun ds => mkO c p ds) fs) σ H Q := by
    have hv3 : wpR ((match ρ[i]? with | some (some d) => (pure d : M D) | _ => M.stuck) st) _ _ := hv2
    cases q : ρ[i]? with
    | none => rw [q] at hv3; exact False.elim hv3
    | some z =>
      rw [q] at hv3
      cases z with
      | none => exact False.elim hv3
      | some d =>
        have hv4 : wpR (clsM c d st) _ _ := hv3
        cases d with
        | cls c' =>
          have hv5 : wpR ((if c' = c then (pure () : M Unit) else M.stuck) st) _ _ := hv4
          by_cases hc : c' = c
          · subst hc
            rw [if_pos rfl] at hv5
            exact ⟨rfl, o, ρ, st, he', hs, hv5⟩
          · rw [if_neg hc] at hv5; exact False.elim hv5
        | _ => exact False.elim hv4
  obtain ⟨e1, h2⟩ := e1
  obtain ⟨v, hσ, rv⟩ := he'.2 i _ e1
  cases (show v = .ref (He.ga X.K c) from rv)
  have h3 := tD_make h2
  refine wpAny_Call_Name_kw (thn ((pe_var (pos := pn) hN hv hdb hcd).run pins s σ H (fun v H1 => v = .ref (He.ga X.K c) ∧ H1 = H) I ⟨.ref (He.ga X.K c), hσ, rfl, rfl⟩) fun u s1 ⟨v, H1, I1, r1, q1⟩ => ?_)
  obtain ⟨rfl, rfl⟩ := q1
  cases r1
  refine PySem.W.callWith_K (h₀ := X.base) I.ok.mod.kin Mm.kp (thn (ha.run pos pins s1 σ _ _ I1 h3) fun us s2 ⟨vs, H2, I2, r, q⟩ => ⟨I2.kIn, ?_⟩) he hpl
  exact StX.run_makeR Mm G (ck.room.mono hj) ck.pass I2 r q
end
end MP

namespace MP
open PySem L2
open PySem.Spec PyProof.Rows
section
variable {K : Frag} {E : XK} {H H' : Hp} {o o' : Lo} {st : Store} {X : Cx} {k j : Nat}
/-- an instance of the class, without an attribute of the name -/
def insM (c m : Str) (d : D) : M Unit := fun st => match insAt st d with
  | some (c', fs, ds) => if c' = c ∧ (fs.contains m) = false then .ok () st else .stuck
  | none => .stuck
theorem insM_wp {c m : Str} {d : D} {Q : Unit → Store → Prop} {Z : Exn → Store → Prop} (h : wpR (insM c m d st) Q Z) : ∃ fs ds, insAt st d = some (c, fs, ds) ∧ fs.contains m = false ∧ Q () st := by
  unfold insM at h
  cases q : insAt st d with
  | none => rw [q] at h; exact False.elim h
  | some z =>
    obtain ⟨c', fs, ds⟩ := z
    rw [q] at h
    simp only at h
    by_cases hc : c' = c ∧ fs.contains m = false
    · rw [if_pos hc] at h
      obtain ⟨rfl, hl⟩ := hc
      exact ⟨fs, ds, rfl, hl, h⟩
    · rw [if_neg hc] at h; exact False.elim h
theorem lookup_no {m : Str} : ∀ {vs : List (Str × V)}, (vs.map (·.1)).contains m = false → vs.lookup m = none
  | [], _ => rfl
  | (g, u) :: vs, h => by
    simp only [List.map_cons, List.contains_cons, Bool.or_eq_false_iff] at h
    rw [List.lookup_cons, h.1]
    exact lookup_no h.2
/-! ### x.m(..) -/
def dMethC (c m : Str) (np : Nat) (p : List D → M D) (fo : Den) (fs : DenL) : Den := fun ρ => fo ρ >>= fun x => insM c m x >>= fun _ => fs ρ >>= fun ds => arity np p (x :: ds)
theorem tD_meth {c m : Str} {np : Nat} {p : List D → M D} {fo : Den} {fs : DenL} {σ : L2.St} {Q : VK} (h : tD K E (dMethC c m np p fo fs) σ H Q) : tMeth (He.ga K c) m (spD K np p) [] E (tD K E fo) (tL K E fs) σ H Q := by
  obtain ⟨o, ρ, st, he, so, h⟩ := h
  refine ⟨o, ρ, st, he, so, (wpR.bind.mp h).mono (fun x st1 h1 v H1 o1 l1 s1 r1 => ?_) fun _ _ z => z⟩
  obtain ⟨gs, ds, e1, hc, h2⟩ := insM_wp (wpR.bind.mp h1)
  obtain ⟨n, a, dx, vs, rfl, rfl, _, _, e3, e4, _⟩ := ins_of r1 s1 e1
  refine ⟨a, dx, vs, rfl, e3, lookup_no (by rw [e4]; exact hc), o1, ρ, st1, he.mono l1.rep, s1, ?_⟩
  refine (wpR.bind.mp h2).mono (fun ds2 st2 h3 ws H2 o2 l2 s2 r2 => ?_) fun _ _ z => z.mono l1
  have h4 : wpR ((bif (D.ref n :: ds2).length == np then p (.ref n :: ds2) else M.stuck) st2) (VOk K H o Q) (XOk K E H o) := h3
  cases q : (D.ref n :: ds2).length == np with
  | false => rw [q] at h4; exact False.elim h4
  | true =>
    rw [q] at h4
    show spD K np p (V.ref a :: (ws ++ [])) H2 Q E
    rw [List.append_nil]
    exact spD_of (eq_of_beq q) s2 ⟨.ref a, ws, rfl, Rep.mono l2 _ _ r1, r2⟩ (wpR.mono h4 (fun _ _ x => x.mono (l1.trans l2)) fun _ _ x => x.mono (l1.trans l2))
/-- the promise by values, of a def of the text -/
theorem run_R {pins : List (Addr × Obj)} {σ : L2.St} {s : Shared} {f : Addr} {sp : Sp} {Q : VK} {us : List Value} {vs : List V} (ck : Cok X E k) (F : FnR X.prog X.w X.K X.mg X.base (L2.CX X.prog X.w) j f sp) (hj : j ≤ k) (I : Inv X pins σ H s) (r : Vals vs us) (h : sp vs H Q E) :
    wpAny (model X.prog X.w) X.A (call (.ref f) us) (EP X pins σ Q) X.xe s := wpAny_call (run_fnR F (ck.room.mono hj) ck.pass I r h)
theorem pd_meth1 {c m : Str} {np : Nat} {p : List D → M D} {eo e : Expr} {es : List Expr} {fo : Den} {fs : DenL} {apos pos : Pos} {pl : Sem Bool} (ck : Cok X E k) (C : ClsF X.K c) (F : CalM X.prog X.w X.K X.mg X.base j c m np p) (hj : j ≤ k) (ho : PD X E eo fo) (ha : PL X E (e :: es) fs)
    (hst : starEach (e :: es) X.env = (false, eval e X.env) :: starEach es X.env) (hpl : (backTo pos (starEach es X.env)).any (·.1) = false)
    (ht : eval (.Call (.Attribute eo m apos) (e :: es) [] pos) X.env = (do
      let ov ← eval eo X.env
      standAt apos.atName
      let (f, first) ← holding [ov] (getMethod ov m pl)
      callWith pos f first (backTo pos (starEach (e :: es) X.env)) (backToKw pos (keywordEach [] X.env)))) :
    PD X E (.Call (.Attribute eo m apos) (e :: es) [] pos) (dMethC c m np p fo fs) := by
  obtain ⟨f, G, hm, hf⟩ := F.ex
  refine PE.imp (t := tMeth (He.ga X.K c) m (spD X.K np p) [] E (tD X.K E fo) (tL X.K E fs)) ⟨fun pins s σ H Q I h => ?_⟩ fun _ _ _ h => tD_meth h
  refine PySem.W.methodCall_KW (pl := pl) (thn (ho.run pins s σ H _ I h) fun u s1 ⟨x, H1, I1, rx, a, dx, fs, ex, ea, l, q⟩ => ?_) ht
  subst ex
  obtain rfl : u = Value.ref a := rx
  refine getmeth_ok I1 ea C.cl hm l ?_
  refine PySem.W.callWith_K (first := [.ref a]) (h₀ := X.base) I.ok.mod.kin hm.kp (thn (ha.run pos pins s1 σ H1 _ I1 q) fun us s2 ⟨vs, H2, I2, r, q2⟩ => ⟨I2.kIn, ?_⟩) hst hpl
  have q2 : spD X.K np p (V.ref a :: (vs ++ [])) H2 Q E := q2
  rw [List.append_nil] at q2
  exact run_R (us := .ref a :: us) (vs := .ref a :: vs) ck G hj I2 (.cons rfl r) q2
theorem pd_meth0 {c m : Str} {np : Nat} {p : List D → M D} {eo : Expr} {fo : Den} {apos pos : Pos} {pl : Sem Bool} (ck : Cok X E k) (C : ClsF X.K c) (F : CalM X.prog X.w X.K X.mg X.base j c m np p) (hj : j ≤ k) (ho : PD X E eo fo)
    (ht : eval (.Call (.Attribute eo m apos) [] [] pos) X.env = (do
      let ov ← eval eo X.env
      standAt apos.atName
      let (f, first) ← holding [ov] (getMethod ov m pl)
      callWith pos f first (backTo pos (starEach [] X.env)) (backToKw pos (keywordEach [] X.env)))) :
    PD X E (.Call (.Attribute eo m apos) [] [] pos) (dMethC c m np p fo dNil) := by
  obtain ⟨f, G, hm, hf⟩ := F.ex
  refine PE.imp (t := tMeth (He.ga X.K c) m (spD X.K np p) [] E (tD X.K E fo) (tL X.K E dNil)) ⟨fun pins s σ H Q I h => ?_⟩ fun _ _ _ h => tD_meth h
  refine PySem.W.methodCall_KW (pl := pl) (thn (ho.run pins s σ H _ I h) fun u s1 ⟨x, H1, I1, rx, a, dx, fs, ex, ea, l, q⟩ => ?_) ht
  subst ex
  obtain rfl : u = Value.ref a := rx
  refine getmeth_ok I1 ea C.cl hm l ?_
  refine PySem.W.callWith_K0 (first := [.ref a]) I1.kIn hm.kp ?_
  obtain ⟨o2, ρ, st, he, so, hq⟩ := q
  have q2 := hq [] H1 o2 (Le.refl _ _) so rfl
  have q2 : spD X.K np p (V.ref a :: ([] ++ [])) H1 Q E := q2
  exact run_R (us := [.ref a]) (vs := [.ref a]) ck G hj I1 (.cons rfl .nil) q2
/-! ### a property -/
structure CalP (P : Program) (w : World) (K : Frag) (mg : Str → Option Value) (base : Heap) (k : Nat) (c f : Str) (p : List D → M D) : Prop where
  ex : ∃ q g, FnR P w K mg base (L2.CX P w) k g (spD K 1 p) ∧ PropOf K (He.ga K c) f q g
theorem CalP.mono {P : Program} {w : World} {K : Frag} {mg : Str → Option Value} {base : Heap} {j k : Nat} {c m : Str} {p : List D → M D} (h : CalP P w K mg base j c m p) (q : j ≤ k) : CalP P w K mg base k c m p :=
  let ⟨a, f, F, r⟩ := h.ex; ⟨a, f, F.mono q, r⟩
def insC1 (c : Str) (d : D) : M Unit := fun st => match insAt st d with
  | some (c', _, _) => if c' = c then .ok () st else .stuck
  | none => .stuck
theorem insC1_wp {c : Str} {d : D} {Q : Unit → Store → Prop} {Z : Exn → Store → Prop} (h : wpR (insC1 c d st) Q Z) : ∃ fs ds, insAt st d = some (c, fs, ds) ∧ Q () st := by
  unfold insC1 at h
  cases q : insAt st d with
  | none => rw [q] at h; exact False.elim h
  | some z =>
    obtain ⟨c', fs, ds⟩ := z
    rw [q] at h
    simp only at h
    by_cases hc : c' = c
    · rw [if_pos hc] at h
      subst hc
      exact ⟨fs, ds, rfl, h⟩
    · rw [if_neg hc] at h; exact False.elim h
def dProp (c : Str) (p : List D → M D) (fo : Den) : Den := fun ρ => fo ρ >>= fun x => insC1 c x >>= fun _ => noX (p [x])
theorem pd_prop {c f : Str} {p : List D → M D} {e : Expr} {fo : Den} {pos : Pos} (ck : Cok X E k) (C : ClsF X.K c) (F : CalP X.prog X.w X.K X.mg X.base j c f p) (hj : j + 1 ≤ k) (ho : PD X E e fo) (hb : attributeBase e f X.env (eval e X.env) = eval e X.env) : PD X E (.Attribute e f pos) (dProp c p fo) := by
  obtain ⟨q, g, G, hp⟩ := F.ex
  refine PE.imp (t := tProp (He.ga X.K c) (spD X.K 1 p) [] EX0 (tD X.K E fo)) ⟨fun pins s σ H Q I h => ?_⟩ fun σ H Q h => ?_
  · refine attr_of hb (thn (ho.run pins s σ H _ I h) fun u s1 ⟨x, H1, I1, rx, a, dx, fs, ex, ea, qq⟩ => ?_)
    subst ex
    obtain rfl : u = Value.ref a := rx
    obtain ⟨mA, O, _, _, _, _⟩ := ins_get I1.hok ea
    obtain ⟨od, J, _⟩ := O.look
    obtain ⟨rest, hrec⟩ := hp.rec_
    have I2 := I1.tok (s1.toks + 1)
    have hc : (PySem.W.clsIn X.K (He.ga X.K c)).isSome = true := by
      obtain ⟨cd, hc, _⟩ := PySem.W.any_some C.cl.hd
      rw [hc]
      rfl
    refine PySem.W.get_bind I1.kIn J (PySem.W.plainGet_of (C.cl.get f)).1 (PySem.W.findObj_data hc hp.at_ hp.get hp.tak) (PySem.W.plainGet_of (C.cl.get f)).2 (wpAny_call (PySem.W.prop_get (s := { s1 with toks := s1.toks + 1 }) I1.kIn hrec ?_))
    refine codeAny_mono (G X.A.in1 X.stack { s1 with toks := s1.toks + 1 } H1 [.ref a] [.ref a] Q EX0 (ck.room.mono hj).in1 I2.env0.in1 (.cons rfl .nil) qq) fun r s' hq => ?_
    cases r with
    | error er =>
      obtain ⟨a, B, H', cls, d, _, _, _, _, _, _, _, hE⟩ := hq
      exact False.elim hE
    | ok fl =>
      cases fl with
      | ret u =>
        obtain ⟨v, H', I3, rv, q3⟩ := I2.after hq
        show wpAny _ _ (handedOut u) _ _ _
        rw [PySem.W.handedOut_of (handed_of rv)]
        exact wpAny_pure ⟨v, H', I3, rv, q3⟩
      | next => exact False.elim hq
      | brk => exact False.elim hq
      | cont => exact False.elim hq
  · obtain ⟨o, ρ, st, he, so, h⟩ := h
    refine ⟨o, ρ, st, he, so, (wpR.bind.mp h).mono (fun x st1 h1 v H1 o1 l1 s1 r1 => ?_) fun _ _ z => z⟩
    obtain ⟨gs, ds, e1, h2⟩ := insC1_wp (wpR.bind.mp h1)
    obtain ⟨n, a, dx, vs, rfl, rfl, _, _, e3, e4, _⟩ := ins_of r1 s1 e1
    exact ⟨a, dx, vs, rfl, e3, spD_of rfl s1 (Reps.one r1) ((noX_wp h2).mono (fun _ _ x => x.mono l1) fun _ _ x => x)⟩
/-! ### C.m(..), a classmethod -/
structure CalC (P : Program) (w : World) (K : Frag) (mg : Str → Option Value) (base : Heap) (k : Nat) (c m : Str) (np : Nat) (p : List D → M D) : Prop where
  ex : ∃ mc q g, FnR P w K mg base (L2.CX P w) k g (spD K np p) ∧ ClX.CRead K (He.ga K c) mc ∧ ClX.CMet K (He.ga K c) mc m q g
  mg : mg c = some (.ref (He.ga K c))
theorem CalC.mono {P : Program} {w : World} {K : Frag} {mg : Str → Option Value} {base : Heap} {j k : Nat} {c m : Str} {np : Nat} {p : List D → M D} (h : CalC P w K mg base j c m np p) (q : j ≤ k) : CalC P w K mg base k c m np p :=
  let ⟨⟨b, a, f, F, r⟩, mm⟩ := h; ⟨⟨b, a, f, F.mono q, r⟩, mm⟩
def dCMeth (c : Str) (np : Nat) (p : List D → M D) (fs : DenL) : Den := fun ρ => fs ρ >>= fun ds => arity np p (.cls c :: ds)
theorem pd_cmeth {c m : Str} {np : Nat} {p : List D → M D} {e : Expr} {es : List Expr} {fs : DenL} {p1 apos pos : Pos} {pl : Sem Bool} (ck : Cok X E k) (F : CalC X.prog X.w X.K X.mg X.base j c m np p) (hj : j ≤ k) (hg : Gl X c) (ha : PL X E (e :: es) fs) (hdb : (c == ("__debug__" : Str)) = false)
    (hst : starEach (e :: es) X.env = (false, eval e X.env) :: starEach es X.env) (hpl : (backTo pos (starEach es X.env)).any (·.1) = false)
    (ht : eval (.Call (.Attribute (.Name c p1) m apos) (e :: es) [] pos) X.env = (do
      let ov ← eval (.Name c p1) X.env
      standAt apos.atName
      let (f, first) ← holding [ov] (getMethod ov m pl)
      callWith pos f first (backTo pos (starEach (e :: es) X.env)) (backToKw pos (keywordEach [] X.env)))) :
    PD X E (.Call (.Attribute (.Name c p1) m apos) (e :: es) [] pos) (dCMeth c np p fs) := by
  obtain ⟨⟨mc, q, g, G, r, cm⟩, hm⟩ := F
  refine PE.imp (ClX.pe_cmeth (pl := pl) (pe_glob (v := .ref (He.ga X.K c)) hg hm rfl hdb) r cm G (ck.room.mono hj) ck.pass ha hst hpl ht) fun σ H Q h => ?_
  obtain ⟨o, ρ, st, he, so, h⟩ := h
  refine ⟨rfl, o, ρ, st, he, so, (wpR.bind.mp h).mono (fun ds st1 h1 vs H1 o1 l1 s1 r1 => ?_) fun _ _ z => z⟩
  have h4 : wpR ((bif (D.cls c :: ds).length == np then p (.cls c :: ds) else M.stuck) st1) (VOk X.K H o Q) (XOk X.K E H o) := h1
  cases q : (D.cls c :: ds).length == np with
  | false => rw [q] at h4; exact False.elim h4
  | true =>
    rw [q] at h4
    exact spD_of (eq_of_beq q) s1 ⟨.ref (He.ga X.K c), vs, rfl, rfl, r1⟩ (wpR.mono h4 (fun _ _ x => x.mono l1) fun _ _ x => x.mono l1)
end
end MP

namespace MP
open PySem L2
open PySem.Spec PyProof.Rows
/-! ## operators of one's own -/
abbrev Ms := List (Str × (List D → M D))
def msAt (ms : Ms) (st : Store) (x : D) : Option (Str × (List D → M D)) := (insAt st x).bind fun z => ms.find? fun q => q.1 == z.1
structure MsOk (P : Program) (w : World) (K : Frag) (mg : Str → Option Value) (base : Heap) (k : Nat) (m : Str) (np : Nat) (ms : Ms) : Prop where
  all : ∀ q ∈ ms, ClsF K q.1 ∧ CalM P w K mg base k q.1 m np q.2
theorem MsOk.nil {P : Program} {w : World} {K : Frag} {mg : Str → Option Value} {base : Heap} {k : Nat} {m : Str} {np : Nat} : MsOk P w K mg base k m np [] := ⟨fun _ h => nomatch h⟩
theorem MsOk.cons {P : Program} {w : World} {K : Frag} {mg : Str → Option Value} {base : Heap} {k : Nat} {m c : Str} {np : Nat} {p : List D → M D} {ms : Ms} (C : ClsF K c) (F : CalM P w K mg base k c m np p) (r : MsOk P w K mg base k m np ms) : MsOk P w K mg base k m np ((c, p) :: ms) :=
  ⟨fun q h => by
    rcases List.mem_cons.mp h with rfl | h
    · exact ⟨C, F⟩
    · exact r.all q h⟩
section
variable {K : Frag} {E : XK} {H H' : Hp} {o o' : Lo} {st : Store} {X : Cx} {k j : Nat} {ms : Ms} {m : Str} {np : Nat}
theorem ms_of {P : Program} {w : World} {mg : Str → Option Value} {base : Heap} {x : D} {v : V} {c : Str} {p : List D → M D} (r : Rep K H o x v) (s : StOk K H o st) (hm : MsOk P w K mg base k m np ms) (e : msAt ms st x = some (c, p)) :
    ∃ n a dx vs, x = .ref n ∧ v = .ref a ∧ H a = some (.ins (He.ga K c) dx vs) ∧ ClsF K c ∧ CalM P w K mg base k c m np p := by
  unfold msAt at e
  obtain ⟨⟨c', fs, ds⟩, e1, e2⟩ := Option.bind_eq_some_iff.mp e
  have h1 := List.find?_some e2
  have h2 := hm.all _ (List.mem_of_find?_eq_some e2)
  have hc : c = c' := eq_of_beq h1
  subst hc
  obtain ⟨n, a, dx, vs, rfl, rfl, _, _, e3, _, _⟩ := ins_of r s e1
  exact ⟨n, a, dx, vs, rfl, rfl, e3, h2.1, h2.2⟩
/-- what own methods answer: a plain value -/
def opO (ms : Ms) (q : D → D → M D) : D → D → M D := fun x y st => match msAt ms st x with
  | some (c, p) => (match insAt st y with
    | some (c', _, _) => if c' = c then p [x, y] st else .stuck
    | none => .stuck)
  | none => q x y st
theorem od_own {op : CmpOp} {q : D → D → M D} {x : Str} (hop : ∀ a b, compareOp op a b = richCompare op a b) (hn : (cmpInfo op).2.1 = x) (ck : Cok X E k) (hm : MsOk X.prog X.w X.K X.mg X.base j x 2 ms) (hj : j ≤ k) (hq : OpD X E (compareOp op) q) : OpD X E (compareOp op) (opO ms q) := by
  intro pins s σ H x y v u Q I rx ry h
  obtain ⟨dx, dy, o, st, r1, r2, so, hw⟩ := h
  unfold opO at hw
  cases e : msAt ms st dx with
  | none =>
    rw [e] at hw
    exact hq pins s σ H x y v u Q I rx ry ⟨dx, dy, o, st, r1, r2, so, hw⟩
  | some z =>
    obtain ⟨c, p⟩ := z
    rw [e] at hw
    simp only at hw
    cases e2 : insAt st dy with
    | none => rw [e2] at hw; exact False.elim hw
    | some z =>
      obtain ⟨c', fs, ds⟩ := z
      rw [e2] at hw
      simp only at hw
      by_cases hc : c' = c
      · rw [if_pos hc] at hw
        subst hc
        obtain ⟨n, a, dx', vs, rfl, rfl, ea, C, F⟩ := ms_of r1 so hm e
        obtain ⟨n2, b, dy', ws, rfl, rfl, _, _, eb, _, _⟩ := ins_of r2 so e2
        obtain ⟨f, G, hme, hf⟩ := F.ex
        obtain ⟨mA, O, _⟩ := ins_get I.hok ea
        obtain ⟨od, J, _⟩ := O.look
        obtain ⟨mB, O2, _⟩ := ins_get I.hok eb
        obtain ⟨od2, J2, _⟩ := O2.look
        obtain ⟨mm, hF⟩ := I.fr
        cases (show v = Value.ref a from rx)
        cases (show u = Value.ref b from ry)
        rw [hop]
        have hnf : PySem.W.notFirst X.K (He.ga X.K c') (.ref (He.ga X.K c')) = true := by
          unfold PySem.W.notFirst
          rw [beq_self_eq_true, Bool.true_or]
        refine PySem.W.cmp_K (op := op) (tb := .ref (He.ga X.K c')) ck.room.units0 hF I.ok.mod.kin J J2.type hnf (by rw [hn]; exact hme.at_) hme.fn ?_
        refine wpAny_mono (run_R (us := [.ref a, .ref b]) (vs := [.ref a, .ref b]) ck G hj I (.cons rfl (.cons rfl .nil)) (spD_of (ds := [.ref n, .ref n2]) rfl so ⟨_, _, rfl, r1, _, _, rfl, r2, rfl⟩ hw)) (fun w s' z => ?_) fun _ _ x => x
        obtain ⟨z', H', I', rz, qz⟩ := z
        exact SlX.cmpback rz ⟨z', H', I', rz, qz⟩
      · rw [if_neg hc] at hw; exact False.elim hw
/-- & and | of instances of one class -/
theorem od_ownB {op : Operator} {q : D → D → M D} {x : Str} (hn : PySem.dunder op.info.2 = x) (ck : Cok X E k) (hm : MsOk X.prog X.w X.K X.mg X.base j x 2 ms) (hj : j ≤ k) (hq : OpD X E (binaryOp op) q) : OpD X E (binaryOp op) (opO ms q) := by
  intro pins s σ H x y v u Q I rx ry h
  obtain ⟨dx, dy, o, st, r1, r2, so, hw⟩ := h
  unfold opO at hw
  cases e : msAt ms st dx with
  | none =>
    rw [e] at hw
    exact hq pins s σ H x y v u Q I rx ry ⟨dx, dy, o, st, r1, r2, so, hw⟩
  | some z =>
    obtain ⟨c, p⟩ := z
    rw [e] at hw
    simp only at hw
    cases e2 : insAt st dy with
    | none => rw [e2] at hw; exact False.elim hw
    | some z =>
      obtain ⟨c', fs, ds⟩ := z
      rw [e2] at hw
      simp only at hw
      by_cases hc : c' = c
      · rw [if_pos hc] at hw
        subst hc
        obtain ⟨n, a, dx', vs, rfl, rfl, ea, C, F⟩ := ms_of r1 so hm e
        obtain ⟨n2, b, dy', ws, rfl, rfl, _, _, eb, _, _⟩ := ins_of r2 so e2
        obtain ⟨f, G, hme, hf⟩ := F.ex
        obtain ⟨mA, O, _⟩ := ins_get I.hok ea
        obtain ⟨od, J, _⟩ := O.look
        obtain ⟨mB, O2, _⟩ := ins_get I.hok eb
        obtain ⟨od2, J2, _⟩ := O2.look
        obtain ⟨mm, hF⟩ := I.fr
        cases (show v = Value.ref a from rx)
        cases (show u = Value.ref b from ry)
        refine PySem.W.binop_K (op := op) hF I.ok.mod.kin J J2.type C.sf (by rw [hn]; exact hme.at_) hme.fn ?_
        refine wpAny_mono (run_R (us := [.ref a, .ref b]) (vs := [.ref a, .ref b]) ck G hj I (.cons rfl (.cons rfl .nil)) (spD_of (ds := [.ref n, .ref n2]) rfl so ⟨_, _, rfl, r1, _, _, rfl, r2, rfl⟩ hw)) (fun w s' z => ?_) fun _ _ x => x
        obtain ⟨z', H', I', rz, qz⟩ := z
        exact SlX.cmpback rz ⟨z', H', I', rz, qz⟩
      · rw [if_neg hc] at hw; exact False.elim hw
theorem od_none {f : Value → Value → Sem Value} : OpD X E f (fun _ _ => M.stuck) := by
  intro pins s σ H x y v u Q I rx ry h
  obtain ⟨_, _, _, _, _, _, _, hw⟩ := h
  exact False.elim hw
/-- ~x -/
def unO (ms : Ms) : D → M D := fun x st => match msAt ms st x with
  | some (_, p) => p [x] st
  | none => .stuck
theorem ud_inv (ck : Cok X E k) (hm : MsOk X.prog X.w X.K X.mg X.base j "__invert__" 1 ms) (hj : j ≤ k) : UnD X E (unaryOp .Invert) (unO ms) := by
  intro pins s σ H x v Q I rx h
  obtain ⟨dx, o, st, r1, so, hw⟩ := h
  unfold unO at hw
  cases e : msAt ms st dx with
  | none => rw [e] at hw; exact False.elim hw
  | some z =>
    obtain ⟨c, p⟩ := z
    rw [e] at hw
    obtain ⟨n, a, dx', vs, rfl, rfl, ea, C, F⟩ := ms_of r1 so hm e
    obtain ⟨f, G, hme, hf⟩ := F.ex
    obtain ⟨mA, O, _⟩ := ins_get I.hok ea
    obtain ⟨od, J, _⟩ := O.look
    obtain ⟨mm, hF⟩ := I.fr
    cases (show v = Value.ref a from rx)
    exact PySem.W.ksp_inv hF I.ok.mod.kin J hme.at_ hme.fn (run_R (us := [.ref a]) (vs := [.ref a]) ck G hj I (.cons rfl .nil) (spD_of rfl so (Reps.one r1) hw))
/-- str(x) -/
def strOnly (d : D) : M D := match d with
  | .str s => pure (.str s)
  | _ => M.stuck
def strO (ms : Ms) (q : List D → M D) : List D → M D := fun xs st => match xs with
  | [x] => (match msAt ms st x with
    | some (_, p) => (p [x] >>= strOnly) st
    | none => q [x] st)
  | _ => q xs st
theorem cd_strO {q : List D → M D} (ck : Cok X E k) (hm : MsOk X.prog X.w X.K X.mg X.base j "__str__" 1 ms) (hj : j + 2 ≤ k) (hq : CallD X E (.type "str") q) : CallD X E (.type "str") (strO ms q) := by
  intro pins s σ H xs us Q I rx h
  obtain ⟨ds, o, st, r1, so, hw⟩ := h
  match ds, r1, hw with
  | [], r1, hw => exact hq pins s σ H xs us Q I rx ⟨[], o, st, r1, so, hw⟩
  | a :: b :: r, r1, hw => exact hq pins s σ H xs us Q I rx ⟨a :: b :: r, o, st, r1, so, hw⟩
  | [x], r1, hw =>
    have hw' : wpR ((match msAt ms st x with | some (_, p) => (p [x] >>= strOnly) st | none => q [x] st)) (VOk X.K H o Q) (XOk X.K E H o) := hw
    cases e : msAt ms st x with
    | none => rw [e] at hw'; exact hq pins s σ H xs us Q I rx ⟨[x], o, st, r1, so, hw'⟩
    | some z =>
      obtain ⟨c, p⟩ := z
      rw [e] at hw'
      obtain ⟨v, rfl, rv⟩ := r1.one_of
      obtain ⟨n, a, dx', vs, rfl, rfl, ea, C, F⟩ := ms_of rv so hm e
      obtain ⟨f, G, hme, hf⟩ := F.ex
      obtain ⟨mA, O, _⟩ := ins_get I.hok ea
      obtain ⟨od, J, _⟩ := O.look
      obtain ⟨u, rfl, ru⟩ := rx.one
      cases (show u = Value.ref a from ru)
      have hr2 : Room j X.A.in1.in1 := (show Room (j + 1) X.A.in1 from (show Room (j + 2) X.A from ck.room.mono hj).in1).in1
      have hw2 : spD X.K 1 p [V.ref a] H (fun z H' => ∃ t, z = .str t ∧ Q z H') E := spD_of rfl so (Reps.one rv) ((wpR.bind.mp hw').mono (fun d st1 h1 v1 H1 o1 l1 s1 r1 => by
        cases d with
        | str t => exact ⟨t, r1, (show VOk X.K H o Q (.str t) st1 from h1) v1 H1 o1 l1 s1 r1⟩
        | _ => exact False.elim h1) fun _ _ x => x)
      refine PySem.W.kso_call (A := X.A) hr2.units0 I.kIn J hme.at_ hme.fn (wpAny_mono (wpAny_call (SlX.run_at (us := [.ref a]) (ws := [.ref a]) G hr2 I.env0.in1.in1 ck.pass I (.cons rfl .nil) hw2)) (fun w s' z => ?_) fun _ _ x => x)
      obtain ⟨z', H', I', rz, t, et, qz⟩ := z
      subst et
      obtain ⟨t', e'⟩ := (show ∃ t', w = Value.str t t' from rz)
      cases e'
      exact ⟨.str t, H', I', ⟨t', rfl⟩, qz⟩
end
end MP

namespace MP
open PySem L2
open PySem.Spec PyProof.Rows
/-! ## facts of classes behind the top -/
/-- a def at an address -/
structure DnA (K : Frag) (f : Addr) (x qual : Str) (params : Arguments) (body : List Stmt) (scope : Scope) (ps : List Str) : Prop where
  ex : ∃ fd, FunD K x qual params body scope [] [] f fd ∧ Binds K fd ps []
section
variable {P : Program} {w : World} {K : Frag} {mg : Str → Option Value} {base : Heap} {N ps : List Str} {x qual c m : Str} {params : Arguments} {body : List Stmt} {scope : Scope} {f : Addr} {k np : Nat} {p : List D → M D} {h : Heap}
theorem DnA.fnR {mm : DenS} (d : DnA K f x qual params body scope ps) (S : FnScope N ps scope) (hnp : ps.length = np)
    (h : ∀ (f : Addr) (cdv : Value) (A : Around) (outer : List PySem.Env) (s : Shared) (H : Hp) (E : XK), Cok (CF P w K mg base N qual scope f cdv A outer s H E) E k → PDSs (CF P w K mg base N qual scope f cdv A outer s H E) E body mm) :
    FnR P w K mg base (L2.CX P w) (k + 1) f (spD K np (runDef N.length mm)) := by
  obtain ⟨fd, F, b⟩ := d.ex
  refine ((fn_ok F S hnp (h f)).raw b .nil).imp fun vs H Q E hq => ?_
  rw [List.append_nil]
  exact hq
theorem dnA_of {fa : List He.Fa} {fn : List He.DefD} {ts : List He.Tab} {tt : List (Frag → Bool)} {da : List He5.DefA} {at_ : Frag → Addr} (s : SaysM fa fn ts tt da w K) (i : Nat) (hf : da[i]? = some ⟨at_, x, qual, params, body, scope, [], []⟩)
    (hb : ∀ (kV doc pm : Value) (an : Option Addr) (cdv ct : Value) (us : List Value), us.length = ps.length → bindArgs (PySem.W.fnOf x qual params body scope .none kV doc pm an cdv ct) ⟨us, []⟩ = pure (ps.zip us)) : DnA K (at_ K) x qual params body scope ps := by
  obtain ⟨fd, F⟩ := s.defA i hf
  exact ⟨fd, F, F.bindsN hb⟩
theorem clsF_of (h1 : (He.Fa.cls c).ok K = true) (h2 : clsB c K = true) : ClsF K c := by
  unfold clsB at h2
  simp only [Bool.and_eq_true, decide_eq_true_eq] at h2
  obtain ⟨a, b, d, e, f, g, i, j⟩ := h2
  exact ⟨He.cls_ok h1, a, b, d, e, f, g, i, fun t ht => of_decide_eq_true (List.all_eq_true.mp j t ht)⟩
theorem calM_of (h1 : (He.Fa.meth c m).ok K = true) (h2 : methB c m K = true) (F : FnR P w K mg base (L2.CX P w) k (He.ma K (He.ga K c) m) (spD K np p)) : CalM P w K mg base k c m np p := ⟨_, F, He.meth_ok h1, h2⟩
theorem mkC_of (X : K.In h) (G : h.Ns mainGlobals mg) (g : (He.Fa.glo c).ok K = true) (h1 : (He.Fa.mkr c).ok K = true) (F : FnR P w K mg base (L2.CX P w) k (He.ma K (He.ga K c) "__init__") (spD K np p)) : MkC P w K mg base k c np p := ⟨⟨_, F, He.mkr_ok h1⟩, He.glo_ok X G g⟩
theorem calP_of (h1 : propB c m K = true) (F : FnR P w K mg base (L2.CX P w) k (He5.wf K (He.ga K c) "property" m) (spD K 1 p)) : CalP P w K mg base k c m p := by
  unfold propB at h1
  simp only [Bool.and_eq_true, decide_eq_true_eq] at h1
  obtain ⟨a, b, d, e⟩ := h1
  refine ⟨_, _, F, a, b, d, ?_⟩
  unfold He5.wf
  split at e
  · rename_i f r q
    exact ⟨r, by rw [q]⟩
  · cases e
theorem calC_of (X : K.In h) (G : h.Ns mainGlobals mg) (g : (He.Fa.glo c).ok K = true) (h1 : cmetB c m K = true) (F : FnR P w K mg base (L2.CX P w) k (He5.wf K (He.ga K c) "classmethod" m) (spD K np p)) : CalC P w K mg base k c m np p := by
  unfold cmetB at h1
  simp only [Bool.and_eq_true, decide_eq_true_eq] at h1
  obtain ⟨a, b, d, e⟩ := h1
  exact ⟨⟨.type "type", _, _, F, ⟨d, e⟩, He5.cmet_of a b⟩, He.glo_ok X G g⟩
end
end MP

namespace MP
open PySem L2
open PySem.Spec PyProof.Rows
/-! ## operators of a class that is known -/
abbrev nonO : D → D → M D := fun _ _ => M.stuck
def opC (c : Str) (p : List D → M D) : D → D → M D := opO [(c, p)] nonO
def unC (c : Str) (p : List D → M D) : D → M D := unO [(c, p)]
def strC (c : Str) (p : List D → M D) : List D → M D := strO [(c, p)] fun _ => M.stuck
def m1C (c : Str) (p : List D → M D) (xs : List D) : M D := fun st => match xs with
  | [x] => (match msAt [(c, p)] st x with
    | some (_, p) => p [x] st
    | none => .stuck)
  | _ => .stuck
/-- a length -/
def lenOnly (d : D) : M D := match d with
  | .int i => bif decide (0 ≤ i ∧ i < 1000000) then pure (.int i) else M.stuck
  | _ => M.stuck
def lenC (c : Str) (p : List D → M D) : List D → M D := fun xs => m1C c p xs >>= lenOnly
def boolOnly (d : D) : M D := match d with
  | .bl b => pure (.bl b)
  | _ => M.stuck
def boolC (c : Str) (p : List D → M D) : List D → M D := fun xs => m1C c p xs >>= boolOnly
def dCallO (c : Str) (np : Nat) (p : List D → M D) (fo : Den) (fs : DenL) : Den := fun ρ => fo ρ >>= fun x => insC1 c x >>= fun _ => fs ρ >>= fun ds => insC1 c x >>= fun _ => arity np p (x :: ds)
section
variable {K : Frag} {E : XK} {H H' : Hp} {o o' : Lo} {st : Store} {X : Cx} {k j : Nat} {c m : Str} {np : Nat} {p : List D → M D}
theorem od_cmpC {op : CmpOp} {x : Str} (hop : ∀ a b, compareOp op a b = richCompare op a b) (hn : (cmpInfo op).2.1 = x) (ck : Cok X E k) (C : ClsF X.K c) (F : CalM X.prog X.w X.K X.mg X.base j c x 2 p) (hj : j ≤ k) : OpD X E (compareOp op) (opC c p) :=
  od_own hop hn ck (.cons C F .nil) hj od_none
theorem od_binC {op : Operator} {x : Str} (hn : PySem.dunder op.info.2 = x) (ck : Cok X E k) (C : ClsF X.K c) (F : CalM X.prog X.w X.K X.mg X.base j c x 2 p) (hj : j ≤ k) : OpD X E (binaryOp op) (opC c p) :=
  od_ownB hn ck (.cons C F .nil) hj od_none
theorem ud_invC (ck : Cok X E k) (C : ClsF X.K c) (F : CalM X.prog X.w X.K X.mg X.base j c "__invert__" 1 p) (hj : j ≤ k) : UnD X E (unaryOp .Invert) (unC c p) := ud_inv ck (.cons C F .nil) hj
theorem cd_none {f : Value} : CallD X E f (fun _ => M.stuck) := by
  intro pins s σ H xs us Q I r h
  obtain ⟨_, _, _, _, _, hw⟩ := h
  exact False.elim hw
theorem cd_strC (ck : Cok X E k) (C : ClsF X.K c) (F : CalM X.prog X.w X.K X.mg X.base j c "__str__" 1 p) (hj : j + 2 ≤ k) : CallD X E (.type "str") (strC c p) := cd_strO ck (.cons C F .nil) hj cd_none
theorem m1C_wp {xs : List D} {Q : D → Store → Prop} {Z : Exn → Store → Prop} (h : wpR (m1C c p xs st) Q Z) : ∃ x q, xs = [x] ∧ msAt [(c, p)] st x = some q ∧ wpR (q.2 [x] st) Q Z := by
  unfold m1C at h
  match xs, h with
  | [], h => exact False.elim h
  | _ :: _ :: _, h => exact False.elim h
  | [x], h =>
    have h' : wpR (match msAt [(c, p)] st x with | some (_, p) => p [x] st | none => .stuck) Q Z := h
    cases e : msAt [(c, p)] st x with
    | none => rw [e] at h'; exact False.elim h'
    | some q => rw [e] at h'; exact ⟨x, q, rfl, e, h'⟩
theorem cd_lenC (ck : Cok X E k) (C : ClsF X.K c) (F : CalM X.prog X.w X.K X.mg X.base j c "__len__" 1 p) (hj : j + 1 ≤ k) : CallD X E (.builtin "len") (lenC c p) := by
  intro pins s σ H xs us Q I rx h
  obtain ⟨ds, o, st, r1, so, hw⟩ := h
  obtain ⟨x, ⟨c', p'⟩, rfl, e, hw1⟩ := m1C_wp (wpR.bind.mp hw)
  obtain ⟨v, rfl, rv⟩ := r1.one_of
  obtain ⟨n, a, dx', vs, rfl, rfl, ea, C', F'⟩ := ms_of rv so (MsOk.cons C F .nil) e
  obtain ⟨f, G, hme, hf⟩ := F'.ex
  obtain ⟨mA, O, _⟩ := ins_get I.hok ea
  obtain ⟨od, J, _⟩ := O.look
  obtain ⟨mm, hF⟩ := I.fr
  obtain ⟨u, rfl, ru⟩ := rx.one
  cases (show u = Value.ref a from ru)
  have hr1 : Room j X.A.in1 := (show Room (j + 1) X.A from ck.room.mono hj).in1
  have hw2 : spD X.K 1 p' [V.ref a] H (fun z H' => ∃ i, z = .int i ∧ (0 ≤ i ∧ i < 1000000) ∧ Q z H') E := spD_of rfl so (Reps.one rv) (hw1.mono (fun d st1 h1 v1 H1 o1 l1 s1 r1 => by
    cases d with
    | int i =>
      have h2 : wpR ((bif decide (0 ≤ i ∧ i < 1000000) then (pure (.int i) : M D) else M.stuck) st1) (VOk X.K H o Q) (XOk X.K E H o) := h1
      cases q : decide (0 ≤ i ∧ i < 1000000) with
      | false => rw [q] at h2; exact False.elim h2
      | true =>
        rw [q] at h2
        exact ⟨i, r1, of_decide_eq_true q, (show VOk X.K H o Q (.int i) st1 from h2) v1 H1 o1 l1 s1 r1⟩
    | _ => exact False.elim h1) fun _ _ x => x)
  refine PySem.W.len_K hF I.ok.mod.kin J hme.at_ hme.fn (wpAny_mono (wpAny_call (SlX.run_at (us := [.ref a]) (ws := [.ref a]) G hr1 I.env0.in1 ck.pass I (.cons rfl .nil) hw2)) (fun w s' z => ?_) fun _ _ x => x)
  obtain ⟨z', H', I', rz, i, ei, hi, qz⟩ := z
  subst ei
  obtain ⟨t', e'⟩ := (show ∃ t', w = Value.int i t' from rz)
  cases e'
  exact ⟨⟨hi.1, by have := hi.2; omega⟩, .int i, H', I'.tok _, ⟨_, rfl⟩, qz⟩
/-- o(..) -/
theorem pd_callO {fo : Den} {fs : DenL} {fe e : Expr} {es : List Expr} {pos : Pos} (ck : Cok X E k) (C : ClsF X.K c) (F : CalM X.prog X.w X.K X.mg X.base j c "__call__" np p) (hj : j ≤ k) (hf : PD X E fe fo) (ha : PL X E (e :: es) fs)
    (ht : eval (.Call fe (e :: es) [] pos) X.env = (do callWith pos (← eval fe X.env) [] (backTo pos (starEach (e :: es) X.env)) (backToKw pos (keywordEach [] X.env))))
    (he : starEach (e :: es) X.env = (false, eval e X.env) :: starEach es X.env) (hpl : (backTo pos (starEach es X.env)).any (·.1) = false) : PD X E (.Call fe (e :: es) [] pos) (dCallO c np p fo fs) := by
  obtain ⟨f, G, hme, hfi⟩ := F.ex
  refine PE.imp (StX.pe_callO (C := He.ga X.K c) hf ⟨hme.at_, hme.fn, hfi⟩ G (ck.room.mono hj) ck.pass ha ht he hpl) fun σ H Q h => ?_
  obtain ⟨o, ρ, st, he, so, h⟩ := h
  refine ⟨o, ρ, st, he, so, (wpR.bind.mp h).mono (fun x st1 h1 v H1 o1 l1 s1 r1 => ?_) fun _ _ z => z⟩
  obtain ⟨gs0, ds0, e0, h1⟩ := insC1_wp (wpR.bind.mp h1)
  obtain ⟨n, rfl⟩ : ∃ n, x = .ref n := by
    cases x with
    | ref n => exact ⟨n, rfl⟩
    | _ => cases e0
  obtain ⟨a, rfl, hra⟩ := id r1
  refine ⟨a, rfl, o1, ρ, st1, he.mono l1.rep, s1, (wpR.bind.mp h1).mono (fun ds st2 h2 ws H2 o2 l2 s2 r2 => ?_) fun _ _ z => z.mono l1⟩
  obtain ⟨gs, ds', e1, h3⟩ := insC1_wp (wpR.bind.mp h2)
  have r1' := Rep.mono l2 _ _ r1
  obtain ⟨n', a', dx, vs, en, ea, _, _, e3, _, _⟩ := ins_of r1' s2 e1
  cases ea
  refine ⟨.inr ⟨dx, vs, e3⟩, ?_⟩
  have h4 : wpR ((bif (D.ref n :: ds).length == np then p (.ref n :: ds) else M.stuck) st2) (VOk X.K H o Q) (XOk X.K E H o) := h3
  cases q : (D.ref n :: ds).length == np with
  | false => rw [q] at h4; exact False.elim h4
  | true =>
    rw [q] at h4
    exact spD_of (eq_of_beq q) s2 ⟨.ref a, ws, rfl, r1', r2⟩ (wpR.mono h4 (fun _ _ x => x.mono (l1.trans l2)) fun _ _ x => x.mono (l1.trans l2))
/-! ### isinstance(x, C) -/
def opIsC (c : Str) (d : D) : M D := fun st => match insAt st d with
  | some (c', _, _) => if c' = c then .ok (.bl true) st else .stuck
  | none => (match tyName d with
    | some _ => .ok (.bl false) st
    | none => .stuck)
theorem tyName_in {d : D} {t : String} (e : tyName d = some t) : t ∈ (["NoneType", "bool", "int", "str", "tuple", "list", "dict"] : List String) := by
  cases d <;> cases e <;> decide
theorem pd_isC {e : Expr} {p p1 pos : Pos} {x : Str} {f : Den} (C : ClsF X.K c) (hg : Gl X x) (hm : X.mg x = none) (hv : bootBuiltins x = some (.builtin "isinstance")) (hg2 : Gl X c) (hm2 : X.mg c = some (.ref (He.ga X.K c)))
    (he : PD X E e f) (hn : x ≠ "__name__") (hdb : (x == ("__debug__" : Str)) = false) (hdb2 : (c == ("__debug__" : Str)) = false)
    (hs : ∀ es, starEach (e :: es) X.env = (false, eval e X.env) :: starEach es X.env) : PD X E (.Call (.Name x p) [e, .Name c p1] [] pos) (fun ρ => f ρ >>= opIsC c) := by
  refine PE.imp (pe_callB call_isi hg hm hv (pa_cons he (pa_cons (pe_glob (v := .ref (He.ga X.K c)) hg2 hm2 rfl hdb2) pa_nil) (hs _)) hn hdb (hs _) rfl) fun σ H Q h => ?_
  obtain ⟨o, ρ, st, he, hs, h⟩ := h
  refine ⟨o, ρ, st, he, hs, ?_⟩
  refine (wpR.bind.mp h).mono (fun d st1 h1 v H1 o1 l s1 r => ?_) fun _ _ x => x
  unfold opIsC at h1
  cases q : insAt st1 d with
  | none =>
    rw [q] at h1
    simp only at h1
    cases q2 : tyName d with
    | none => rw [q2] at h1; exact False.elim h1
    | some t =>
      rw [q2] at h1
      exact ⟨v, .ref (He.ga X.K c), .type t, .ref (He.ga X.K c), false, rfl, .own _, r.ty q2, C.no t (tyName_in q2), (show VOk X.K H o Q (.bl false) st1 from h1) _ H1 o1 l s1 rfl⟩
  | some z =>
    obtain ⟨c', fs, ds⟩ := z
    rw [q] at h1
    simp only at h1
    by_cases hc : c' = c
    · rw [if_pos hc] at h1
      subst hc
      obtain ⟨n, a, dx, vs, rfl, rfl, _, _, e3, e4, _⟩ := ins_of r s1 q
      exact ⟨.ref a, .ref (He.ga X.K c'), .ref (He.ga X.K c'), .ref (He.ga X.K c'), true, rfl, .own _, .base (TyOf.ins e3 C.cl C.ha C.hn C.htk C.hm), C.me, (show VOk X.K H o Q (.bl true) st1 from h1) _ H1 o1 l s1 rfl⟩
    · rw [if_neg hc] at h1; exact False.elim h1
/-! ### bool(x) -/
theorem bool_K {prog : Program} {w : World} {A : Around} {E : Value → Shared → Prop} {s : Shared} {K : Frag} {x C L f : Addr} {h₀ : Heap} {m : Str → Option Value} {ox : Obj} {od : Option Obj} {Q : Value → Shared → Prop} (F : Fr h₀ L s.heap m) (X₀ : K.In h₀) (I : PySem.W.InstAt s.heap x ox C od)
    (hs : PySem.W.findIn K (.ref C) "__bool__" = some (some (.ref f))) (hf : PySem.W.isFn K (.ref f) = true)
    (h : wpAny (model prog w) A.in1.in1 (call (.ref f) [.ref x]) (PySem.W.BoolBack fun b s => Q (.bool b) s) E s) : wpAny (model prog w) A (call (.type "bool") [.ref x]) Q E s := by
  refine callType_codes (T := "bool") (Bi := Builtin.«object.__init__») (Q₁ := fun r s₁ => ∃ b, r = .bool b ∧ Q r s₁) PySem.F.called_bool (PySem.F.typeCall_bool_1 _) PySem.F.entry_object_init ?_ ?_
  · refine codeAny_of_tree ?_
    show wpAny _ A.in1.in1 (do checkBuiltinCall "bool.__new__" ⟨[.type "bool", .ref x], []⟩; again (.builtin "bool.__new__" ⟨[.type "bool", .ref x], []⟩)) _ _ s
    refine wpAny_bind (wpAny_of_eq (PySem.F.newCall_bool_1 _) (wpAny_pure ⟨plainId_quiet (by decide +kernel) _, codeAny_builtin PySem.F.entry_bool_new ?_⟩))
    rw [Around.under_plainId (by decide +kernel) _]
    unfold Builtin.«bool.__new__»
    refine wpAny_bind (wpAny_of_eq (a := true) rfl ?_)
    refine PySem.W.KFB.if_not rfl ?_
    refine wpAny_bind (wpAny_of_eq (a := true) PySem.F.conv_sub_bool ?_)
    refine PySem.W.KFB.if_not rfl ?_
    refine wpAny_bind (wpAny_of_eq (a := [.ref x]) rfl ?_)
    refine wpAny_bind (PySem.W.truthy_K F X₀ I hs hf (wpAny_mono h (fun r s' hr => ?_) fun _ _ y => y))
    cases r <;> first | exact hr.elim | skip
    exact wpAny_pure ⟨_, rfl, hr⟩
  · rintro obj s₁ ⟨b, rfl, hq⟩
    exact ⟨PySem.typeIs_bool _ _, PySem.F.args_object_init_2 _ _, object_init_meets PySem.F.called_bool.init.lookup PySem.F.called_bool.made (by decide) prog w A.in1 _ s₁ ⟨PySem.typeIs_bool _ _, rfl, hq⟩⟩
theorem cd_boolC (ck : Cok X E k) (C : ClsF X.K c) (F : CalM X.prog X.w X.K X.mg X.base j c "__bool__" 1 p) (hj : j + 2 ≤ k) : CallD X E (.type "bool") (boolC c p) := by
  intro pins s σ H xs us Q I rx h
  obtain ⟨ds, o, st, r1, so, hw⟩ := h
  obtain ⟨x, ⟨c', p'⟩, rfl, e, hw1⟩ := m1C_wp (wpR.bind.mp hw)
  obtain ⟨v, rfl, rv⟩ := r1.one_of
  obtain ⟨n, a, dx', vs, rfl, rfl, ea, C', F'⟩ := ms_of rv so (MsOk.cons C F .nil) e
  obtain ⟨f, G, hme, hf⟩ := F'.ex
  obtain ⟨mA, O, _⟩ := ins_get I.hok ea
  obtain ⟨od, J, _⟩ := O.look
  obtain ⟨mm, hF⟩ := I.fr
  obtain ⟨u, rfl, ru⟩ := rx.one
  cases (show u = Value.ref a from ru)
  have hr2 : Room j X.A.in1.in1 := (show Room (j + 1) X.A.in1 from (show Room (j + 2) X.A from ck.room.mono hj).in1).in1
  have hw2 : spD X.K 1 p' [V.ref a] H (fun z H' => ∃ b, z = .bl b ∧ Q z H') E := spD_of rfl so (Reps.one rv) (hw1.mono (fun d st1 h1 v1 H1 o1 l1 s1 r1 => by
    cases d with
    | bl b => exact ⟨b, r1, (show VOk X.K H o Q (.bl b) st1 from h1) v1 H1 o1 l1 s1 r1⟩
    | _ => exact False.elim h1) fun _ _ x => x)
  refine bool_K hF I.ok.mod.kin J hme.at_ hme.fn (wpAny_mono (wpAny_call (SlX.run_at (us := [.ref a]) (ws := [.ref a]) G hr2 I.env0.in1.in1 ck.pass I (.cons rfl .nil) hw2)) (fun w s' z => ?_) fun _ _ x => x)
  obtain ⟨z', H', I', rz, b, eb, qz⟩ := z
  subst eb
  cases (show w = Value.bool b from rz)
  exact ⟨.bl b, H', I', rfl, qz⟩
/-! ### x[i], x[i] = v -/
def ixC (c : Str) (p : List D → M D) : D → D → M D := fun x y st => match msAt [(c, p)] st x with
  | some (_, p) => p [x, y] st
  | none => .stuck
theorem pd_ixC {a b : Expr} {fa fb : Den} {pos : Pos} (ck : Cok X E k) (C : ClsF X.K c) (F : CalM X.prog X.w X.K X.mg X.base j c "__getitem__" 2 p) (hj : j + 1 ≤ k) (ha : PD X E a fa) (hb : PD X E b fb)
    (hsl : ∀ o i, subscripted b true o i = runValue (.builtin "lifetime.subscript" ⟨[o, i], []⟩)) : PD X E (.Subscript a b pos) (fun ρ => fa ρ >>= fun x => fb ρ >>= fun y => ixC c p x y) := by
  refine PE.imp (t := tOp (rTwo X.K E (ixC c p)) (tD X.K E fa) (tD X.K E fb)) ⟨fun pins s σ H Q I h => ?_⟩ fun _ _ _ h => tD_two h
  refine Subscript_ (binT ha hb I h fun v u s2 x y H2 I2 rx ry q => ?_)
  obtain ⟨dx, dy, o, st, r1, r2, so, hw⟩ := q
  unfold ixC at hw
  cases e : msAt [(c, p)] st dx with
  | none => rw [e] at hw; exact False.elim hw
  | some z =>
    obtain ⟨c', p'⟩ := z
    rw [e] at hw
    obtain ⟨n, a, dx', vs, rfl, rfl, ea, C', F'⟩ := ms_of r1 so (MsOk.cons C F .nil) e
    obtain ⟨f, G, hme, hf⟩ := F'.ex
    obtain ⟨mA, O, _⟩ := ins_get I2.hok ea
    obtain ⟨od, J, _⟩ := O.look
    obtain ⟨mm, hF⟩ := I2.fr
    cases (show v = Value.ref a from rx)
    have hr1 : Room j X.A.in1 := (show Room (j + 1) X.A from ck.room.mono hj).in1
    exact PySem.W.sub_K hF I2.ok.mod.kin J hme.at_ hf hme.fn (wpAny_call (SlX.run_at (us := [.ref a, u]) (ws := [.ref a, y]) G hr1 I2.env0.in1 ck.pass I2 (.cons rfl (.cons ry .nil)) (spD_of (ds := [.ref n, dy]) rfl so ⟨_, _, rfl, r1, _, _, rfl, r2, rfl⟩ hw))) (hsl _ _)
def setC (c : Str) (p : List D → M D) (x i v : D) : M Unit := fun st => match msAt [(c, p)] st x with
  | some (_, p) => (match p [x, i, v] st with
    | .ok _ st' => .ok () st'
    | .exn e st' => .exn e st'
    | .stuck => .stuck)
  | none => .stuck
def gSubC (c : Str) (p : List D → M D) (fo fi : Den) : DenG := fun d ρ => fo ρ >>= fun x => fi ρ >>= fun i => setC c p x i d >>= fun _ => pure ρ
theorem dg_setC {a i : Expr} {fo fi : Den} {pos : Pos} (ck : Cok X E k) (C : ClsF X.K c) (F : CalM X.prog X.w X.K X.mg X.base j c "__setitem__" 3 p) (hj : j ≤ k) (ho : PD X E a fo) (hi : PD X E i fi)
    (ha : ∀ v, assign (.Subscript a i pos) X.env v = (do
      let ov ← holding [v] (eval a X.env)
      let iv ← holding [v, ov] (eval i X.env)
      standAt pos
      holding [v, ov, iv] (setItem ov iv v)
      release [v, ov, iv] [])) : PDG X E (.Subscript a i pos) (gSubC c p fo fi) := by
  refine PG.imp (pg_sub (t := fun x i v H Q => ∃ o st dx di dv, Rep X.K H o dx x ∧ Rep X.K H o di i ∧ Rep X.K H o dv v ∧ StOk X.K H o st ∧ wpR (setC c p dx di dv st) (UOk X.K H o Q) (XOk X.K E H o)) ho hi (fun pins s σ H x i v ov iv u Q I ro ri rv h => ?_) ha) fun v σ H Q h => ?_
  · obtain ⟨o, st, dx, di, dv, r1, r2, r3, so, hw⟩ := h
    unfold setC at hw
    cases e : msAt [(c, p)] st dx with
    | none => rw [e] at hw; exact False.elim hw
    | some z =>
      obtain ⟨c', p'⟩ := z
      rw [e] at hw
      obtain ⟨n, a, dx', vs, rfl, rfl, ea, C', F'⟩ := ms_of r1 so (MsOk.cons C F .nil) e
      obtain ⟨f, G, hme, hf⟩ := F'.ex
      obtain ⟨mA, O, _⟩ := ins_get I.hok ea
      obtain ⟨od, J, _⟩ := O.look
      obtain ⟨mm, hF⟩ := I.fr
      cases (show ov = Value.ref a from ro)
      have hw2 : wpR (p' [.ref n, di, dv] st) (VOk X.K H o fun _ H' => Q H') (XOk X.K E H o) := by
        have hw3 : wpR (match p' [.ref n, di, dv] st with | .ok _ st' => R.ok () st' | .exn e st' => .exn e st' | .stuck => .stuck) (UOk X.K H o Q) (XOk X.K E H o) := hw
        cases q : p' [.ref n, di, dv] st with
        | ok d st' => rw [q] at hw3; exact fun v H' o' l s' _ => (show UOk X.K H o Q () st' from hw3) H' o' l s'
        | exn e st' => rw [q] at hw3; exact hw3
        | stuck => rw [q] at hw3; exact hw3
      refine PySem.W.ksp_setItem hF I.ok.mod.kin J C'.ns hme.at_ hme.fn (wpAny_mono (run_R (us := [.ref a, iv, u]) (vs := [.ref a, i, v]) ck G hj I (.cons rfl (.cons ri (.cons rv .nil))) (spD_of (ds := [.ref n, di, dv]) rfl so ⟨_, _, rfl, r1, _, _, rfl, r2, _, _, rfl, r3, rfl⟩ hw2)) (fun w s' z => ?_) fun _ _ x => x)
      obtain ⟨z', H', I', _, qz⟩ := z
      exact ⟨H', I', qz⟩
  · obtain ⟨o, ρ, st, d, he, hs, r, h⟩ := h
    refine ⟨o, ρ, st, he, hs, ?_⟩
    refine (wpR.bind.mp h).mono (fun x st1 h1 vx H1 o1 l1 s1 r1 => ⟨o1, ρ, st1, he.mono l1.rep, s1, ?_⟩) fun _ _ x => x
    refine (wpR.bind.mp h1).mono (fun i st2 h2 vi H2 o2 l2 s2 r2 => ⟨o2, st2, x, i, d, Rep.mono l2 _ _ r1, r2, Rep.mono (l1.trans l2) _ _ r, s2, ?_⟩) fun _ _ x => x.mono l1
    have l12 := l1.trans l2
    refine wpR.mono (wpR.bind.mp h2) (fun u st3 h3 H3 o3 l3 s3 => ?_) fun _ _ x => x.mono l12
    exact (show EOk X.K H o Q ρ st3 from h3) σ H3 o3 (l12.trans l3) s3 (he.mono ((l12.trans l3).rep))
/-! ### W.index(x), W a tuple of texts of the module -/
def ixS (zs : List Str) (d : D) : M D := match d with
  | .str z => (match zs.findIdx? (· == z) with
    | some j => pure (.int j)
    | none => M.stuck)
  | _ => M.stuck
structure GTup (K : Frag) (mg : Str → Option Value) (x : Str) (zs : List Str) : Prop where
  ex : ∃ a o, mg x = some (.ref a) ∧ K.lookup a = some o ∧ o.cls = .type "tuple" ∧ o.dict = none ∧ ∀ H, SqT K H a (zs.map V.str)
theorem gtup_of {mg : Str → Option Value} {x : Str} {zs : List Str} {h : Heap} (X : K.In h) (G : h.Ns mainGlobals mg) (g : (He.Fa.glo x).ok K = true) (t : He.tupB K x (zs.map He.Dv.str) = true) (dn : noDict x K = true) : GTup K mg x zs := by
  have e : (zs.map He.Dv.str).map (He.Dv.v K) = zs.map V.str := by rw [List.map_map]; rfl
  unfold noDict at dn
  cases q : K.lookup (He.ga K x) with
  | none => rw [q] at dn; cases dn
  | some o =>
    rw [q] at dn
    have dn' : (decide (o.cls = .type "tuple") && o.dict.isNone) = true := dn
    rw [Bool.and_eq_true] at dn'
    refine ⟨_, o, He.glo_ok X G g, q, of_decide_eq_true dn'.1, Option.isNone_iff_eq_none.mp dn'.2, fun H => ?_⟩
    have s := He.tupB_ok t H
    rw [e] at s
    exact s
theorem pd_gindex {x : Str} {zs : List Str} {e : Expr} {f : Den} {p1 apos cpos : Pos} (hg : Gl X x) (G : GTup X.K X.mg x zs) (he : PD X E e f) (hdb : (x == ("__debug__" : Str)) = false)
    (hbase : attributeBase (.Name x p1) "index" X.env (eval (.Name x p1) X.env) = eval (.Name x p1) X.env)
    (hfew : ((backTo cpos (starEach [e] X.env)).all (fun x => !x.1) && (backToKw cpos (keywordEach [] X.env)).all (fun x => x.1.isSome)
      && decide ([e].length + ([] : List Keyword).length + (if ([] : List Keyword).isEmpty then 0 else 1) < 30)) = true)
    (hline : (apos.endLine == cpos.line) = true) (hs : starEach [e] X.env = (false, eval e X.env) :: starEach [] X.env) (hplain : (backTo cpos (starEach [] X.env)).any (·.1) = false) :
    PD X E (.Call (.Attribute (.Name x p1) "index" apos) [e] [] cpos) (fun ρ => f ρ >>= ixS zs) := by
  obtain ⟨a, o, hm, hk, hc, hd, hq⟩ := G.ex
  refine PE.imp (pe_bm PySem.F.plainAttrs_tuple PySem.F.slot_tuple_index PySem.F.type_tuple_index mt_tup_index (pe_glob (v := .ref a) hg hm rfl hdb) (pa_cons he pa_nil hs) hbase hfew hline hs hplain) fun σ H Q h => ?_
  obtain ⟨oo, ρ, st, he', hst, h⟩ := h
  refine ⟨.inr (.inl ⟨rfl, o, hk, hc, hd⟩), oo, ρ, st, he', hst, (wpR.bind.mp h).mono (fun d st1 h1 v H1 o1 l s1 r => ?_) fun _ _ x => x⟩
  cases d with
  | str z =>
    have h2 : wpR ((match zs.findIdx? (· == z) with | some j => (pure (.int j) : M D) | none => M.stuck) st1) (VOk X.K H oo Q) (XOk X.K E H oo) := h1
    cases q : zs.findIdx? (· == z) with
    | none => rw [q] at h2; exact False.elim h2
    | some j =>
      rw [q] at h2
      cases (show v = .str z from r)
      obtain ⟨hj, k1, k2⟩ := List.findIdx?_eq_some_iff_getElem.mp q
      refine ⟨a, zs, z, j, rfl, rfl, hq H1, ?_, fun m hm e => ?_, (show VOk X.K H oo Q (.int j) st1 from h2) _ H1 o1 l s1 rfl⟩
      · rw [List.getElem?_eq_getElem hj, eq_of_beq k1]
      · obtain ⟨hm', e'⟩ := List.getElem?_eq_some_iff.mp e
        exact k2 m hm (by rw [e']; exact beq_self_eq_true z)
  | _ => exact False.elim h1
end
end MP

namespace MP
open PySem L2
open PySem.Spec PyProof.Rows
/-! ## int(text) -/
def biIntS : D → M D
  | .str a => match PySem.intText? a with
    | some n => guardM (decide (a.length ≤ 640)) (pure (.int n))
    | none => M.stuck
  | d => biInt d
theorem cd_intS {X : Cx} {E : XK} : CallD X E (.type "int") (on1 biIntS) := cd_on1 fun pins s σ H v us Q d o st I r r1 so h => by
  cases d <;> first | exact False.elim h | skip
  · cases (show v = .bl _ from r1)
    exact call_int1 pins s σ H _ us Q I r (.inr ⟨_, rfl, ok_flat h so rfl⟩)
  · cases (show v = .int _ from r1)
    exact call_int1 pins s σ H _ us Q I r (.inl ⟨_, rfl, ok_flat h so rfl⟩)
  · cases (show v = .str _ from r1)
    rename_i a
    have h' : wpR ((match PySem.intText? a with | some n => guardM (decide (a.length ≤ 640)) (pure (.int n)) | none => M.stuck : M D) st) _ _ := h
    cases q : PySem.intText? a with
    | none => rw [q] at h'; exact False.elim h'
    | some n =>
      rw [q] at h'
      obtain ⟨hl, h'⟩ := guardM_wp h'
      exact call_int_str pins s σ H _ us Q I r ⟨_, _, rfl, q, of_decide_eq_true hl, ok_flat h' so rfl⟩
/-! ## running: instances -/
section
variable {α : Type} {st : Store} {n m : Nat} {c : Str} {fs : List Str} {ds : List D}
theorem insAt_ref (h : st[n]? = some (.ins c fs ds)) : insAt st (.ref n) = some (c, fs, ds) := by
  show insC st[n]? = _
  rw [h]; rfl
theorem t_fld {f : Str} {y : D} {Q : D → Store → Prop} (h : st[n]? = some (.ins c fs ds)) (hl : (fs.zip ds).lookup f = some y) : T (fldOf c f (.ref n)) st Q = Q y st := by
  unfold T fldOf
  rw [insAt_ref h]
  simp only [if_true]
  rw [hl]
  rfl
theorem t_insC1 {Q : Unit → Store → Prop} (h : st[n]? = some (.ins c fs ds)) : T (insC1 c (.ref n)) st Q = Q () st := by
  unfold T insC1
  rw [insAt_ref h]
  simp only [if_true]
  rfl
theorem t_insM {g : Str} {Q : Unit → Store → Prop} (h : st[n]? = some (.ins c fs ds)) (hc : fs.contains g = false) : T (insM c g (.ref n)) st Q = Q () st := by
  unfold T insM
  rw [insAt_ref h]
  simp only [hc, and_self, if_true]
  rfl
theorem t_setF {f : Str} {y : D} {Q : Unit → Store → Prop} (h : st[n]? = some (.ins c fs ds)) (hl : fs.length < 900) : T (setF c f (.ref n) y) st Q = Q () (st.set n (.ins c (putN f fs) (putD f y fs ds))) := by
  unfold T setF
  rw [insAt_ref h]
  simp only [hl, and_self, if_true]
  rfl
theorem t_mkO {p : List D → M D} {xs : List D} {Q : D → Store → Prop} (h : T (p (.ref st.length :: xs)) (st ++ [.ins c [] []]) (fun d s => d = .non ∧ Q (.ref st.length) s)) : T (mkO c p xs) st Q := by
  unfold mkO
  rw [t_bind, t_alloc, t_bind]
  refine h.mono fun d s hd => ?_
  obtain ⟨rfl, hq⟩ := hd
  exact hq
theorem msAt_ref {p : List D → M D} (h : st[n]? = some (.ins c fs ds)) : msAt [(c, p)] st (.ref n) = some (c, p) := by
  unfold msAt
  rw [insAt_ref h]
  simp
theorem t_opC {p : List D → M D} {gs : List Str} {es : List D} {Q : D → Store → Prop} (h : st[n]? = some (.ins c fs ds)) (k : st[m]? = some (.ins c gs es)) : T (opC c p (.ref n) (.ref m)) st Q = T (p [.ref n, .ref m]) st Q := by
  unfold T opC opO
  rw [msAt_ref h, insAt_ref k]
  simp only [if_true]
theorem t_unC {p : List D → M D} {Q : D → Store → Prop} (h : st[n]? = some (.ins c fs ds)) : T (unC c p (.ref n)) st Q = T (p [.ref n]) st Q := by
  unfold T unC unO
  rw [msAt_ref h]
theorem t_strC {p : List D → M D} {Q : D → Store → Prop} (h : st[n]? = some (.ins c fs ds)) (k : T (p [.ref n]) st (fun d s => ∃ t, d = .str t ∧ Q d s)) : T (strC c p [.ref n]) st Q := by
  have e : T (strC c p [.ref n]) st Q = T (p [.ref n] >>= strOnly) st Q := by
    unfold T
    show wpR (match msAt [(c, p)] st (.ref n) with | some (_, p) => (p [.ref n] >>= strOnly) st | none => R.stuck) Q _ = _
    rw [msAt_ref h]
  rw [e, t_bind]
  refine k.mono fun d s hd => ?_
  obtain ⟨t, rfl, hq⟩ := hd
  exact hq
theorem t_m1C {p : List D → M D} {Q : D → Store → Prop} (h : st[n]? = some (.ins c fs ds)) : T (m1C c p [.ref n]) st Q = T (p [.ref n]) st Q := by
  unfold T
  show wpR (match msAt [(c, p)] st (.ref n) with | some (_, p) => p [.ref n] st | none => R.stuck) Q _ = _
  rw [msAt_ref h]
theorem t_lenC {p : List D → M D} {Q : D → Store → Prop} (h : st[n]? = some (.ins c fs ds)) (k : T (p [.ref n]) st (fun d s => ∃ i : Int, d = .int i ∧ 0 ≤ i ∧ i < 1000000 ∧ Q d s)) : T (lenC c p [.ref n]) st Q := by
  unfold lenC
  rw [t_bind, t_m1C h]
  refine k.mono fun d s hd => ?_
  obtain ⟨t, rfl, h0, h1, hq⟩ := hd
  show T (bif decide (0 ≤ t ∧ t < 1000000) then pure (.int t) else M.stuck) s Q
  rw [decide_eq_true ⟨h0, h1⟩]
  exact hq
theorem t_boolC {p : List D → M D} {Q : D → Store → Prop} (h : st[n]? = some (.ins c fs ds)) (k : T (p [.ref n]) st (fun d s => ∃ b, d = .bl b ∧ Q d s)) : T (boolC c p [.ref n]) st Q := by
  unfold boolC
  rw [t_bind, t_m1C h]
  refine k.mono fun d s hd => ?_
  obtain ⟨t, rfl, hq⟩ := hd
  exact hq
theorem t_isC {Q : D → Store → Prop} (h : st[n]? = some (.ins c fs ds)) : T (opIsC c (.ref n)) st Q = Q (.bl true) st := by
  unfold T opIsC
  rw [insAt_ref h]
  simp only [if_true]
  rfl
theorem t_ixC {p : List D → M D} {y : D} {Q : D → Store → Prop} (h : st[n]? = some (.ins c fs ds)) : T (ixC c p (.ref n) y) st Q = T (p [.ref n, y]) st Q := by
  unfold T ixC
  rw [msAt_ref h]
theorem t_setC {p : List D → M D} {i v : D} {Q : Unit → Store → Prop} (h : st[n]? = some (.ins c fs ds)) (k : T (p [.ref n, i, v]) st (fun _ s => Q () s)) : T (setC c p (.ref n) i v) st Q := by
  unfold T setC
  rw [msAt_ref h]
  simp only
  obtain ⟨a, st', e, hq⟩ := k.get
  rw [e]
  exact hq
theorem t_clsM {Q : Unit → Store → Prop} : T (clsM c (.cls c)) st Q = Q () st := by
  unfold clsM
  simp only [if_true]
  rfl
end
section
variable {c f : Str} {fo fv : Den} {ρ : Env} {st : Store} {g : DenS} {Q : Fl → Store → Prop}
theorem t_fset : T (dSeq (dSetF c f fo fv) g ρ) st Q = T (fv ρ) st (fun y s => T (fo ρ) s fun x s => T (setF c f x y) s fun _ s => T (g ρ) s Q) := by
  unfold dSeq dSetF
  simp only [t_bind, t_pure]
theorem t_fset1 : T (dSetF c f fo fv ρ) st Q = T (fv ρ) st (fun y s => T (fo ρ) s fun x s => T (setF c f x y) s fun _ s => Q (.nx ρ) s) := by
  unfold dSetF
  simp only [t_bind, t_pure]
end
end MP

namespace MP
open PySem L2
open PySem.Spec PyProof.Rows
/-! ## enumerate of a list or a tuple -/
theorem SeqAt.ob {k : Bool} {h h' : Heap} {l : Addr} {xs : Array Value} (x : SeqAt k h l xs) (e : ∀ o, h.get? l = some o → h'.get? l = some o) : SeqAt k h' l xs := by
  cases k <;> obtain ⟨o, q, r⟩ := x <;> exact ⟨o, e o q, r⟩
/-- a sequence's iterator gives its items one by one -/
theorem draws_x {prog : Program} {w : World} {A : Around} (k : Bool) (nh : A.handled = none) {r l : Addr} (ap : l ≠ r) (xs : Array Value) :
    Draws prog w A r [r, l] xs.size (fun j v => xs[j]? = some v) (fun j g => ItAt k g r l j ∧ SeqAt k g l xs) :=
  ⟨fun _ _ z => z.1.obj.imp fun _ q => q.1, fun _ _ _ z up => ⟨z.1.ob (up r (by simp)), z.2.ob (up l (by simp))⟩,
    fun j s0 _ _ lt z go => next_ok z.1 z.2 (x := xs[j]) (by simp [lt]) fun g z1 same => go _ g s0.toks (by simp [lt]) ⟨z1, z.2.eb same.extBut ap⟩ same,
    fun _ _ _ z go => next_no nh z.1 z.2 (by simp) go⟩
/-- an iterator at its end: no item is ever asked -/
theorem draws_end {prog : Program} {w : World} {A : Around} (k : Bool) (nh : A.handled = none) {r l : Addr} {xs : Array Value} {n : Nat} (no : xs[n]? = none) :
    Draws prog w A r [r, l] n (fun _ _ => True) (fun j g => j = n ∧ ItAt k g r l j ∧ SeqAt k g l xs) :=
  ⟨fun _ _ z => z.2.1.obj.imp fun _ q => q.1, fun _ _ _ z up => ⟨z.1, z.2.1.ob (up r (by simp)), z.2.2.ob (up l (by simp))⟩,
    fun _ _ _ _ lt z _ => absurd z.1 (Nat.ne_of_lt lt), fun _ _ _ z go => next_no nh z.2.1 z.2.2 no go⟩
def enO (it : Addr) : Obj := { cls := .type "enumerate", data := .fields #[.none, .bool false, .ref it, rawInt 0, .none, .none] }
def henum (k : Bool) (g : Heap) (l : Addr) : Heap := (g.push (itO k l)).push (enO g.objs.size)
theorem enum_meets (k : Bool) (l : Addr) (xs : Array Value) :
    Meets (Builtin.«enumerate.__new__» ⟨[.type "enumerate", .ref l], []⟩) (fun _ R s => SeqAt k s.heap l xs ∧ R (.ok (.ret (.ref (s.heap.objs.size + 1)))) { s with heap := henum k s.heap l }) :=
  Meets.of_wp fun _ _ _ R ⟨g, a, b, c, d⟩ h => by
    have su := sub_enumerate
    have a1 : SeqAt k (Shared.heap ⟨g, a, b, c, d⟩) l xs := h.1
    have fin : R (.ok (.ret (.ref (g.push (itO k l)).objs.size))) ⟨henum k g l, a, b, c, d⟩ := by rw [Heap.size_push]; exact h.2
    wp_walk using iter_new a1
    refine wpAny_stack_any fun _ => wpAny_pure ?_
    split
    · rename_i ty _ _ _ _ _
      cases hty : (ty == Value.type "enumerate") <;> (wp_walk using iter_new a1; exact ⟨_, rfl, fin⟩)
    · wp_walk using iter_new a1; exact ⟨_, rfl, fin⟩
theorem henum_at {k : Bool} {g : Heap} {l : Addr} : IsEnum (henum k g l) (g.objs.size + 1) g.objs.size ((0 : Nat) : Int) .none ∧ ItAt k (henum k g l) g.objs.size l 0 ∧ ∀ b ob, g.get? b = some ob → (henum k g l).get? b = some ob := by
  have sz : (g.push (itO k l)).objs.size = g.objs.size + 1 := Heap.size_push ..
  refine ⟨?_, itO_at (Heap.get?_push_of_some _ (Heap.get?_push_size _ (by cases k <;> rfl))), fun b ob q => Heap.get?_push_of_some _ (Heap.get?_push_of_some _ q)⟩
  rw [← sz]
  exact Heap.get?_push_size _ rfl
theorem call_enumX {prog : Program} {w : World} {A : Around} {E : Value → Shared → Prop} {s : Shared} {k : Bool} {l : Addr} {xs : Array Value} {Q : Value → Shared → Prop} (a1 : SeqAt k s.heap l xs)
    (go : Q (.ref (s.heap.objs.size + 1)) { s with heap := henum k s.heap l }) : wpAny (model prog w) A (call (.type "enumerate") [.ref l]) Q E s :=
  callType_new F.called_enumerate (by decide) (F.typeCall_enumerate_1 _) (F.newCall_enumerate_1 _) (fun ob => F.args_object_init_2 ob _) F.entry_enumerate_new (enum_meets k l xs) ⟨a1, ⟨_, henum_at.1, rfl⟩, go⟩
/-- turn by turn: the item as it stands then, in a new pair with its number -/
def ItN (K : Frag) (k : Bool) (a : Addr) : It :=
  ⟨fun n H => ∃ xs x, SqX K k H a xs ∧ xs[n]? = some x, fun n H v H' => ∃ P x, v = .ref P ∧ H P = none ∧ H' = upd H P (.tup [.int (n : Nat), x]) ∧ ∀ xs, SqX K k H a xs → xs[n]? = some x, fun n H => ∃ xs, SqX K k H a xs ∧ xs.length ≤ n⟩
structure EnAt (g : Heap) (z r a : Addr) (k : Bool) (n : Nat) : Prop where
  en : ∃ old, IsEnum g z r ((n : Nat) : Int) old
  it : ItAt k g r a n
  zr : z ≠ r
  za : z ≠ a
  ar : a ≠ r
theorem turn_enumX {P : Program} {w : World} {K : Frag} {elts : List Expr} {kk : Nat} {tpos : Pos} (k : Bool) (a z r : Addr) : Turn P w K (.Tuple elts kk tpos) (ItN K k a) [z, r] z (fun n g => EnAt g z r a k n) where
  mem := List.mem_cons_self
  obj := fun n g Z c hc => by
    rcases (by simpa using hc : c = z ∨ c = r) with rfl | rfl
    · obtain ⟨old, q⟩ := Z.en
      exact ⟨_, q, fun v w => by cases w⟩
    · exact Z.it.obj
  keep := fun n g g' Z up => ⟨Z.en.imp fun _ q => up z (by simp) _ q, Z.it.ob fun ob q => up r (by simp) ob q, Z.zr, Z.za, Z.ar⟩
  item := by
    intro X hP hw hK cm n pins s0 τ H EE I free Z gv; subst hP hw hK
    obtain ⟨xs, x, sq, gx⟩ := gv
    obtain ⟨its, vals, at1⟩ := seq_at I sq
    obtain ⟨u, gu, ru⟩ := vals.get gx
    obtain ⟨old, en⟩ := Z.en
    have zl := Heap.lt_size en
    have nl : n < its.toArray.size := by simpa using (List.getElem?_eq_some_iff.mp gu).1
    have D := draws_x (prog := X.prog) (w := X.w) (A := X.A.in1) k (show X.A.in1.handled = none from I.ok.hd cm) Z.ar its.toArray
    refine wpAny_pyNext_enum_itemD D en ⟨Z.it, at1⟩ nl Z.zr (by simp [Z.zr, Z.za]) fun y g tk gy out st pr sz kp => ?_
    obtain rfl : y = u := Option.some.inj ((by simpa using gy : its[n]? = some y).symm.trans gu)
    refine ⟨_, rfl, wpAny_letOwnedTupleGo_enum (s := { s0 with heap := g, toks := tk + 1 }) out fun f ef sb => ?_⟩
    have up : ∀ c ob, c ≠ z → c ≠ r → s0.heap.get? c = some ob → f.get? c = some ob := fun c ob n1 n2 q => (sb.2 c n1).trans (kp c ob n1 n2 q)
    have pf : f.get? s0.heap.objs.size = some { cls := .type "tuple", data := .seq #[.int n tk, y] } := (sb.2 _ (Nat.ne_of_gt zl)).trans pr
    have I1 : Inv X pins τ (upd H s0.heap.objs.size (.tup [.int (n : Nat), x])) { s0 with heap := f, toks := tk + 1 } :=
      I.turnedNew (ch := [z, r]) (fun c ob nc q => by
        have nc' : c ≠ z ∧ c ≠ r := by simpa using nc
        exact up c ob nc'.1 nc'.2 q) free (Nat.le_refl _) ⟨by show 2 ≤ sizeLine; decide, [.int n tk, y], .cons ⟨tk, rfl⟩ (.cons ru .nil), ⟨_, pf, rfl, _, rfl⟩⟩
    refine ⟨.ref s0.heap.objs.size, _, I1, rfl, ⟨_, x, rfl, I.hok.fresh (Nat.le_refl _), rfl, fun l hl => by rw [seq_inj I hl sq]; exact gx⟩, ⟨⟨y, ?_⟩, st.1.ob fun ob q => (sb.2 r Z.zr.symm).trans q, Z.zr, Z.za, Z.ar⟩, fun c hc => ?_⟩
    · rw [Int.natCast_add]; exact ef
    · have cl : c < s0.heap.objs.size := by
        rcases (by simpa using hc : c = z ∨ c = r) with rfl | rfl
        · exact zl
        · exact Z.it.lt
      rw [upd_ne (Nat.ne_of_lt cl)]; exact (free c hc).1
  done := by
    intro X hP hw hK cm n pins s0 τ H EE I free Z gv; subst hP hw hK
    obtain ⟨xs, sq, le⟩ := gv
    obtain ⟨its, vals, at1⟩ := seq_at I sq
    obtain ⟨old, en⟩ := Z.en
    have ln := vals.length
    have D := draws_end (prog := X.prog) (w := X.w) (A := X.A.in1) k (show X.A.in1.handled = none from I.ok.hd cm) (r := r) (l := a) (xs := its.toArray) (n := n) (by simp; omega)
    obtain ⟨p0, p1, _, p3, p4, p5⟩ := free r (by simp)
    exact wpAny_pyNext_enum_endD D en ⟨rfl, Z.it, at1⟩ fun g eb => ⟨rfl, I.turned (t' := s0.toks) (fun c ob nc q => eb c ob nc q) p0 p1 ‹_› p4 p5⟩
  self := fun A n s0 Q EE Z go => Z.en.elim fun _ q => wpAny_pyIter_enum q go
def iNumX (K : Frag) (ta : TA) : TI := fun τ H R => ta τ H fun vs H1 => ∃ k a xs, vs = [.ref a] ∧ SqX K k H1 a xs ∧ R (ItN K k a) H1
theorem pi_enumX {X : Cx} {e : Expr} {ta : TA} {p pos tpos : Pos} {elts : List Expr} {kk : Nat} (hg : Gl X "enumerate") (hm : X.mg "enumerate" = none) (ha : PA X [e] ta)
    (hs : starEach [e] X.env = [(false, eval e X.env)] := by rfl) : PI X (.Tuple elts kk tpos) (.Call (.Name "enumerate" p) [e] [] pos) (iNumX X.K ta) := by
  constructor
  intro pins s0 τ H R I h
  refine Call_ (ld_blt I hg hm boot_enumerate (callWith_type1 (thn (ha.run pos pins s0 τ H _ I h) fun us s1 ⟨vs, H1, I1, rs, k, a, xs, ev, sq, q⟩ => ?_) hs rfl))
  subst ev
  cases rs with
  | cons ra rr =>
  cases rr
  cases ra
  obtain ⟨its, vals, at1⟩ := seq_at I1 sq
  obtain ⟨en, it, kp⟩ := henum_at (k := k) (g := s1.heap) (l := a)
  have al : a < s1.heap.objs.size := at1.lt
  refine call_enumX at1 (wpAny_pyIter_enum en ⟨s1.heap.objs.size + 1, [s1.heap.objs.size + 1, s1.heap.objs.size], _, _, H1, rfl, I1.kept (t' := s1.toks) kp, turn_enumX k a _ _, ⟨⟨_, en⟩, it, Nat.succ_ne_self _, Nat.ne_of_gt (Nat.lt_succ_of_lt al), Nat.ne_of_lt al⟩, fun c hc => ?_, q⟩)
  have ge : s1.heap.objs.size ≤ c := by
    rcases (by simpa using hc : c = s1.heap.objs.size + 1 ∨ c = s1.heap.objs.size) with rfl | rfl
    · exact Nat.le_succ _
    · exact Nat.le_refl _
  exact I1.fpOk ge (I1.hok.fresh ge)
def enumX : List D → M (List D)
  | [d] => seqOf d >>= fun ds => pure (enumD ds)
  | _ => M.stuck
theorem di_enumX {X : Cx} {E : XK} {e : Expr} {fs : DenL} {p pos tpos : Pos} {elts : List Expr} {kk : Nat} (hg : Gl X "enumerate") (hm : X.mg "enumerate" = none) (ha : PL X E [e] fs) (hs : starEach [e] X.env = [(false, eval e X.env)] := by rfl) :
    PDI X E (.Tuple elts kk tpos) (.Call (.Name "enumerate" p) [e] [] pos) (fun ρ => fs ρ >>= enumX) := PI.imp (pi_enumX hg hm ha hs) fun σ H R h => by
  obtain ⟨o, ρ, st, he, so, h⟩ := h
  refine ⟨o, ρ, st, he, so, ?_⟩
  refine (wpR.bind.mp h).mono (fun ds st1 h1 vs H1 o1 l s1 r => ?_) fun _ _ x => x
  match ds, r, h1 with
  | [], _, h1 => exact False.elim h1
  | d :: _ :: _, _, h1 => exact False.elim h1
  | [d], r, h1 =>
    obtain ⟨v, rfl, rv⟩ := r.one_of
    have h1' : wpR ((seqOf d >>= fun ds => pure (enumD ds)) st1) (IOk X.K H o R) (XOk X.K E H o) := h1
    obtain ⟨k, as, a, xs, rfl, sa, ra, ka, h2⟩ := seqOf_wp rv (wpR.bind.mp h1')
    refine ⟨k, a, xs, rfl, sa, (show IOk X.K H o R (enumD as) st1 from h2) _ H1 o1 l s1 ?_⟩
    intro H2 o2 st2 lr s2
    obtain ⟨xs2, sa2, ra2⟩ := ka H2 o2 lr.rep
    refine ⟨⟨xs2, sa2, by rw [ra2.length]; simp [enumD]⟩, fun i d hd => ?_⟩
    unfold enumD at hd
    rw [List.getElem?_map] at hd
    obtain ⟨⟨x, y⟩, hz, rfl⟩ := Option.map_eq_some_iff.mp hd
    obtain ⟨hx, rfl⟩ : as[i]? = some x ∧ y = i := by
      rw [List.getElem?_zipIdx] at hz
      obtain ⟨x', hx', e⟩ := Option.map_eq_some_iff.mp hz
      cases e
      exact ⟨hx', by simp⟩
    obtain ⟨u, hu, ru⟩ := ra2.get hx
    refine ⟨⟨xs2, u, sa2, hu⟩, fun v H3 y => ?_⟩
    obtain ⟨T, x0, rfl, hT, rfl, e1⟩ := y
    have q1 := e1 _ sa2
    rw [hu] at q1
    cases q1
    refine ⟨.inr ⟨T, _, hT, rfl⟩, ?_⟩
    exact Rep.newTup s2 hT ⟨_, _, rfl, rfl, u, _, rfl, ru, rfl⟩
@[simp] abbrev iEnumT (fs : DenL) : DenI := fun ρ => fs ρ >>= enumX
end MP

namespace MP
open PySem L2
open PySem.Spec PyProof.Rows
/-! ## exceptions: raise, try with clauses that return constants -/
structure ExF (K : Frag) (mg : Str → Option Value) (x : Str) : Prop where
  q : PySem.W.excIn K (He.ga K x) He.veBase "ValueError.__new__" = true
  kC : PySem.W.keepIn K (.ref (He.ga K x)) = true
  sub : PySem.W.subIn K (.ref (He.ga K x)) (.type "BaseException") = some true
  ty : PySem.W.typeIn K (.ref (He.ga K x)) = some (.type "type")
  gC : mg x = some (.ref (He.ga K x))
def dRaise (c : Str) : DenS := fun _ => M.raise ⟨c, none⟩
section
variable {K : Frag} {E : XK} {H H' : Hp} {o o' : Lo} {st : Store} {X : Cx} {k : Nat} {x : Str}
theorem pds_raise {m : Str} {j : Nat} {p p2 pos pos' : Pos} (hc : X.calm = true) (ck : Cok X E k) (F : ExF X.K X.mg x) (hg : Gl X x) (hdb : (x == ("__debug__" : Str)) = false := by decide) :
    PDS X E (.Raise (some (.Call (.Name x p) [.Constant (.str m) j p2] [] pos)) none pos') (dRaise x) :=
  PS.imp (L2.ps_raise hc ck.takes (L2.pmk_own PySem.F.excBase_ValueError F.q F.gC F.kC (raises_own F.sub F.ty) hg hdb)) fun D σ H h => by
    obtain ⟨o, ρ, st, he, so, h⟩ := h
    exact h H o _ none (Le.refl _ _) so ⟨rfl, rfl⟩
def dTryC (cs : List Str) (sub : Str → Str → Bool) (b : DenS) (hs : List (Str × D)) : DenS := fun ρ st => match b ρ st with
  | .exn e st' => if cs.contains e.cls then (match hs.find? fun h => sub e.cls h.1 with
    | some h => .ok (.rt h.2) st'
    | none => .exn e st') else .stuck
  | r => r
def subX (c h : Str) : Bool := c == h || h == "DragError"
theorem exm_of {c h : Str} {b : Bool} (e : PySem.W.exmOne K (.ref (He.ga K c)) (.ref (He.ga K h)) = some b) (s : subX c h = b) : PySem.W.exmOne K (.ref (He.ga K c)) (.ref (He.ga K h)) = some (subX c h) := by rw [s]; exact e
def hdL (K : Frag) (hs : List (Str × D)) : List (Value × (Addr → Value → Option Addr → TS)) := hs.map fun h => (.ref (He.ga K h.1), fun _ _ _ => tS K EX0 (dRet (dC h.2)))
theorem Cok.tr {pn : List (Addr × Obj)} {xe : Value → Shared → Prop} {W : WX} (ck : Cok X E k) (tk : Takes (X.tr pn xe) W) : Cok (X.tr pn xe) (fun cls d H => ∀ σ, W cls d σ H) k :=
  ⟨ck.room, passes_call (X := X.tr pn xe) (W := W) tk fun _ _ σ _ h => h σ, tk.imp fun _ _ σ _ h => h σ⟩
theorem hd_cons {hs : List (Str × D)} {d : D} {b₀ : Stmt} {suite : List Stmt} {np pos' : Pos} {hds : List ExceptHandler} (F : ExF X.K X.mg x) (hg : Gl X x) (hdb : (x == ("__debug__" : Str)) = false)
    (hsu : ∀ (a : Addr) (pn : List (Addr × Obj)), PDSs (X.suite a pn) EX0 (b₀ :: suite) (dRet (dC d))) (r : HdsOk X hds (hdL X.K hs)) :
    HdsOk X (.ExceptHandler (some (.Name x np)) none (b₀ :: suite) pos' :: hds) (hdL X.K ((x, d) :: hs)) :=
  .cons ⟨hg, hdb, .inl F.gC⟩ (fun a oe _ _ pn _ _ => hsu a ((a, oe) :: pn)) r
theorem many_of {cs : List Str} {sub : Str → Str → Bool} {D : Ends} {c : Str} {dd : Option Addr} {σ : L2.St} (hc : c ∈ cs) : ∀ {hs : List (Str × MP.D)}, (∀ c ∈ cs, ∀ h ∈ hs, PySem.W.exmOne K (.ref (He.ga K c)) (.ref (He.ga K h.1)) = some (sub c h.1)) →
    (match hs.find? fun h => sub c h.1 with
      | some h => ∃ o st, StOk K H o st ∧ VOk K H o D.rt h.2 st
      | none => E (.ref (He.ga K c)) dd H) → wMany K (fun cls d _ H => E cls d H) D (hdL K hs) (.ref (He.ga K c)) dd σ H
  | [], _, h => h
  | (y, d) :: hs, hx, h => by
    have h1 := hx c hc (y, d) List.mem_cons_self
    refine ⟨sub c y, h1, fun hb a _ => ?_, fun hb => ?_⟩
    · rw [List.find?_cons_of_pos (by simpa using hb)] at h
      obtain ⟨o, st, so, hv⟩ := h
      exact ⟨o, List.replicate σ.length none, st, ⟨by simp, fun i d' q => by
        rw [List.getElem?_replicate] at q
        split at q <;> cases q⟩, so, hv⟩
    · rw [List.find?_cons_of_neg (by simpa using hb)] at h
      exact many_of hc (fun c hc h' hh => hx c hc h' (List.mem_cons_of_mem _ hh)) h
theorem pds_try {body : List Stmt} {h₀ : ExceptHandler} {hds : List ExceptHandler} {pos : Pos} {cs : List Str} {sub : Str → Str → Bool} {b : DenS} {hs : List (Str × D)} (ck : Cok X E k) (h1 : X.stack = X.env :: X.outer) (h2 : X.env.frame = some X.env.locals)
    (hb : ∀ (pn : List (Addr × Obj)) (xe : Value → Shared → Prop) (E' : XK), Cok (X.tr pn xe) E' k → PDSs (X.tr pn xe) E' body b) (hh : HdsOk X (h₀ :: hds) (hdL X.K hs))
    (hx : ∀ c ∈ cs, ∀ h ∈ hs, PySem.W.exmOne X.K (.ref (He.ga X.K c)) (.ref (He.ga X.K h.1)) = some (sub c h.1)) :
    PDS X E (.Try body (h₀ :: hds) [] [] pos) (dTryC cs sub b hs) :=
  PS.imp (ps_try_many (tb := fun W => tS X.K (fun cls d H => ∀ σ, W cls d σ H) b) h1 h2 ck.takes (fun W pn xe tk _ => hb pn xe _ (ck.tr tk)) hh) fun D σ H h => by
    obtain ⟨o, ρ, st, he, so, h⟩ := h
    refine ⟨o, ρ, st, he, so, ?_⟩
    have h' : wpR (match b ρ st with
      | .exn e st' => if cs.contains e.cls then (match hs.find? fun h => sub e.cls h.1 with
        | some h => R.ok (Fl.rt h.2) st'
        | none => .exn e st') else .stuck
      | r => r) (FOk X.K H o D) (XOk X.K E H o) := h
    cases hr : b ρ st with
    | ok r st' => rw [hr] at h'; exact h'
    | stuck => rw [hr] at h'; exact h'
    | exn e st' =>
      rw [hr] at h'
      simp only at h'
      split at h'
      · rename_i hc
        intro H' o' c d le so' ex σ'
        obtain ⟨rfl, _⟩ := id ex
        refine many_of (by simpa using hc) hx ?_
        cases hf : hs.find? fun h => sub e.cls h.1 with
        | none =>
          rw [hf] at h'
          exact h' H' o' _ d le so' ex
        | some hh =>
          rw [hf] at h'
          have hv : VOk X.K H o D.rt hh.2 st' := h'
          exact ⟨o', st', so', hv.mono le⟩
      · exact False.elim h'
/-! ### y in x, x == (a tuple), x an instance -/
def inC (neg : Bool) (c : Str) (p : List D → M D) : D → D → M D := fun x y st => match msAt [(c, p)] st y with
  | some (_, p) => (p [y, x] >>= fun r => match r with
    | .bl b => pure (.bl (if neg then !b else b))
    | _ => M.stuck) st
  | none => .stuck
theorem od_inC {neg : Bool} {c : Str} {j : Nat} {p : List D → M D} (ck : Cok X E k) (C : ClsF X.K c) (F : CalM X.prog X.w X.K X.mg X.base j c "__contains__" 2 p) (hj : j + 2 ≤ k) : OpD X E (compareOp (if neg then .NotIn else .In)) (inC neg c p) := by
  intro pins s σ H x y v u Q I rx ry h
  obtain ⟨dx, dy, o, st, r1, r2, so, hw⟩ := h
  unfold inC at hw
  cases e : msAt [(c, p)] st dy with
  | none => rw [e] at hw; exact False.elim hw
  | some z =>
    obtain ⟨c', p'⟩ := z
    rw [e] at hw
    obtain ⟨n, a, dx', vs, rfl, rfl, ea, C', F'⟩ := ms_of r2 so (MsOk.cons C F .nil) e
    obtain ⟨f, G, hme, hf⟩ := F'.ex
    obtain ⟨mA, O, _⟩ := ins_get I.hok ea
    obtain ⟨od, J, _⟩ := O.look
    obtain ⟨mm, hF⟩ := I.fr
    cases (show u = Value.ref a from ry)
    have hr1 : Room j X.A := ck.room.mono (by omega)
    have hw2 : spD X.K 2 p' [V.ref a, x] H (fun z H' => ∃ b, z = .bl b ∧ Q (.bl (if neg then !b else b)) H') E := spD_of (ds := [.ref n, dx]) rfl so ⟨_, _, rfl, r2, _, _, rfl, r1, rfl⟩ ((wpR.bind.mp hw).mono (fun d st1 h1 v1 H1 o1 l1 s1 r1 => by
      cases d with
      | bl b => exact ⟨b, r1, (show VOk X.K H o Q (.bl (if neg then !b else b)) st1 from h1) _ H1 o1 l1 s1 rfl⟩
      | _ => exact False.elim h1) fun _ _ x => x)
    have key : wpAny (model X.prog X.w) X.A (call (.ref f) [.ref a, v]) (fun w s' => ∃ b H', w = .bool b ∧ Inv X pins σ H' s' ∧ Q (.bl (if neg then !b else b)) H') X.xe s := by
      refine wpAny_mono (run_R (us := [.ref a, v]) (vs := [.ref a, x]) ck G (by omega) I (.cons rfl (.cons rx .nil)) hw2) (fun w s' z => ?_) fun _ _ x => x
      obtain ⟨z', H', I', rz, b, eb, qz⟩ := z
      subst eb
      exact ⟨b, H', rz, I', qz⟩
    cases neg with
    | false =>
      refine PySem.W.in_K hF I.ok.mod.kin J hme.at_ hme.fn (wpAny_mono key (fun w s' z => ?_) fun _ _ x => x)
      obtain ⟨b, H', rfl, I', qz⟩ := z
      exact wpAny_pure ⟨.bl b, H', I', rfl, qz⟩
    | true =>
      refine PySem.W.notIn_K hF I.ok.mod.kin J hme.at_ hme.fn (wpAny_mono key (fun w s' z => ?_) fun _ _ x => x)
      obtain ⟨b, H', rfl, I', qz⟩ := z
      exact wpAny_pure ⟨.bl (!b), H', I', rfl, qz⟩
def opCT (c : Str) (p : List D → M D) : D → D → M D := fun x y st => match msAt [(c, p)] st x with
  | some (_, p) => (match y with
    | .tup ds => p [x, .tup ds] st
    | _ => .stuck)
  | none => .stuck
theorem sub_tup {K : Frag} {C : Addr} : PySem.W.subIn K (.type "tuple") (.ref C) = some false := by kernel_rfl
theorem od_cmpCT {op : CmpOp} {x : Str} {c : Str} {j : Nat} {p : List D → M D} (hop : ∀ a b, compareOp op a b = richCompare op a b) (hn : (cmpInfo op).2.1 = x) (ck : Cok X E k) (C : ClsF X.K c) (F : CalM X.prog X.w X.K X.mg X.base j c x 2 p) (hj : j ≤ k) : OpD X E (compareOp op) (opCT c p) := by
  intro pins s σ H x y v u Q I rx ry h
  obtain ⟨dx, dy, o, st, r1, r2, so, hw⟩ := h
  unfold opCT at hw
  cases e : msAt [(c, p)] st dx with
  | none => rw [e] at hw; exact False.elim hw
  | some z =>
    obtain ⟨c', p'⟩ := z
    rw [e] at hw
    cases dy with
    | tup ys =>
      obtain ⟨n, a, dx', vs, rfl, rfl, ea, C', F'⟩ := ms_of r1 so (MsOk.cons C F .nil) e
      obtain ⟨f, G, hme, hf⟩ := F'.ex
      obtain ⟨mA, O, _⟩ := ins_get I.hok ea
      obtain ⟨od, J, _⟩ := O.look
      obtain ⟨mm, hF⟩ := I.fr
      obtain ⟨P, Z, hP, _⟩ := kit_of I ry (Rep.ty r2 rfl)
      cases (show v = Value.ref a from rx)
      rw [hop]
      have hnf : PySem.W.notFirst X.K (He.ga X.K c') (.type "tuple") = true := by
        unfold PySem.W.notFirst
        rw [sub_tup]
        simp
      refine PySem.W.cmp_K (op := op) (tb := .type "tuple") ck.room.units0 hF I.ok.mod.kin J (Z.ty _ _ I.kIn hP) hnf (by rw [hn]; exact hme.at_) hme.fn ?_
      refine wpAny_mono (run_R (us := [.ref a, u]) (vs := [.ref a, y]) ck G hj I (.cons rfl (.cons ry .nil)) (spD_of (ds := [.ref n, .tup ys]) rfl so ⟨_, _, rfl, r1, _, _, rfl, r2, rfl⟩ hw)) (fun w s' z => ?_) fun _ _ x => x
      obtain ⟨z', H', I', rz, qz⟩ := z
      exact SlX.cmpback rz ⟨z', H', I', rz, qz⟩
    | _ => exact False.elim hw
/-! ### a constant of an own class -/
structure CAt (K : Frag) (mg : Str → Option Value) (c f : Str) (d : D) : Prop where
  g : mg c = some (.ref (He.ga K c))
  ex : ∃ u v, PySem.W.readsIn K (He.ga K c) (.type "type") = true ∧ PySem.W.findCls K (.ref (He.ga K c)) (.type "type") f = some (.val u) ∧ PySem.W.handedIn u = true ∧ RelV v u ∧ Grd K d v
theorem pd_cat {c f : Str} {d : D} {p pos : Pos} (hg : Gl X c) (A : CAt X.K X.mg c f d) (hdb : (c == ("__debug__" : Str)) = false) (hb : attributeBase (.Name c p) f X.env (eval (.Name c p) X.env) = eval (.Name c p) X.env) : PD X E (.Attribute (.Name c p) f pos) (dC d) := by
  obtain ⟨u, v, h1, h2, h3, r, gr⟩ := A.ex
  refine pd_const (v := v) ⟨fun pins s σ H Q I h => ?_⟩ gr
  refine attr_of hb (ld_glob I hg A.g ?_ hdb)
  exact PySem.W.cls_value I.kIn h1 h2 h3 ⟨v, H, I.tok _, r, h⟩
theorem cat_of {mg : Str → Option Value} {h : Heap} {c f : Str} {zs : List Str} (Xi : K.In h) (G : h.Ns mainGlobals mg) (g : (He.Fa.glo c).ok K = true) (t : catB c f zs K = true) : CAt K mg c f (.tup (zs.map D.str)) := by
  refine ⟨He.glo_ok Xi G g, ?_⟩
  unfold catB at t
  obtain ⟨h1, t⟩ := Bool.and_eq_true_iff.mp t
  cases q : PySem.W.findCls K (.ref (He.ga K c)) (.type "type") f with
  | none => rw [q] at t; cases t
  | some r =>
    rw [q] at t
    cases r with
    | val u =>
      cases u with
      | ref a =>
        obtain ⟨h3, t⟩ := Bool.and_eq_true_iff.mp t
        refine ⟨.ref a, .ref a, h1, rfl, h3, rfl, fun H o => ?_⟩
        have e : (zs.map He.Dv.str).map (He.Dv.v K) = zs.map V.str := by rw [List.map_map]; rfl
        have s : SqT K (fun _ => none) a ((zs.map He.Dv.str).map (He.Dv.v K)) := by
          cases q2 : K.lookup a with
          | none => rw [q2] at t; cases t
          | some ob =>
            obtain ⟨oc, od, dt, osl⟩ := ob
            rw [q2] at t
            cases oc with
            | type ty =>
              cases od with
              | none =>
                cases dt with
                | seq its n =>
                  obtain ⟨h4, t⟩ := Bool.and_eq_true_iff.mp t
                  obtain ⟨h5, h6⟩ := Bool.and_eq_true_iff.mp t
                  exact .inr ⟨_, its, n, q2, congrArg Value.type (of_decide_eq_true h4), rfl, of_decide_eq_true h5, He.relAll_ok h6⟩
                | _ => cases t
              | some _ => cases dt <;> cases t
            | _ => cases od <;> cases dt <;> cases t
        rw [e] at s
        rcases s with s | s
        · rcases s with s | ⟨_, s⟩ <;> cases s
        · exact ⟨_, _, rfl, .inr s, Reps.ofStrs zs⟩
      | _ => cases t
    | _ => cases t
theorem exF_of {mg : Str → Option Value} {h : Heap} {x : Str} (Xi : K.In h) (G : h.Ns mainGlobals mg) (g : (He.Fa.glo x).ok K = true) (e : (He.Fa.exc x).ok K = true) : ExF K mg x :=
  let ⟨a, b, c, d⟩ := He.exc_ok e
  ⟨a, b, c, d, He.glo_ok Xi G g⟩
theorem od_in0 {c : Str} {j : Nat} {p : List D → M D} (ck : Cok X E k) (C : ClsF X.K c) (F : CalM X.prog X.w X.K X.mg X.base j c "__contains__" 2 p) (hj : j + 2 ≤ k) : OpD X E (compareOp .In) (inC false c p) := od_inC (neg := false) ck C F hj
theorem od_in1 {c : Str} {j : Nat} {p : List D → M D} (ck : Cok X E k) (C : ClsF X.K c) (F : CalM X.prog X.w X.K X.mg X.base j c "__contains__" 2 p) (hj : j + 2 ≤ k) : OpD X E (compareOp .NotIn) (inC true c p) := od_inC (neg := true) ck C F hj
end
end MP

namespace MP
open PySem L2
open PySem.Spec PyProof.Rows
open GenW
/-! ## for in a generator's body -/
section
variable {M : Model} {A : Around} {R : GenEnd} {Y : Protocol} {n : Nat} {s₀ : Shared} {c : Code} {fs : List Frame} {s : Shared} {env : PySem.Env}
  {K : Flow → Sem PySem.Fin} {H : Value → Sem PySem.Fin} {gd : Bool → Bool} {lv : List Value → List Value}
theorem seg_For {target iter : Expr} {body orelse : List Stmt} {pos : Pos}
    (h : wpAny M (A.over c fs) (eval iter env) (fun x s₁ => wpAny M (A.over c fs) (pyIter x) (fun it s₂ => ∀ p, Seg M A R Y n s₀ (.forLoop target it body orelse env) (M.den (.forLoop target it body orelse env))
      (.ret (fun r => ((match r with | .ok f => (.pure f : Sem Flow) | .error e => .raise e).onRaise fun (x : Value) => do
        if (← field x 1) == Value.none then unsupported "frame.own-activation:exception-without-traceback"
        setFlight x env.frame).wrap K H gd lv) none (gd false) (lv []) c p [] :: fs) s₂) (fun x s' => Seg M A R Y n s₀ c (H x) fs s') s₁) (fun x s' => Seg M A R Y n s₀ c (H x) fs s') s)
    (hs : ∀ x, foldedSetIterable iter env x = pure x) :
    Seg M A R Y n s₀ c ((exec (.For target iter body orelse pos) env).wrap K H gd lv) fs s := by
  rw [exec_For]
  refine seg_bind_wrap (wpAny_standAt ?_)
  refine seg_bind_wrap (wpAny_mono h (fun x s₁ h₁ => ?_) fun _ _ x => x)
  refine seg_bind_wrap (wpAny_of_eq (hs x) ?_)
  refine seg_bind_wrap (wpAny_standAt ?_)
  refine seg_bind_wrap (wpAny_holding (wpAny_mono h₁ (fun it s₂ h₂ => ?_) fun _ _ x => x))
  exact seg_call h₂
end
section
variable {prog : Program} {w : World} {A : Around} {R : GenEnd} {Y : Protocol} {n : Nat} {s₀ : Shared} {fs : List Frame} {s : Shared} {env : PySem.Env}
theorem seg_block0 (h : Seg (model prog w) A R Y n s₀ (.block [] env) (.pure (.done .next)) fs s) : Seg (model prog w) A R Y n s₀ (.block [] env) ((model prog w).den (.block [] env)) fs s := h
abbrev againF (target : Expr) (it : Value) (body : List Stmt) (env : PySem.Env) : Flow → Sem PySem.Fin := fun f => match f with
  | .next | .cont => .pure (.again (.forLoop target it body [] env))
  | .brk => .pure (.done .next)
  | .ret v => .pure (.done (.ret v))
abbrev notedF (env : PySem.Env) : Value → Sem PySem.Fin := fun e => (do noteFrame e env; theTreesLotGoes e : Sem Unit).wrap (fun _ => .raise e) .raise id id
theorem seg_forLoop {target : Expr} {it : Value} {body : List Stmt}
    (h : wpAny (model prog w) (A.over (.forLoop target it body [] env) fs) (pyNext it) (fun r s₁ => match r with
        | none => Seg (model prog w) A R Y n s₀ (.forLoop target it body [] env) (.pure (.again (.block [] env))) fs s₁
        | some v => wpAny (model prog w) (A.over (.forLoop target it body [] env) fs) (letOwnedTupleGo target it v) (fun _ s₁' =>
            wpAny (model prog w) (A.over (.forLoop target it body [] env) fs) (assign target env v) (fun _ s₂ =>
              Seg (model prog w) A R Y n s₀ (.forLoop target it body [] env) ((execs body env).wrap (againF target it body env) (notedF env) id id) fs s₂)
              (fun x s' => Seg (model prog w) A R Y n s₀ (.forLoop target it body [] env) (notedF env x) fs s') s₁')
            (fun x s' => Seg (model prog w) A R Y n s₀ (.forLoop target it body [] env) (notedF env x) fs s') s₁)
      (fun x s' => Seg (model prog w) A R Y n s₀ (.forLoop target it body [] env) (notedF env x) fs s') s) :
    Seg (model prog w) A R Y n s₀ (.forLoop target it body [] env) ((model prog w).den (.forLoop target it body [] env)) fs s := by
  show Seg _ A R Y n s₀ _ ((forTurn target it body [] env).onRaise (fun x => do noteFrame x env; theTreesLotGoes x)) fs s
  unfold forTurn
  rw [Sem.onRaise_eq_wrap]
  have hH : (fun e : Value => ((do noteFrame e env; theTreesLotGoes e : Sem Unit).bind fun _ => (Sem.raise e : Sem PySem.Fin))) = notedF env := by
    funext e
    show _ = (do noteFrame e env; theTreesLotGoes e : Sem Unit).wrap (fun _ => .raise e) .raise id id
    rw [Sem.bind_eq_wrap]
  refine seg_bind_wrap (wpAny_standAt ?_)
  refine seg_bind_wrap (wpAny_onRaise (wpAny_mono h (fun r s₁ h₁ => ?_) fun x s' hx => wpAny_standAt ?_))
  · rw [hH]
    cases r with
    | none => exact h₁
    | some v =>
      refine seg_bind_wrap (wpAny_mono h₁ (fun _ s₂ h₂ => ?_) fun _ _ z => z)
      refine seg_bind_wrap (wpAny_mono h₂ (fun _ s₃ h₃ => ?_) fun _ _ z => z)
      rw [Sem.bind_eq_wrap', Sem.wrap_wrap]
      have q : ∀ m : Sem Flow, Sem.wrap (fun a => Sem.wrap Sem.pure (notedF env) id id (match a with
          | Flow.next => again (.forLoop target it body [] env)
          | Flow.cont => again (.forLoop target it body [] env)
          | Flow.brk => pure (Fin.done Flow.next)
          | Flow.ret v => pure (Fin.done (Flow.ret v)))) (fun e => Sem.wrap Sem.pure (notedF env) id id (Sem.raise e)) (fun g => id (id g)) (fun l => id (id l)) m = Sem.wrap (againF target it body env) (notedF env) id id m := fun m =>
        Sem.wrap_congr m _ _ (fun f => by cases f <;> rfl) (fun e => rfl)
      have h5 := (congrArg (fun t => Seg (model prog w) A R Y n s₀ (.forLoop target it body [] env) t fs s₃) (q (execs body env))).mpr h₃
      exact h5
  · exact (congrFun hH x) ▸ hx
end
section
variable {X : Cx} {tg iter : Expr} {body : List Stmt} {pos : Pos}
def tGFor (wi : TI) (g : TG) (tb : TGn) : TGn := fun D ys σ H => wi σ H fun J H1 => ∃ W : Nat → Nat → List V → L2.St → Hp → Prop, (∃ m, W 0 m ys σ H1) ∧ ∀ i m ys σ H, W i m ys σ H →
  (J.stop i H ∧ D.nx ys σ H) ∨ (J.go i H ∧ ∃ N : List V → L2.St → Hp → Prop, (∀ ys' σ' H', N ys' σ' H' → ∃ m', m' < m ∧ W (i + 1) m' ys' σ' H') ∧ ∀ x H', J.yld i H x H' → g x σ H' fun σ2 H2 => tb { D with nx := N, ct := N, bk := D.nx } ys σ2 H2)
theorem gs_for {wi : TI} {g : TG} {tb : TGn} (hp : PassesOwn (model X.prog X.w) X.A X.env X.xe) (hc : X.calm = true) (hi : PI X tg iter wi) (hg : PG X tg g) (hb : GSs X body tb)
    (hs : ∀ x, foldedSetIterable iter X.env x = pure x) : GS X (.For tg iter body [] pos) (tGFor wi g tb) := by
  refine ⟨fun A S ip R n ys s₀ c fs K J gd lv s σ H D gc hn k hI ht => ?_⟩
  obtain ⟨acc, cc, r, I⟩ := hI
  refine seg_For ?_ hs
  rw [gc.over]
  refine wpAny_mono (hi.run _ s σ H _ I ht) (fun v s1 h1 => wpAny_mono h1 (fun itv s2 h2 p => ?_) fun x s' hx => k.exc n s₀ x s' hx) fun x s' hx => k.exc n s₀ x s' hx
  obtain ⟨it, fp, tn, JJ, H2, e, I2, T, st2, f2, W, ⟨m0, w0⟩, turn⟩ := h2
  subst e
  have stat : ∀ {H' : Hp} {acc' : Array Value} {cc' : Nat}, (∀ b ∈ fp, H' b = none) → ∀ b ∈ fp, FpOk X ((S, lstObj acc' cc') :: ip) H' b := fun hn b hb => by
    obtain ⟨_, q1, q2, q3, q4, q5⟩ := f2 b hb
    refine ⟨hn b hb, q1, q2, q3, q4, fun p hp => ?_⟩
    rcases List.mem_append.mp hp with z | z
    · exact q5 p (List.mem_append_left _ z)
    · rcases List.mem_cons.mp z with z | z
      · rw [z]; exact q5 (S, lstObj acc cc) (List.mem_append_right _ List.mem_cons_self)
      · exact q5 p (List.mem_append_right _ (List.mem_cons_of_mem _ z))
  have fpS : ∀ b ∈ fp, b ≠ S := fun b hb z => (f2 b hb).2.2.2.2.2 (S, lstObj acc cc) (List.mem_append_right _ List.mem_cons_self) z.symm
  have gl := fun (kk : Result → Sem PySem.Fin) => gc_loop (X := X) (S := S) (ip := ip) (A := A) (c := c) (fs := fs) (gd := gd) (k := kk) (c' := .forLoop tg (.ref it) body [] X.env) (l := lv []) (kp := []) (p := p) gc rfl rfl
  have loop : ∀ (m i n : Nat) (ys : List V) (s₀ s : Shared) (σ : L2.St) (H : Hp), n + ys.length = sizeLine → W i m ys σ H → GI X S ip ys σ H s → tn i s.heap → (∀ b ∈ fp, H b = none) →
      Seg (model X.prog X.w) A R (GY X S) n s₀ (.forLoop tg (.ref it) body [] X.env) ((model X.prog X.w).den (.forLoop tg (.ref it) body [] X.env))
        (.ret (fun r => ((match r with | .ok f => (.pure f : Sem Flow) | .error e => .raise e).onRaise (cameBack X.env)).wrap K J gd lv) none (gd false) (lv []) c p [] :: fs) s := by
    intro m
    induction m using Nat.strongRecOn with
    | ind m ih =>
      intro i n ys s₀ s σ H hn w hI st fr
      have ee : ∀ (n : Nat) (s₀ : Shared) (x : Value) (s' : Shared), X.xe x s' → Seg (model X.prog X.w) A R (GY X S) n s₀ (.forLoop tg (.ref it) body [] X.env)
          (notedF X.env x)
          (.ret (fun r => ((match r with | .ok f => (.pure f : Sem Flow) | .error e => .raise e).onRaise (cameBack X.env)).wrap K J gd lv) none (gd false) (lv []) c p [] :: fs) s' := fun n s₀ x s' hx => by
        refine seg_wrap ?_
        rw [(gl _).over]
        refine wpAny_bind (wpAny_mono (hp x s' hx) (fun _ s'' hcb => wpAny_theTreesLotGoes ?_) fun y s'' hcb => ?_)
        · exact seg_leaf (.error x) (seg_cameBack gc k hcb)
        · exact seg_leaf (.error y) (seg_cameBack gc k hcb)
      refine seg_forLoop ?_
      rw [(gl _).over]
      obtain ⟨acc3, cc3, r3, I3⟩ := hI
      rcases turn i m ys σ H w with ⟨stop, qn⟩ | ⟨go, N, hN, step⟩
      · refine wpAny_mono (T.done X rfl rfl rfl hc i _ s σ H X.xe I3 (stat fr) st stop) (fun r s4 ⟨hr, I4⟩ => ?_) fun x s' hx => ee n s₀ x s' hx
        subst hr
        exact seg_again rfl (seg_block0 (seg_leaf (.ok .next) (k.ok n ys s₀ s4 .next hn ⟨σ, H, ⟨acc3, cc3, r3, I4⟩, qn⟩)))
      · refine wpAny_mono (T.item X rfl rfl rfl hc i _ s σ H X.xe I3 (stat fr) st go) (fun r s4 ⟨u, hr, h4⟩ => ?_) fun x s' hx => ee n s₀ x s' hx
        subst hr
        refine wpAny_mono h4 (fun _ s5 ⟨x, H5, I5, r5, y5, st5, fr5⟩ => ?_) fun x s' hx => ee n s₀ x s' hx
        have I5' := I5.pinned (stat fr5) (T.obj _ _ st5)
        refine wpAny_mono (hg.run _ s5 σ H5 x u _ I5' r5 (step x H5 y5)) (fun _ s6 ⟨σ6, H6, I6, q6⟩ => ?_) fun x s' hx => ee n s₀ x s' hx
        have gc2 : GC X S (ip ++ pinsAt fp s5.heap) A (.forLoop tg (.ref it) body [] X.env) (.ret (fun r => ((match r with | .ok f => (.pure f : Sem Flow) | .error e => .raise e).onRaise (cameBack X.env)).wrap K J gd lv) none (gd false) (lv []) c p [] :: fs) id :=
          let g0 := gl _
          ⟨g0.pn, fun q hq => (List.mem_append.mp hq).elim (gc.ip q) fun z => fpS q.1 (of_pinsAt z).1, g0.apart, g0.over, g0.split, g0.guard, g0.gd⟩
        refine hb.run A S (ip ++ pinsAt fp s5.heap) R n ys s₀ _ _ _ _ id id s6 σ6 H6 { D with nx := N, ct := N, bk := D.nx } gc2 hn ⟨fun n' ys' s₀' s7 f hn' hs => ?_, fun n' s₀' x s3 hx => ee n' s₀' x s3 hx⟩ ⟨acc3, cc3, r3, I6⟩ q6
        have back : ∀ {σ7 : L2.St} {H7 : Hp}, GI X S (ip ++ pinsAt fp s5.heap) ys' σ7 H7 s7 → GI X S ip ys' σ7 H7 s7 ∧ tn (i + 1) s7.heap ∧ ∀ b ∈ fp, H7 b = none := fun {σ7 H7} h7 => by
          obtain ⟨acc7, cc7, r7, I7⟩ := h7
          have I7' : Inv X (((S, lstObj acc7 cc7) :: ip) ++ pinsAt fp s5.heap) σ7 H7 s7 := I7
          have pin7 : ∀ b ∈ fp, ∀ o, s5.heap.get? b = some o → s7.heap.get? b = some o ∧ H7 b = none := fun b hb o e => by
            obtain ⟨e1, e2, _⟩ := I7'.pin (b, o) (List.mem_append_right _ (List.mem_append_right _ (mem_pinsAt hb e)))
            exact ⟨e1, e2⟩
          refine ⟨⟨acc7, cc7, r7, I7'.unpinned⟩, T.keep _ _ _ st5 fun b hb o e => (pin7 b hb o e).1, fun b hb => ?_⟩
          obtain ⟨o, e, d⟩ := T.obj _ _ st5 b hb
          exact (pin7 b hb o e).2
        cases f with
        | next =>
          obtain ⟨σ7, H7, I7, n7⟩ := hs
          obtain ⟨m', hm, w7⟩ := hN ys' σ7 H7 n7
          obtain ⟨J7, st7, fr7⟩ := back I7
          exact seg_again rfl (ih m' hm (i + 1) n' ys' s₀' s7 σ7 H7 hn' w7 J7 st7 fr7)
        | cont =>
          obtain ⟨σ7, H7, I7, n7⟩ := hs
          obtain ⟨m', hm, w7⟩ := hN ys' σ7 H7 n7
          obtain ⟨J7, st7, fr7⟩ := back I7
          exact seg_again rfl (ih m' hm (i + 1) n' ys' s₀' s7 σ7 H7 hn' w7 J7 st7 fr7)
        | brk =>
          obtain ⟨σ7, H7, I7, n7⟩ := hs
          exact seg_leaf (.ok .next) (k.ok n' ys' s₀' s7 .next hn' ⟨σ7, H7, (back I7).1, n7⟩)
        | ret v =>
          obtain ⟨x7, σ7, H7, I7, r7, n7⟩ := hs
          exact seg_leaf (.ok (.ret v)) (k.ok n' ys' s₀' s7 (.ret v) hn' ⟨x7, σ7, H7, (back I7).1, r7, n7⟩)
  exact loop m0 0 n ys s₀ s2 σ H2 hn w0 ⟨acc, cc, r, I2⟩ st2 fun b hb => (f2 b hb).1
end
/-! ## a generator's meaning: the list of what it hands out -/
def genL (t : Tg) (f : Den) : List D → Env → M (List D)
  | [], _ => pure []
  | d :: ds, ρ => optE (t.bind d ρ) >>= fun ρ1 => f ρ1 >>= fun y => genL t f ds ρ1 >>= fun ys => pure (y :: ys)
abbrev DenY := Env → M (List D)
/-- for t in it: yield f -/
def dGenFor (it : DenI) (t : Tg) (f : Den) : DenY := fun ρ => it ρ >>= fun ds => guardL (decide (ds.length ≤ big)) (genL t f ds ρ)
section
variable {K : Frag} {H H' : Hp} {o o' : Lo} {st : Store} {X : Cx} {k : Nat}
theorem tG_for {it : DenI} {t : Tg} {f : Den} {D : GEnds} {σ : L2.St} {u : TGn} (hu : ∀ D ys σ H, D.nx ys σ H → u D ys σ H)
    (h : ∃ o ρ st, EnvOk K H o ρ σ ∧ StOk K H o st ∧ wpR (dGenFor it t f ρ st) (LOk K H o fun vs H' => ∀ σ', D.nx vs σ' H') (XOk K EX0 H o)) :
    tGFor (tI K EX0 it) (tG K EX0 (gOf t)) (tGThen (tGYield (tD K EX0 f)) u) D [] σ H := by
  obtain ⟨o, ρ, st, he, hs, h⟩ := h
  refine ⟨o, ρ, st, he, hs, ?_⟩
  refine (wpR.bind.mp h).mono (fun ds st1 h1 J H1 o1 l1 s1 w => ?_) fun _ _ x => x
  obtain ⟨hl, h2⟩ := guardL_wp h1
  have hl := of_decide_eq_true hl
  refine ⟨fun i m ys σ' H' => m = ds.length - i ∧ i ≤ ds.length ∧ ys.length = i ∧ ∃ o' ρ' st', LeW K H1 o1 H' o' ∧ StOk K H' o' st' ∧ EnvOk K H' o' ρ' σ' ∧ wpR (genL t f (ds.drop i) ρ' st') (LOk K H' o' fun vs H'' => ∀ σ'', D.nx (ys ++ vs) σ'' H'') (XOk K EX0 H' o'),
    ⟨_, rfl, Nat.zero_le _, rfl, o1, ρ, st1, LeW.refl, s1, he.mono l1.rep, ?_⟩, ?_⟩
  · refine wpR.mono h2 (fun ys st2 q => ?_) fun _ _ x => x.mono l1
    exact LOk.mono q l1
  rintro i m ys σ' H' ⟨rfl, hi, hy, o', ρ', st', lr, s', e', hw⟩
  obtain ⟨w1, w2⟩ := w H' o' st' lr s'
  by_cases hlt : i < ds.length
  · rw [List.drop_eq_getElem_cons hlt] at hw
    obtain ⟨go, yl⟩ := w2 i _ (List.getElem?_eq_getElem hlt)
    refine .inr ⟨go, fun ys2 σ2 H2 => ∃ m', m' < ds.length - i ∧ (m' = ds.length - (i + 1) ∧ i + 1 ≤ ds.length ∧ ys2.length = i + 1 ∧ ∃ o' ρ' st', LeW K H1 o1 H2 o' ∧ StOk K H2 o' st' ∧ EnvOk K H2 o' ρ' σ2 ∧ wpR (genL t f (ds.drop (i + 1)) ρ' st') (LOk K H2 o' fun vs H'' => ∀ σ'', D.nx (ys2 ++ vs) σ'' H'') (XOk K EX0 H2 o')), fun _ _ _ x => x, fun x H2 y => ?_⟩
    obtain ⟨gr, rx⟩ := yl x H2 y
    have l2 : Le H' o' H2 o' := Gr.le gr
    refine ⟨o', ρ', st', ds[i], e'.mono l2.rep, Gr.stOk gr s', rx, ?_⟩
    have hw0 : wpR ((optE (t.bind ds[i] ρ') >>= fun ρ1 => f ρ1 >>= fun y => genL t f (ds.drop (i + 1)) ρ1 >>= fun ys => pure (y :: ys)) st') (LOk K H' o' fun vs H'' => ∀ σ'', D.nx (ys ++ vs) σ'' H'') (XOk K EX0 H' o') := hw
    refine wpR.mono (wpR.bind.mp hw0) (fun ρ2 st2 h2 σ3 H3 o3 l3 s3 e3 => ?_) fun _ _ x => x.mono l2
    refine ⟨?_, o3, ρ2, st2, e3, s3, ?_⟩
    · have : ys.length < big := by omega
      exact Nat.lt_of_lt_of_le this big_le
    refine wpR.mono (wpR.bind.mp h2) (fun y st4 h4 v4 H4 o4 l4 s4 r4 => ?_) fun _ _ x => (x.mono l2).mono l3
    refine hu _ _ _ _ ⟨ds.length - (i + 1), by omega, rfl, hlt, by simp [hy], o4, ρ2, st4, ((lr.trans l2.w).trans l3.w).trans l4.w, s4, e3.mono l4.rep, ?_⟩
    have lll := (l2.trans l3).trans l4
    refine wpR.mono (wpR.bind.mp h4) (fun zs st5 h5 vs H5 o5 l5 s5 r5 => ?_) fun _ _ x => x.mono lll
    intro σ''
    have h6 := (show LOk K H' o' (fun vs H'' => ∀ σ'', D.nx (ys ++ vs) σ'' H'') (y :: zs) st5 from h5) (v4 :: vs) H5 o5 (lll.trans l5) s5 ⟨v4, vs, rfl, Rep.mono l5 _ _ r4, r5⟩ σ''
    rw [List.append_assoc]
    exact h6
  · have e : i = ds.length := by omega
    subst e
    rw [List.drop_length] at hw
    refine .inl ⟨w1, ?_⟩
    have h3 := (show LOk K H' o' (fun vs H'' => ∀ σ'', D.nx (ys ++ vs) σ'' H'') [] st' from hw) [] H' o' (Le.refl _ _) s' rfl σ'
    rw [List.append_nil] at h3
    exact h3
end
/-! ## a generator method -/
abbrev GFX (P : Program) (w : World) (K : Frag) (mg : Str → Option Value) (base : Heap) (N : List Str) (qual : Str) (scope : Scope) (f : Addr) (cdv : Value) (A : Around) (outer : List PySem.Env) (s : Shared) (H : Hp) (pn : List (Addr × Obj)) : Cx :=
  gcxOf P w K mg base N qual scope f cdv A outer s H EX0 pn
def spDG (K : Frag) (np : Nat) (p : List D → M (List D)) : SpG := fun vs H cont E => E = EX0 ∧ ∃ o ds st, Reps K H o ds vs ∧ ds.length = np ∧ StOk K H o st ∧ wpR (p ds st) (LOk K H o cont) (fun _ _ => False)
structure CalG (P : Program) (w : World) (K : Frag) (mg : Str → Option Value) (base : Heap) (k : Nat) (c m : Str) (p : List D → M (List D)) : Prop where
  ex : ∃ f fd ps, GFn P w K mg base k f fd ps (spDG K 1 p) ∧ Meth K (He.ga K c) m f ∧ Binds K fd ps []
def runGen (n : Nat) (b : DenY) (ds : List D) : M (List D) := noX (b (ds.map some ++ List.replicate (n - ds.length) none))
section
variable {P : Program} {w : World} {K : Frag} {mg : Str → Option Value} {base : Heap} {N ps : List Str} {x qual c m : Str} {params : Arguments} {body : List Stmt} {scope : Scope} {f : Addr} {k np : Nat} {H : Hp} {o : Lo} {st : Store} {X : Cx} {E : XK}
theorem Cok.ofG {cdv : Value} {A : Around} {outer : List PySem.Env} {s : Shared} {pn : List (Addr × Obj)} (hr : Room k (A.deeper (envOfC qual scope s.heap.objs.size f cdv))) : Cok (GFX P w K mg base N qual scope f cdv A outer s H pn) EX0 k :=
  ⟨hr, passes_call takes_gcx fun _ _ _ _ h => h, takes_gcx⟩
/-- for t in it: yield f -/
theorem gfn_ok {it : DenI} {t : Tg} {g : Den} {fd : FuncData} {tg iter e : Expr} {yp pos pos' : Pos} (F : FunD K x qual params [.For tg iter [.Expr (.Yield (some e) yp) pos'] [] pos] scope [] [] f fd) (S : GScope N ps scope) (hnp : ps.length = np)
    (hi : ∀ (cdv : Value) (A : Around) (outer : List PySem.Env) (s : Shared) (H : Hp) (pn : List (Addr × Obj)), Cok (GFX P w K mg base N qual scope f cdv A outer s H pn) EX0 k →
      PDI (GFX P w K mg base N qual scope f cdv A outer s H pn) EX0 tg iter it ∧ PDG (GFX P w K mg base N qual scope f cdv A outer s H pn) EX0 tg (gOf t) ∧ PD (GFX P w K mg base N qual scope f cdv A outer s H pn) EX0 e g)
    (hco : scope.isCoroutine = false) (hin : ∀ (cdv : Value) (A : Around) (outer : List PySem.Env) (s : Shared) (H : Hp) (pn : List (Addr × Obj)), interactive (GFX P w K mg base N qual scope f cdv A outer s H pn).env = false)
    (hs : ∀ (cdv : Value) (A : Around) (outer : List PySem.Env) (s : Shared) (H : Hp) (pn : List (Addr × Obj)) (x : Value), foldedSetIterable iter (GFX P w K mg base N qual scope f cdv A outer s H pn).env x = pure x) :
    GFn P w K mg base (k + 1) f fd ps (spDG K np (runGen N.length (dGenFor it t g))) := by
  obtain ⟨oc, od, dV, kV, doc, pm, an, cdv, ct, osl, rfl, lk, hcd, _, _⟩ := F.ex
  refine gfn_of lk hcd S (fun vs H Q E q => ?_) fun A outer s H vs Q E pn hr hsp => ?_
  · obtain ⟨_, o, ds, st, r, e, _⟩ := q
    rw [r.length, e, hnp]
  obtain ⟨rfl, o, ds, st, r, e, so, hw⟩ := hsp
  have hle : ps.length ≤ N.length := by have := congrArg List.length S.pre; rw [List.length_take] at this; omega
  have ck : Cok (GFX P w K mg base N qual scope f cdv A outer s H pn) EX0 k := .ofG hr
  obtain ⟨h1, h2, h3⟩ := hi cdv A outer s H pn ck
  refine ⟨_, gss_cons (gs_for owns_gcx rfl h1 h2 (gss_cons (gs_yield h3 hco (hin cdv A outer s H pn)) gss_nil) (hs cdv A outer s H pn)) gss_nil, ?_⟩
  refine tG_for (fun _ _ _ _ q => q) ⟨o, _, st, start_env r (by omega), so, ?_⟩
  have hw2 : wpR (runGen N.length (dGenFor it t g) ds st) (LOk K H o Q) (fun _ _ => False) := hw
  have hw3 := noX_wp (Z' := fun _ _ => False) hw2
  refine wpR.mono hw3 (fun ys st2 q => ?_) fun _ _ z => z.elim
  intro vs H2 o2 l2 s2 r2 σ2
  exact q vs H2 o2 l2 s2 r2
theorem gfn_mono {j : Nat} {fd : FuncData} {sp : SpG} (F : GFn P w K mg base j f fd ps sp) (q : j ≤ k) : GFn P w K mg base k f fd ps sp :=
  ⟨F.len, fun A outer s H args us vs Q E hr e0 hb r h => codeAny_mono (F.run A outer s H args us vs Q E (hr.mono q) e0 hb r h) fun x s' hx => by
    cases x with
    | error e => exact hx
    | ok fl =>
      cases fl with
      | ret u =>
        obtain ⟨a, g, c, h1, h2, h3, h4, h5, h6, h7, h8, h9, h10⟩ := hx
        exact ⟨a, g, c, h1, h2, h3, h4, h5, h6, h7, h8, h9, fun A S s2 hA => h10 A S s2 (hA.mono q)⟩
      | next => exact hx
      | brk => exact hx
      | cont => exact hx⟩
theorem CalG.mono {j : Nat} {p : List D → M (List D)} (h : CalG P w K mg base j c m p) (q : j ≤ k) : CalG P w K mg base k c m p :=
  let ⟨f, fd, ps, F, r⟩ := h.ex; ⟨f, fd, ps, gfn_mono F q, r⟩
/-- list(o.m()), m a generator method -/
def dListG (c m : Str) (p : List D → M (List D)) (fo : Den) : Den := fun ρ => fo ρ >>= fun x => insM c m x >>= fun _ => noX (p [x]) >>= fun ds => pure (.lst ds)
theorem passes0 : Passes (L2.CX X.prog X.w) X EX0 := fun pins σ H s e s' I cx => by
  obtain ⟨a, B, H', cls, d, _, _, _, _, _, _, _, hE⟩ := cx
  exact False.elim hE
theorem pd_listG {j : Nat} {p : List D → M (List D)} {eo : Expr} {fo : Den} {p1 apos pos' pos : Pos} {pl : Sem Bool} (ck : Cok X E k) (C : ClsF X.K c) (F : CalG X.prog X.w X.K X.mg X.base j c m p) (hj : j + 3 ≤ k) (hg : Gl X "list") (hm : X.mg "list" = none) (ho : PD X E eo fo)
    (ht : eval (.Call (.Attribute eo m apos) [] [] pos') X.env = (do
      let ov ← eval eo X.env
      standAt apos.atName
      let (f, first) ← holding [ov] (getMethod ov m pl)
      callWith pos' f first (backTo pos' (starEach [] X.env)) (backToKw pos' (keywordEach [] X.env))))
    (he : starEach [Expr.Call (.Attribute eo m apos) [] [] pos'] X.env = (false, eval (.Call (.Attribute eo m apos) [] [] pos') X.env) :: starEach [] X.env) :
    PD X E (.Call (.Name "list" p1) [.Call (.Attribute eo m apos) [] [] pos'] [] pos) (dListG c m p fo) := by
  obtain ⟨f, fd, ps, G, hme, hb⟩ := F.ex
  refine PE.imp (pe_listG (pgen_meth0 (pl := pl) (E := EX0) ho C.cl hme G (ck.room.mono (by omega)) hb .nil ht) passes0 (fun _ _ _ z => z.elim) (ck.room.mono hj) hg hm bb_list (by decide) (by decide) he) fun σ H Q h => ?_
  obtain ⟨o, ρ, st, he, so, h⟩ := h
  refine ⟨o, ρ, st, he, so, (wpR.bind.mp h).mono (fun x st1 h1 v H1 o1 l1 s1 r1 => ?_) fun _ _ z => z⟩
  obtain ⟨gs, ds, e1, hc, h2⟩ := insM_wp (wpR.bind.mp h1)
  obtain ⟨n, a, dx, vs, rfl, rfl, _, _, e3, e4, _⟩ := ins_of r1 s1 e1
  refine ⟨a, dx, vs, rfl, e3, lookup_no (by rw [e4]; exact hc), ?_⟩
  show spDG X.K 1 p [V.ref a] H1 _ EX0
  refine ⟨rfl, o1, [.ref n], st1, Reps.one r1, rfl, s1, ?_⟩
  refine wpR.mono (noX_wp (Z' := fun _ _ => False) (wpR.bind.mp h2)) (fun ds2 st2 q vs2 H2 o2 l2 s2 r2 pp hp => ?_) fun _ _ z => z
  exact ok_newLst (VOk.mono (show VOk X.K H o Q (.lst ds2) st2 from q) (l1.trans l2)) s2 r2 hp
theorem calG_of {p : List D → M (List D)} (h1 : (He.Fa.meth c m).ok K = true) (F : ∃ fd, GFn P w K mg base k (He.ma K (He.ga K c) m) fd ps (spDG K 1 p) ∧ Binds K fd ps []) : CalG P w K mg base k c m p :=
  let ⟨fd, G, b⟩ := F
  ⟨_, fd, ps, G, He.meth_ok h1, b⟩
end
end MP

namespace MP
open PySem L2
open PySem.Spec PyProof.Rows
section
variable {K : Frag} {E : XK} {H H' : Hp} {o o' : Lo} {st : Store} {X : Cx} {k : Nat}
/-! ## xs.pop() of a list of one's own -/
def mPop : D → List D → M D
  | .ref n, [] => fun st => match st[n]? with
    | some (.lst ds) => (match ds.getLast? with
      | some y => .ok y (st.set n (.lst ds.dropLast))
      | none => .stuck)
    | _ => .stuck
  | _, _ => M.stuck
theorem Reps.dropLast : ∀ {ds : List D} {vs : List V}, Reps K H o ds vs → Reps K H o ds.dropLast vs.dropLast
  | [], vs, h => by cases (show vs = [] from h); rfl
  | [d], vs, h => by
    obtain ⟨v, vs', rfl, h1, h2⟩ := h
    cases (show vs' = [] from h2)
    rfl
  | d :: d' :: ds, vs, h => by
    obtain ⟨v, vs', rfl, h1, h2⟩ := h
    obtain ⟨v', vs'', rfl, h3, h4⟩ := id h2
    exact ⟨v, _, rfl, h1, Reps.dropLast h2⟩
theorem md_pop : MtD X E "list.pop" mPop := by
  intro pins s σ H x xs v us Q I rx rs h
  obtain ⟨o, dx, ds, st, r1, r2, so, h⟩ := h
  cases dx with
  | ref n =>
    cases ds with
    | cons _ _ => exact False.elim h
    | nil =>
      cases (show xs = [] from r2)
      have h' : wpR (match st[n]? with | some (.lst ds) => (match ds.getLast? with | some y => R.ok y (st.set n (.lst ds.dropLast)) | none => .stuck) | _ => .stuck) (VOk X.K H o Q) (XOk X.K E H o) := h
      cases q : st[n]? with
      | none => rw [q] at h'; exact False.elim h'
      | some c =>
        rw [q] at h'
        cases c with
        | lst ds =>
          obtain ⟨a, xs, e1, e2, e3⟩ := so.cell n _ q
          obtain ⟨b, rfl, h1⟩ := r1
          have : a = b := by
            rw [e1] at h1
            rcases h1 with h1 | h1
            · cases h1; rfl
            · cases h1
          subst this
          have h2 : wpR (match ds.getLast? with | some y => R.ok y (st.set n (.lst ds.dropLast)) | none => .stuck) (VOk X.K H o Q) (XOk X.K E H o) := h'
          cases qb : ds.getLast? with
          | none => rw [qb] at h2; exact False.elim h2
          | some y =>
            rw [qb] at h2
            rw [List.getLast?_eq_getElem?] at qb
            obtain ⟨u, hu, ru⟩ := e3.get qb
            rw [← e3.length] at hu
            have hm : some a ∈ o.l := List.mem_of_getElem? e1
            refine mt_pop pins s σ H _ _ v us Q I rx rs ⟨a, xs, u, rfl, rfl, e2, hu, ?_⟩
            exact (show VOk X.K H o Q y (st.set n (.lst ds.dropLast)) from h2) u _ o (Le.write hm) (so.write e1 ⟨a, _, rfl, upd_same, (Le.write hm).rep.reps e3.dropLast⟩) ((Le.write hm).rep _ _ ru)
        | _ => exact False.elim h'
  | _ => exact False.elim h
theorem pd_methZ {T id : String} {name : Str} {op : D → List D → M D} {a : Expr} {f : Den} {apos cpos : Pos} (pa : PlainAttrs T) (slot : Slot T name id) (hty : typeOf (.builtin id) = pure (.type "method_descriptor")) (hm : MtD X E id op)
    (ho : PD X E a f) (hbase : attributeBase a name X.env (eval a X.env) = eval a X.env) (hline : (apos.endLine == cpos.line) = true) :
    PD X E (.Call (.Attribute a name apos) [] [] cpos) (dMeth T op f dNil) := PE.imp (pe_bm0 pa slot hty hm ho hbase hline) fun σ H Q h => by
  obtain ⟨o, ρ, st, he, hs, h⟩ := h
  refine ⟨o, ρ, st, he, hs, ?_⟩
  refine (wpR.bind.mp h).mono (fun x st1 h1 v H1 o1 l1 s1 r1 => ?_) fun _ _ x => x
  obtain ⟨ty, h2⟩ := isTy_wp r1 s1 (wpR.bind.mp h1)
  refine ⟨ty, o1, x, [], st1, r1, rfl, s1, ?_⟩
  exact wpR.mono h2 (fun _ _ x => x.mono l1) fun _ _ x => x.mono l1
abbrev slot_pop := PySem.F.slot_list_pop
abbrev ty_pop := PySem.F.type_list_pop
/-! ## tuples of which it is known that they have no dict: made by a display, by + -/
def tTupN (t : TA) : TE := fun σ H Q => t σ H fun xs H1 => xs.length ≤ sizeLine ∧ ∀ p ob, H1 p = none → ob.dict = none → Q (.ref p) (upd H1 p (.frz ob (.tup xs)))
theorem pe_tupN {es : List Expr} {t : TA} {k : Nat} {pos : Pos} (h : PA X es t) : PE X (.Tuple es k pos) (tTupN t) := by
  refine ⟨fun pins s σ H Q I hq => ?_⟩
  refine wpAny_Tuple_spliced (thn (h.run pos pins s σ H _ I hq) fun us s1 ⟨xs, H1, I1, r, z, q⟩ => ⟨by rw [← r.length]; exact z, ?_⟩)
  have hf : H1 s1.heap.objs.size = none := I1.hok.fresh (Nat.le_refl _)
  refine ⟨.ref s1.heap.objs.size, upd H1 s1.heap.objs.size (.frz { cls := .type "tuple", data := .seq us.toArray } (.tup xs)), I1.laid (t' := s1.toks) (fun b u e => Heap.get?_push_of_some _ e) (Nat.le_refl _) ?_, rfl, q _ _ hf ?_⟩
  · exact ⟨Heap.get?_push_size _ rfl, z, us, r, ⟨_, Heap.get?_push_size _ rfl, rfl, _, rfl⟩⟩
  · rfl
theorem ok_newTupN {Q : VK} {ds : List D} {xs : List V} {p : Addr} {ob : Obj} (h : VOk K H o Q (.tupn ds) st) (s : StOk K H o st) (r : Reps K H o ds xs) (hp : H p = none) (hd : ob.dict = none) : Q (.ref p) (upd H p (.frz ob (.tup xs))) :=
  h _ _ _ (Le.new hp) (s.new hp) ⟨p, ob, xs, rfl, upd_same, hd, s.avOf hp, (Le.new hp).rep.reps r⟩
@[simp] def dTupN (fs : DenL) : Den := fun ρ => fs ρ >>= fun ds => guardM (decide (ds.length ≤ big)) (pure (.tupn ds))
theorem pd_tupN {es : List Expr} {fs : DenL} {k : Nat} {pos : Pos} (h : PL X E es fs) : PD X E (.Tuple es k pos) (dTupN fs) := PE.imp (pe_tupN h) fun σ H Q h => by
  obtain ⟨o, ρ, st, he, hs, h⟩ := h
  refine ⟨o, ρ, st, he, hs, ?_⟩
  refine (wpR.bind.mp h).mono (fun ds st1 h1 vs H1 o1 l s1 r => ?_) fun _ _ x => x
  obtain ⟨hl, h2⟩ := guardM_wp h1
  exact ⟨by rw [r.length]; exact Nat.le_trans (of_decide_eq_true hl) big_le, fun p ob hp hd => ok_newTupN (VOk.mono h2 l) s1 r hp hd⟩
def opAddN : D → D → M D
  | .tup ds, .tupn es => guardM (decide (ds.length + es.length ≤ big) && !es.isEmpty) (pure (.tupn (ds ++ es)))
  | .tupn ds, .tup es => guardM (decide (ds.length + es.length ≤ big) && !ds.isEmpty) (pure (.tupn (ds ++ es)))
  | _, _ => M.stuck
theorem cat_N {pins : List (Addr × Obj)} {s : Shared} {σ : L2.St} {a b : Addr} {xs ys : List V} {v u : Value} {Q : VK} (I : Inv X pins σ H s) (rx : L2.RelV (.ref a) v) (ry : L2.RelV (.ref b) u) (ha : SqT X.K H a xs) (hb : SqT X.K H b ys) (hz : xs.length + ys.length ≤ sizeLine)
    (q0 : xs = [] → Q (.ref b) H) (q1 : xs ≠ [] → ys = [] → Q (.ref a) H) (q2 : ∀ p ob, H p = none → ob.dict = none → Q (.ref p) (upd H p (.frz ob (.tup (xs ++ ys))))) : wpAny (model X.prog X.w) X.A (binaryOp .Add v u) (EP X pins σ Q) X.xe s := by
  cases rx
  cases ry
  obtain ⟨its, r1, p1, _⟩ := I.tuple ha
  obtain ⟨its2, r2, p2, _⟩ := I.tuple hb
  by_cases hx : xs = []
  · subst hx
    cases r1
    exact cat_tup0 p1 p2 ⟨.ref b, H, I, rfl, q0 rfl⟩
  · refine HT.cat_tup p1 p2 (fun z => hx (r1.nil_iff.mp z)) (fun z => ⟨.ref a, H, I, rfl, q1 hx (r2.nil_iff.mp z)⟩) (fun z => ?_) (by rw [← r1.length, ← r2.length]; exact hz)
    refine ⟨.ref s.heap.objs.size, _, I.laid (t' := s.toks) (o := .frz { cls := .type "tuple", data := .seq (its ++ its2).toArray } (.tup (xs ++ ys))) (fun b ob q => Heap.get?_push_of_some _ q) (Nat.le_refl _) ?_, rfl, q2 _ _ (I.hok.fresh (Nat.le_refl _)) ?_⟩
    · exact ⟨Heap.get?_push_size _ rfl, by rw [List.length_append]; exact hz, _, r1.append r2, IsTup.new _ _⟩
    · rfl
theorem od_addN : OpD X E (binaryOp .Add) opAddN := by
  intro pins s σ H x y v u Q I rx ry h
  obtain ⟨dx, dy, o, st, r1, r2, so, h⟩ := h
  cases dx with
  | tup ds =>
    cases dy with
    | tupn es =>
      obtain ⟨hl, h⟩ := guardM_wp h
      simp only [Bool.and_eq_true, decide_eq_true_eq, Bool.not_eq_true', List.isEmpty_eq_false_iff] at hl
      obtain ⟨hl, hne⟩ := hl
      obtain ⟨a, xs, rfl, k1, q1⟩ := r1
      obtain ⟨b, ob, ys, rfl, k2, kd, av, q2⟩ := r2
      refine cat_N I rx ry (tup_sq k1) (.inl (.inr ⟨ob, k2⟩)) (by rw [q1.length, q2.length]; exact Nat.le_trans hl big_le) (fun e => ?_) (fun _ e => ?_) fun p ob hp hd => ok_newTupN h so (q1.append q2) hp hd
      · have e' := (q1.nil_iff).mp e
        subst e'
        exact ok_flat h so ⟨b, ob, ys, rfl, k2, kd, av, q2⟩
      · exact absurd ((q2.nil_iff).mp e) hne
    | _ => exact False.elim h
  | tupn ds =>
    cases dy with
    | tup es =>
      obtain ⟨hl, h⟩ := guardM_wp h
      simp only [Bool.and_eq_true, decide_eq_true_eq, Bool.not_eq_true', List.isEmpty_eq_false_iff] at hl
      obtain ⟨hl, hne⟩ := hl
      obtain ⟨a, ob, xs, rfl, k1, kd, av, q1⟩ := r1
      obtain ⟨b, ys, rfl, k2, q2⟩ := r2
      refine cat_N I rx ry (.inl (.inr ⟨ob, k1⟩)) (tup_sq k2) (by rw [q1.length, q2.length]; exact Nat.le_trans hl big_le) (fun e => ?_) (fun _ e => ?_) fun p ob hp hd => ok_newTupN h so (q1.append q2) hp hd
      · exact absurd ((q1.nil_iff).mp e) hne
      · have e' := (q2.nil_iff).mp e
        subst e'
        exact ok_flat h so ⟨a, ob, xs, rfl, k1, kd, av, by simpa using q1⟩
    | _ => exact False.elim h
  | _ => exact False.elim h
/-! ## t.index(i) of such a tuple of ints -/
theorem flat_intsV (ys : List Int) : (ys.map V.int).all flatV = true := by
  rw [List.all_map]
  exact List.all_eq_true.mpr fun _ _ => rfl
theorem mt_tup_indexI : MtR X "tuple.index" (fun x xs H Q => ∃ p, ∃ ys : List Int, ∃ z j, x = .ref p ∧ xs = [.int z] ∧ SqT X.K H p (ys.map V.int) ∧ ys[j]? = some z ∧ (∀ m, m < j → ys[m]? ≠ some z) ∧ Q (.int (j : Nat)) H) := by
  intro pins s σ H x xs v us Q I rx rs h
  obtain ⟨p, ys, z, j, rfl, rfl, hq, hy, hno, q⟩ := h
  cases rx
  obtain ⟨u, rfl, t, rfl⟩ := vals1 rs
  obtain ⟨its, r, pl, hz⟩ := I.tuple hq
  obtain ⟨⟨cls, dd, dt, sl⟩, ho, hc, n, hd⟩ := pl
  simp only at hc hd
  subst hc
  subst hd
  have hl : its.toArray.size = ys.length := by rw [List.size_toArray, ← r.length, List.length_map]
  have hj : j < its.toArray.size := by rw [hl]; exact (List.getElem?_eq_some_iff.mp hy).1
  have at' : ∀ (m : Nat) (hm : m < its.toArray.size), ∃ y t', ys[m]? = some y ∧ its.toArray[m] = Value.int y t' := fun m hm => by
    have hm' : m < ys.length := by rw [← hl]; exact hm
    obtain ⟨w, hw, t', hw'⟩ := r.get (i := m) (x := .int ys[m]) (by simp [hm'])
    refine ⟨ys[m], t', List.getElem?_eq_getElem hm', ?_⟩
    have e := (List.getElem?_eq_some_iff.mp hw).2
    rw [← hw', ← e]
    simp
  refine call_meets PySem.F.slot_tuple_index ⟨_, ho, rfl⟩ PySem.F.entry_tuple_index (PySem.F.args_tuple_index_2 _ _) (TI.tuple_indexAt p its.toArray n dd sl (.int z t) (eqU (.int z)) j hj ?_ ?_)
    ⟨ho, fun w hw => mem_eqAt (x := .int z) ⟨t, rfl⟩ rfl r (flat_intsV ys) w (by simpa using hw), ⟨.int (j : Nat), H, I.tok _, ⟨_, rfl⟩, q⟩⟩
  · obtain ⟨y, t', h1, h2⟩ := at' j hj
    rw [hy] at h1
    cases h1
    rw [h2]
    simp [eqU, eqV]
  · intro m hm hmj
    obtain ⟨y, t', h1, h2⟩ := at' m hm
    rw [h2]
    have hne : y ≠ z := fun e => hno m hmj (e ▸ h1)
    simp [eqU, eqV, hne]
def mIndexN : D → D → M D
  | .tupn ds, .int i => (match intsD ds with
    | some ns => (match ns.findIdx? (fun x => x == i) with
      | some j => pure (.int (j : Int))
      | none => M.stuck)
    | none => M.stuck)
  | _, _ => M.stuck
def tBMN (r : V → List V → Hp → VK → Prop) (to : TE) (t : TA) : TE := fun σ H Q => to σ H fun x H1 => (∃ a ob xs, x = .ref a ∧ H1 a = some (.frz ob (.tup xs)) ∧ ob.dict = none) ∧ t σ H1 fun xs H2 => r x xs H2 Q
theorem pe_bmN {o e : Expr} {es : List Expr} {to : TE} {t : TA} {name : Str} {apos cpos : Pos} {id : String} {r : V → List V → Hp → VK → Prop} (slot : Slot "tuple" name id) (hty : typeOf (.builtin id) = pure (.type "method_descriptor")) (hm : MtR X id r) (ho : PE X o to) (ha : PA X (e :: es) t)
    (hbase : attributeBase o name X.env (eval o X.env) = eval o X.env)
    (hfew : ((backTo cpos (starEach (e :: es) X.env)).all (fun x => !x.1) && (backToKw cpos (keywordEach [] X.env)).all (fun x => x.1.isSome)
      && decide ((e :: es).length + ([] : List Keyword).length + (if ([] : List Keyword).isEmpty then 0 else 1) < 30)) = true)
    (hline : (apos.endLine == cpos.line) = true) (hs : starEach (e :: es) X.env = (false, eval e X.env) :: starEach es X.env) (hplain : (backTo cpos (starEach es X.env)).any (·.1) = false) :
    PE X (.Call (.Attribute o name apos) (e :: es) [] cpos) (tBMN r to t) := by
  refine ⟨fun pins s σ H Q I h => ?_⟩
  refine wpAny_Call_method_late hbase hfew hline rfl (thn (ho.run pins s σ H _ I h) fun v s1 ⟨x, H1, I1, r1, ⟨a, ob, xs, ex, ea, ed⟩, q1⟩ => ?_)
  subst ex
  obtain rfl : v = Value.ref a := r1
  obtain ⟨eo, _, its, _, ⟨ob', e', hc, _⟩⟩ := I1.hok a _ ea
  rw [eo] at e'
  cases e'
  refine ⟨"tuple", id, PySem.F.plainAttrs_tuple, slot, hty, ⟨ob, eo, hc⟩, fun b eb => (by cases eb; exact ⟨ob, eo, ed⟩), ?_⟩
  have hA := ha.run cpos pins s1 σ H1 _ I1 q1
  rw [hs] at hA ⊢
  refine Calls.callWith_builtin (by show (false || (backTo cpos (starEach es X.env)).any (·.1)) = false; rw [hplain] <;> rfl) (Calls.evalArgs_plain ?_)
  exact thn hA fun us s2 ⟨vs, H2, I2, r2, q2⟩ => hm pins s2 σ H2 (.ref a) vs (.ref a) us Q I2 rfl r2 q2
def isTN : D → M Unit
  | .tupn _ => pure ()
  | _ => M.stuck
@[simp] def dIndexN (f g : Den) : Den := fun ρ => f ρ >>= fun x => isTN x >>= fun _ => g ρ >>= fun y => mIndexN x y
theorem pd_indexN {a e : Expr} {f g : Den} {apos cpos : Pos} (ho : PD X E a f) (ha : PD X E e g) (hbase : attributeBase a "index" X.env (eval a X.env) = eval a X.env)
    (hfew : ((backTo cpos (starEach [e] X.env)).all (fun x => !x.1) && (backToKw cpos (keywordEach [] X.env)).all (fun x => x.1.isSome)
      && decide ([e].length + ([] : List Keyword).length + (if ([] : List Keyword).isEmpty then 0 else 1) < 30)) = true)
    (hline : (apos.endLine == cpos.line) = true) (hs : starEach [e] X.env = (false, eval e X.env) :: starEach [] X.env) (hplain : (backTo cpos (starEach [] X.env)).any (·.1) = false) :
    PD X E (.Call (.Attribute a "index" apos) [e] [] cpos) (dIndexN f g) :=
  PE.imp (pe_bmN PySem.F.slot_tuple_index PySem.F.type_tuple_index mt_tup_indexI ho (pa_cons ha pa_nil hs) hbase hfew hline hs hplain) fun σ H Q h => by
    obtain ⟨o, ρ, st, he, hs, h⟩ := h
    refine ⟨o, ρ, st, he, hs, ?_⟩
    refine (wpR.bind.mp h).mono (fun x st1 h1 v H1 o1 l1 s1 r1 => ?_) fun _ _ x => x
    have h2 := wpR.bind.mp h1
    cases x with
    | tupn ds =>
      obtain ⟨b, ob, xs, rfl, k1, kd, av, q1⟩ := id r1
      refine ⟨⟨b, ob, xs, rfl, k1, kd⟩, ?_⟩
      refine ⟨o1, ρ, st1, he.mono l1.rep, s1, ?_⟩
      have h3 : wpR ((g ρ >>= fun y => mIndexN (.tupn ds) y) st1) (VOk X.K H o Q) (XOk X.K E H o) := h2
      refine (wpR.bind.mp h3).mono (fun y st2 h4 w H2 o2 l2 s2 r2 => ?_) fun _ _ x => x.mono l1
      show _
      refine (fun (hh : _) => hh) ?_
      cases y with
      | int i =>
        cases (show w = .int i from r2)
        have h5 : wpR ((match intsD ds with
          | some ns => (match ns.findIdx? (fun x => x == i) with
            | some j => (pure (.int (j : Int)) : M D)
            | none => M.stuck)
          | none => M.stuck) st2) (VOk X.K H o Q) (XOk X.K E H o) := h4
        cases e1 : intsD ds with
        | none => rw [e1] at h5; exact False.elim h5
        | some ns =>
          rw [e1] at h5
          cases e2 : ns.findIdx? (fun x => x == i) with
          | none => simp only [e2] at h5; exact False.elim h5
          | some j =>
            simp only [e2] at h5
            obtain ⟨b', ob', xs', eb, k1', _, _, q1'⟩ := Rep.mono l2 _ _ r1
            cases eb
            rw [intsD_eq e1] at q1'
            have q2 := q1'.ints
            subst q2
            obtain ⟨hj, p1, p2⟩ := List.findIdx?_eq_some_iff_getElem.mp e2
            show ∃ p, ∃ ys : List Int, ∃ z j, _
            refine ⟨b, ns, i, j, rfl, rfl, .inl (.inr ⟨ob', k1'⟩), ?_, fun m hm => ?_, ?_⟩
            · rw [List.getElem?_eq_getElem hj, eq_of_beq p1]
            · have hm' : m < ns.length := by omega
              rw [List.getElem?_eq_getElem hm']
              intro ee
              have := p2 m hm
              simp at this
              exact this (Option.some.inj ee)
            · exact (show VOk X.K H o Q (.int (j : Int)) st2 from h5) _ H2 o2 (l1.trans l2) s2 rfl
      | _ => exact False.elim h4
    | _ => exact False.elim h2
end
/-! ## o += e of an instance -/
section
open PySem.W
variable {K : PySem.W.Frag} {C f x L : Addr} {h₀ : Heap} {m : Str → Option Value} {ox : Obj} {od : Option Obj} {A : Around} {E : Value → Shared → Prop} {s : Shared}
theorem ifills_K {M : Model} {h : Heap} {nm : String} {add : Bool} {cd : ClassData} {rest : List Value} (X : K.In h) (hc : clsIn K C = some cd) (hm : cd.mro = .ref C :: rest) (hs : findIn K (.ref C) (dunderI nm) = some (some (.ref f))) : Looks M h (fillsInplaceSlot (.ref C) nm add) true := by
  intro A Q E s k q
  unfold fillsInplaceSlot
  refine wpAny_bind ((looks_clsIn X hc).andThen (f := fun cd => pure cd.mro) .now A _ E s k ?_)
  rw [hm, List.anyM_cons]
  refine wpAny_bind (wpAny_bind (looks_findIn X hs A _ E s k ?_))
  dsimp only
  rw [if_pos (show (!ownNameWrapper (.ref f) (dunderI nm)) = true from rfl)]
  refine wpAny_pure ?_
  rw [if_pos rfl]
  exact wpAny_pure q
theorem iop_K {prog : Program} {w : World} {op : Operator} {b : Value} {Q : Value → Shared → Prop} (F : PyProof.Rows.Fr h₀ L s.heap m) (X₀ : K.In h₀) (I : InstAt s.heap x ox C od) (hc : selfFirst K C = true)
    (hs : findIn K (.ref C) (dunderI op.info.2) = some (some (.ref f))) (hf : isFn K (.ref f) = true)
    (h : wpAny (model prog w) A (call (.ref f) [.ref x, b]) (PySem.W.CmpBack Q) E s) : wpAny (model prog w) A (inplaceOp op (.ref x) b) Q E s := by
  have X := X₀.keeps F.keep
  obtain ⟨cd, hcd, hm⟩ := any_some hc
  obtain ⟨rest, hm⟩ : ∃ rest, cd.mro = .ref C :: rest := by
    cases q : cd.mro with
    | nil => rw [q] at hm; cases hm
    | cons a r => rw [q] at hm; exact ⟨r, by rw [List.head?_cons] at hm; cases (beq_iff_eq.mp hm); rfl⟩
  unfold inplaceOp
  refine wpAny_holding ?_
  refine wpAny_bind (I.type.here (wpAny_bind ((ifills_K X hcd hm hs).here ?_)))
  rw [if_pos rfl]
  refine wpAny_bind (m := tryMethod (.ref x) _ b) ?_
  unfold tryMethod
  refine wpAny_bind (special_fn X I hs (beq_iff_eq.mp hf) (wpAny_mono h (fun v s' hv => ?_) fun _ _ e => e))
  cases v <;> first | exact hv.elim | exact wpAny_pure (wpAny_bind (wpAny_rule (wpAny_pure hv)))
end
section
variable {K : Frag} {E : XK} {H H' : Hp} {o o' : Lo} {st : Store} {X : Cx} {k j : Nat}
def iaddC (c : Str) (p : List D → M D) : D → D → M D := fun x y st => match msAt [(c, p)] st x with
  | some (_, p) => p [x, y] st
  | none => .stuck
theorem ip_addC {c : Str} {p : List D → M D} (ck : Cok X E k) (C : ClsF X.K c) (F : CalM X.prog X.w X.K X.mg X.base j c "__iadd__" 2 p) (hj : j ≤ k) : PIp X .Add (rTwo X.K E (iaddC c p)) := by
  intro pins s σ H x y v u Q I rx ry h
  obtain ⟨dx, dy, o, st, r1, r2, so, hw⟩ := h
  unfold iaddC at hw
  cases e : msAt [(c, p)] st dx with
  | none => rw [e] at hw; exact False.elim hw
  | some z =>
    obtain ⟨c', p'⟩ := z
    rw [e] at hw
    obtain ⟨n, a, dx', vs, rfl, rfl, ea, C', F'⟩ := ms_of r1 so (MsOk.cons C F .nil) e
    obtain ⟨f, G, hme, hf⟩ := F'.ex
    obtain ⟨mA, O, _⟩ := ins_get I.hok ea
    obtain ⟨od, J, _⟩ := O.look
    obtain ⟨mm, hF⟩ := I.fr
    cases (show v = Value.ref a from rx)
    refine iop_K (op := .Add) hF I.ok.mod.kin J C'.sf hme.at_ hme.fn ?_
    refine wpAny_mono (run_R (us := [.ref a, u]) (vs := [.ref a, y]) ck G hj I (.cons rfl (.cons ry .nil)) (spD_of (ds := [.ref n, dy]) rfl so ⟨_, _, rfl, r1, _, _, rfl, r2, rfl⟩ hw)) (fun w s' z => ?_) fun _ _ x => x
    obtain ⟨z', H', I', rz, qz⟩ := z
    exact SlX.cmpback rz ⟨z', H', I', rz, qz⟩
def dAug (i : Nat) (f : Den) (op : D → D → M D) : DenS := fun ρ => dVar i ρ >>= fun x => f ρ >>= fun y => op x y >>= fun z => pure (.nx (ρ.set i (some z)))
theorem dp_aug {i : Nat} {x : Str} {e : Expr} {f : Den} {op : Operator} {p : D → D → M D} {pos' pos : Pos} (hN : X.N.Nodup) (hi : X.N[i]? = some x) (hx : Loc X.env.scope x) (he : PD X E e f) (ho : PIp X op (rTwo X.K E p)) (hf : X.fn x = true ∨ X.env.scope.names.lookup x = some .local) :
    PDS X E (.AugAssign (.Name x pos') op e pos) (dAug i f p) := PS.imp (ps_aug hN hi hx he ho hf) fun D σ H h => by
  obtain ⟨o, ρ, st, he, so, h⟩ := h
  have h0 : wpR ((dVar i ρ >>= fun x => f ρ >>= fun y => p x y >>= fun z => pure (.nx (ρ.set i (some z)))) st) (FOk X.K H o D) (XOk X.K E H o) := h
  have h1 : wpR ((match ρ[i]? with | some (some d) => (pure d : M MP.D) | _ => M.stuck) st) _ _ := wpR.bind.mp h0
  cases q : ρ[i]? with
  | none => rw [q] at h1; exact False.elim h1
  | some z =>
    rw [q] at h1
    cases z with
    | none => exact False.elim h1
    | some d =>
      obtain ⟨v, e1, r1⟩ := he.2 i d q
      have h2 : wpR ((f ρ >>= fun y => p d y >>= fun z => pure (.nx (ρ.set i (some z)))) st) (FOk X.K H o D) (XOk X.K E H o) := h1
      refine ⟨v, e1, o, ρ, st, he, so, (wpR.bind.mp h2).mono (fun y st1 h3 w H1 o1 l1 s1 r2 => ?_) fun _ _ z => z⟩
      refine ⟨d, y, o1, st1, Rep.mono l1 _ _ r1, r2, s1, (wpR.bind.mp h3).mono (fun z st2 h4 u H2 o2 l2 s2 r3 => ?_) fun _ _ z => z.mono l1⟩
      exact (show EOk X.K H o D.nx (ρ.set i (some z)) st2 from h4) _ H2 o2 (l1.trans l2) s2 (((he.mono l1.rep).mono l2.rep).set i r3)
end
/-! ## sorted(list of ints) -/
section
variable {K : Frag} {E : XK} {H H' : Hp} {o o' : Lo} {st : Store} {X : Cx} {k j : Nat}
def leI (a b : Int) : Bool := decide (a ≤ b)
def sortIn (ns : List Int) : List Int := ns.mergeSort leI
theorem sortIn_perm (ns : List Int) : (sortIn ns).Perm ns := List.mergeSort_perm _ _
theorem sortIn_pw (ns : List Int) : (sortIn ns).Pairwise (fun a b => leI a b = true) := List.pairwise_mergeSort (fun a b c h k => by simp [leI] at *; omega) (fun a b => by simp [leI]; omega) ns
theorem sortIn_eq {xs ys : List Int} (p : ys.Perm xs) (h : ys.Pairwise (· ≤ ·)) : ys = sortIn xs :=
  List.Perm.eq_of_pairwise (le := fun a b => leI a b = true) (fun a b _ _ h k => by simp [leI] at h k; omega) (h.imp fun q => by simpa [leI] using q) (sortIn_pw xs) (p.trans (sortIn_perm xs).symm)
def biSortI : D → M D
  | .lst ds => match intsD ds with
    | some ns => guardM (decide (ns.length < 60)) (pure (.lst ((sortIn ns).map D.int)))
    | none => M.stuck
  | _ => M.stuck
theorem cd_sortI : CallD X E (.builtin "sorted") (on1 biSortI) := cd_on1 fun pins s σ H v us Q d o st I r r1 so h => by
  cases d with
  | lst ds =>
    have h' : wpR ((match intsD ds with | some ss => guardM (decide (ss.length < 60)) (pure (.lst ((sortIn ss).map D.int))) | none => M.stuck : M D) st) (VOk X.K H o Q) (XOk X.K E H o) := h
    cases e : intsD ds with
    | none => rw [e] at h'; exact False.elim h'
    | some ss =>
      rw [e] at h'
      have es := intsD_eq e
      subst es
      obtain ⟨hc, h'⟩ := guardM_wp h'
      have hc := of_decide_eq_true hc
      obtain ⟨a, xs, rfl, k, av, r2⟩ := r1
      rw [r2.ints] at k
      exact cr_sorted pins s σ H _ us Q I r ⟨a, ss, rfl, SqL.of k, by omega, fun ys p hp hs hn => by
        rw [sortIn_eq hp hs]
        exact ok_newLst h' so (Reps.ofInts _) hn⟩
  | _ => exact False.elim h
end
end MP

namespace LW
open PySem L2 MP
open PySem.Spec PyProof.Rows
abbrev fuelR : Nat := 70
abbrev fuelW : Nat := 100000
abbrev g_THINGS : D := .tup [.str "held", .str "place", .str "next"]
abbrev g_JOINTS : D := .tup [.str "and", .str "or"]
abbrev g_MOST_POINTERS : D := .int 40
abbrev g_TURNED : List (Key × D) := [(.inr "below", .str "above"), (.inr "above", .str "below"), (.inr "not below", .str "not above"), (.inr "not above", .str "not below")]
def p_is_among_b : DenS :=
  dRet (dAnd (d1 (opIsi "str") (dVar 1)) (d2 (opIn false) (dVar 1) (dVar 0)))
def p_is_among : List D → M D := runDef 2 p_is_among_b
def p_is_number_b : DenS :=
  dRet (dAnd (d1 (opIsi "int") (dVar 0)) (dNot (d1 (opIsi "bool") (dVar 0))))
def p_is_number : List D → M D := runDef 1 p_is_number_b
def p_is_point_b : DenS :=
  dSeq (dIfS (dBOr (dBNot (bVal (d1 (opIsi "tuple") (dVar 0)))) (bVal (d2 (opEq false) (dVar 0) (dTup (dNil))))) (dRet (dC (.bl false))) (dSkip)) <|
  dSeq (dIfS (bVal (d2 (opEq false) (d2 opIx (dVar 0) (dC (.int 0))) (dC (.str "pointer")))) (dRet (d2 (opEq false) (dCall (on1 biLen) (dCons (dVar 0) (dNil))) (dC (.int 1)))) (dSkip)) <|
  dRet (dAnd (d2 (opEq false) (dCall (on1 biLen) (dCons (dVar 0) (dNil))) (dC (.int 2))) (dAnd (dCall (arity 2 p_is_among) (dCons (dC g_THINGS) (dCons (d2 opIx (dVar 0) (dC (.int 0))) (dNil)))) (dAnd (dCall (arity 1 p_is_number) (dCons (d2 opIx (dVar 0) (dC (.int 1))) (dNil))) (dChain opLe opLe (dC (.int 0)) (d2 opIx (dVar 0) (dC (.int 1))) (dC (.int 4))))))
def p_is_point : List D → M D := runDef 1 p_is_point_b
def p_is_comparison_b : DenS :=
  dSeq (dIfS (dBOr (dBNot (bVal (d1 (opIsi "tuple") (dVar 0)))) (dBOr (bVal (d2 (opEq true) (dCall (on1 biLen) (dCons (dVar 0) (dNil))) (dC (.int 3)))) (dBNot (bVal (dCall (arity 2 p_is_among) (dCons (dKlist g_TURNED) (dCons (d2 opIx (dVar 0) (dC (.int 0))) (dNil)))))))) (dRet (dC (.bl false))) (dSkip)) <|
  dRet (dAnd (dCall (arity 1 p_is_point) (dCons (d2 opIx (dVar 0) (dC (.int 1))) (dNil))) (dCall (arity 1 p_is_point) (dCons (d2 opIx (dVar 0) (dC (.int 2))) (dNil))))
def p_is_comparison : List D → M D := runDef 1 p_is_comparison_b
def p_is_good_condition_b : DenS :=
  dSeq (dIfS (dBOr (dBNot (bVal (d1 (opIsi "tuple") (dVar 0)))) (bVal (d2 (opIn true) (dCall (on1 biLen) (dCons (dVar 0) (dNil))) (dTup (dCons (dC (.int 3)) (dCons (dC (.int 4)) (dNil))))))) (dRet (dC (.bl false))) (dSkip)) <|
  dSeq (dIfS (bVal (dCall (arity 2 p_is_among) (dCons (dC g_JOINTS) (dCons (d2 opIx (dVar 0) (dC (.int 0))) (dNil))))) (dRet (dCall (on1 biAll) (dCons (dLc (iVal (dSl (dVar 0) (oSome (dC (.int 1))) (oNone))) [1] (.nm 1) (bTrue) (dCall (arity 1 p_is_comparison) (dCons (dVar 1) (dNil)))) (dNil)))) (dSkip)) <|
  dRet (dCall (arity 1 p_is_comparison) (dCons (dVar 0) (dNil)))
def p_is_good_condition : List D → M D := runDef 2 p_is_good_condition_b
def p_is_good_rule_b : DenS :=
  dRet (dAnd (d1 (opIsi "tuple") (dVar 0)) (dAnd (d2 (opEq false) (dCall (on1 biLen) (dCons (dVar 0) (dNil))) (dC (.int 2))) (dCall (on1 biAll) (dCons (dLc (iVal (dVar 0)) [1] (.nm 1) (bTrue) (dCall (arity 1 p_is_good_condition) (dCons (dVar 1) (dNil)))) (dNil)))))
def p_is_good_rule : List D → M D := runDef 2 p_is_good_rule_b
def p_need_rule_b : DenS :=
  dIfS (dBNot (bVal (dCall (arity 1 p_is_good_rule) (dCons (dVar 0) (dNil))))) (dRaise "InvalidRule") (dSkip)
def p_need_rule : List D → M D := runDef 1 p_need_rule_b
def p_is_good_drag_b : DenS :=
  dSeq (dIfS (dBOr (dBNot (bVal (d1 (opIsi "tuple") (dVar 0)))) (dBOr (bVal (d2 (opEq true) (dCall (on1 biLen) (dCons (dVar 0) (dNil))) (dC (.int 3)))) (dBNot (bVal (d1 (opIsi "tuple") (d2 opIx (dVar 0) (dC (.int 0)))))))) (dRet (dC (.bl false))) (dSkip)) <|
  dSeq (dAsg (dVar 0) (gOf (.tup [.nm 1, .nm 2, .nm 3]))) <|
  dSeq (dIfS (dBOr (dBNot (bVal (dChain opLe opLe (dC (.int 2)) (dCall (on1 biLen) (dCons (dVar 1) (dNil))) (dC (.int 6))))) (dBNot (bVal (dCall (on1 biAll) (dCons (dLc (iVal (dVar 1)) [4] (.nm 4) (bTrue) (dAnd (dCall (arity 1 p_is_number) (dCons (dVar 4) (dNil))) (d2 opGt (dVar 4) (dC (.int 0))))) (dNil)))))) (dRet (dC (.bl false))) (dSkip)) <|
  dRet (dAnd (dCall (arity 1 p_is_number) (dCons (dVar 2) (dNil))) (dAnd (dChain opLe opLt (dC (.int 0)) (dVar 2) (dCall (on1 biLen) (dCons (dVar 1) (dNil)))) (dAnd (dCall (arity 1 p_is_number) (dCons (dVar 3) (dNil))) (dChain opLe opLe (dC (.int 0)) (dVar 3) (d2 opIx (dVar 1) (dVar 2))))))
def p_is_good_drag : List D → M D := runDef 5 p_is_good_drag_b
def p_need_drag_b : DenS :=
  dIfS (dBNot (bVal (dCall (arity 1 p_is_good_drag) (dCons (dVar 0) (dNil))))) (dRaise "InvalidDrag") (dSkip)
def p_need_drag : List D → M D := runDef 1 p_need_drag_b
def p_Pull_init_b : DenS :=
  dSeq (dExpr (dCall (arity 1 p_need_rule) (dCons (dVar 1) (dNil)))) <|
  dSeq (dExpr (dCall (arity 1 p_need_drag) (dCons (dVar 2) (dNil)))) <|
  dSeq (dAsg (dVar 2) (gOf (.tup [.nm 3, .nm 4, .nm 5]))) <|
  dSeq (dSetF "Pull" "rule" (dVar 0) (dVar 1)) <|
  dSeq (dSetF "Pull" "drag" (dVar 0) (dVar 2)) <|
  dSeq (dSetF "Pull" "now" (dVar 0) (dTup (dCons (d2 opAdd (dCall (on1 biSumA) (dCons (dSl (dVar 3) (oNone) (oSome (dVar 4))) (dNil))) (dVar 5)) (dCons (dVar 4) (dCons (dTup (dNil)) (dNil)))))) <|
  dSetF "Pull" "past" (dVar 0) (dOwn (dNil))
def p_Pull_init : List D → M D := runDef 6 p_Pull_init_b
def p_Pull_pointer_b : DenS :=
  dRet (d2 opIx (dFld "Pull" "now" (dVar 0)) (dC (.int 0)))
def p_Pull_pointer : List D → M D := runDef 1 p_Pull_pointer_b
def p_Pull_place_b : DenS :=
  dRet (d2 opIx (dFld "Pull" "now" (dVar 0)) (dC (.int 1)))
def p_Pull_place : List D → M D := runDef 1 p_Pull_place_b
def p_Pull_order_b : DenS :=
  dSeq (dAsg (d2 opIx (dFld "Pull" "drag" (dVar 0)) (dC (.int 1))) (gSet 1)) <|
  dSeq (dAsg (dCall (on1 biTuple) (dCons (dLc (iRange1 (dCons (dCall (on1 biLen) (dCons (d2 opIx (dFld "Pull" "drag" (dVar 0)) (dC (.int 0))) (dNil))) (dNil))) [3] (.nm 3) (bVal (d2 (opEq true) (dVar 3) (dVar 1))) (dVar 3)) (dNil))) (gSet 2)) <|
  dRet (d2 opAdd (d2 opAdd (dSl (dVar 2) (oNone) (oSome (d2 opIx (dFld "Pull" "now" (dVar 0)) (dC (.int 1))))) (dTup (dCons (dVar 1) (dNil)))) (dSl (dVar 2) (oSome (d2 opIx (dFld "Pull" "now" (dVar 0)) (dC (.int 1)))) (oNone)))
def p_Pull_order : List D → M D := runDef 4 p_Pull_order_b
def p_Pull_orderN_b : DenS :=
  dSeq (dAsg (d2 opIx (dFld "Pull" "drag" (dVar 0)) (dC (.int 1))) (gSet 1)) <|
  dSeq (dAsg (dCall (on1 biTuple) (dCons (dLc (iRange1 (dCons (dCall (on1 biLen) (dCons (d2 opIx (dFld "Pull" "drag" (dVar 0)) (dC (.int 0))) (dNil))) (dNil))) [3] (.nm 3) (bVal (d2 (opEq true) (dVar 3) (dVar 1))) (dVar 3)) (dNil))) (gSet 2)) <|
  dRet (d2 opAddN (d2 opAddN (dSl (dVar 2) (oNone) (oSome (d2 opIx (dFld "Pull" "now" (dVar 0)) (dC (.int 1))))) (dTupN (dCons (dVar 1) (dNil)))) (dSl (dVar 2) (oSome (d2 opIx (dFld "Pull" "now" (dVar 0)) (dC (.int 1)))) (oNone)))
def p_Pull_orderN : List D → M D := runDef 4 p_Pull_orderN_b
def p_Pull_drawn_b : DenS :=
  dRet (d2 opSub (d2 opIx (dFld "Pull" "now" (dVar 0)) (dC (.int 0))) (d2 opIx (dFld "Pull" "drag" (dVar 0)) (dC (.int 2))))
def p_Pull_drawn : List D → M D := runDef 1 p_Pull_drawn_b
def p_point_at_b : DenS :=
  dSeq (dIfS (bVal (d2 (opEq false) (d2 opIx (dVar 0) (dC (.int 0))) (dC (.str "pointer")))) (dRet (d2 opMul (dC (.int 4)) (d2 opIx (dVar 1) (dC (.str "pointer"))))) (dSkip)) <|
  dSeq (dAsg (d2 opIx (dVar 1) (d2 opIx (dVar 0) (dC (.int 0)))) (gOf (.tup [.nm 2, .nm 3]))) <|
  dRet (d2 opAdd (d2 opMul (dC (.int 4)) (dVar 2)) (d2 opMul (d2 opIx (dVar 0) (dC (.int 1))) (dVar 3)))
def p_point_at : List D → M D := runDef 4 p_point_at_b
def p_is_so_b : DenS :=
  dSeq (dAsg (dVar 0) (gOf (.tup [.nm 2, .nm 3, .nm 4]))) <|
  dSeq (dPar [5, 6] (dCons (dCall (arity 2 p_point_at) (dCons (dVar 3) (dCons (dVar 1) (dNil)))) (dCons (dCall (arity 2 p_point_at) (dCons (dVar 4) (dCons (dVar 1) (dNil)))) (dNil)))) <|
  dSeq (dIfS (bVal (d2 (opIn false) (dVar 2) (dTup (dCons (dC (.str "below")) (dCons (dC (.str "not below")) (dNil)))))) (dRet (d2 (opEq false) (d2 opGt (dVar 5) (dVar 6)) (d2 (opEq false) (dVar 2) (dC (.str "below"))))) (dSkip)) <|
  dRet (d2 (opEq false) (d2 opLt (dVar 5) (dVar 6)) (d2 (opEq false) (dVar 2) (dC (.str "above"))))
def p_is_so : List D → M D := runDef 7 p_is_so_b
def p_parts_of_b : DenS :=
  dRet (dIf (bVal (d2 (opIn false) (d2 opIx (dVar 0) (dC (.int 0))) (dC g_JOINTS))) (dCall (on1 biList) (dCons (dSl (dVar 0) (oSome (dC (.int 1))) (oNone)) (dNil))) (dLst (dCons (dVar 0) (dNil))))
def p_parts_of : List D → M D := runDef 1 p_parts_of_b
def p_holds_b : DenS :=
  dSeq (dAsg (dLc (iVal (dCall (arity 1 p_parts_of) (dCons (dVar 0) (dNil)))) [3] (.nm 3) (bTrue) (dCall (arity 2 p_is_so) (dCons (dVar 3) (dCons (dVar 1) (dNil))))) (gSet 2)) <|
  dRet (dIf (bVal (d2 (opEq false) (d2 opIx (dVar 0) (dC (.int 0))) (dC (.str "or")))) (dCall (on1 biAny) (dCons (dVar 2) (dNil))) (dCall (on1 biAll) (dCons (dVar 2) (dNil))))
def p_holds : List D → M D := runDef 4 p_holds_b
def p_others_of_b : DenS :=
  dSeq (dAsg (dVar 0) (gOf (.tup [.nm 1, .nm 2, .nm 3]))) <|
  dRet (d2 opAdd (dSl (dVar 1) (oNone) (oSome (dVar 2))) (dSl (dVar 1) (oSome (d2 opAdd (dVar 2) (dC (.int 1)))) (oNone)))
def p_others_of : List D → M D := runDef 4 p_others_of_b
def p_spans_at_b : DenS :=
  dSeq (dAsg (dVar 0) (gOf (.tup [.nm 4, .nm 5, .nm 6]))) <|
  dSeq (dPar [7, 8] (dCons (dCall (arity 1 p_others_of) (dCons (dVar 0) (dNil))) (dCons (d2 opIx (dVar 4) (dVar 5)) (dNil)))) <|
  dSeq (dAsg (dCall (on1 biSumA) (dCons (dSl (dVar 7) (oNone) (oSome (dVar 2))) (dNil))) (gSet 9)) <|
  dSeq (dAsg (d2 opIx (dVar 7) (d2 opAdd (dVar 2) (dVar 3))) (gSet 10)) <|
  dRet (dDic [(dC (.str "pointer"), dVar 1), (dC (.str "held"), dTup (dCons (d2 opSub (dVar 1) (dVar 6)) (dCons (dVar 8) (dNil)))), (dC (.str "place"), dTup (dCons (dVar 9) (dCons (dVar 8) (dNil)))), (dC (.str "next"), dTup (dCons (dIf (bVal (d2 (opEq false) (dVar 3) (dC (.int 0)))) (d2 opAdd (dVar 9) (dVar 8)) (d2 opSub (dVar 9) (dVar 10))) (dCons (dVar 10) (dNil))))])
def p_spans_at : List D → M D := runDef 11 p_spans_at_b
def p_turn_of_b : DenS :=
  dSeq (dIfS (dBAnd (bVal (d2 opLt (dVar 3) (d2 opSub (dCall (on1 biLen) (dCons (d2 opIx (dVar 1) (dC (.int 0))) (dNil))) (dC (.int 1))))) (bVal (dCall (arity 2 p_holds) (dCons (d2 opIx (dVar 0) (dC (.int 0))) (dCons (dCall (arity 4 p_spans_at) (dCons (dVar 1) (dCons (dVar 2) (dCons (dVar 3) (dCons (dC (.int 0)) (dNil)))))) (dNil)))))) (dRet (dC (.int 1))) (dSkip)) <|
  dSeq (dIfS (dBAnd (bVal (d2 opGt (dVar 3) (dC (.int 0)))) (bVal (dCall (arity 2 p_holds) (dCons (d2 opIx (dVar 0) (dC (.int 1))) (dCons (dCall (arity 4 p_spans_at) (dCons (dVar 1) (dCons (dVar 2) (dCons (dVar 3) (dCons (d1 opNeg (dC (.int 1))) (dNil)))))) (dNil)))))) (dRet (d1 opNeg (dC (.int 1)))) (dSkip)) <|
  dRet (dC (.int 0))
def p_turn_of : List D → M D := runDef 4 p_turn_of_b
def p_rest_of_b : DenS :=
  dSeq (dFor (iRange1 (dCons (d2 opMul (dC (.int 2)) (dCall (on1 biLen) (dCons (d2 opIx (dVar 1) (dC (.int 0))) (dNil)))) (dNil))) (gOf (.nm 4)) (dSeq (dAsg (dCall (arity 4 p_turn_of) (dCons (dVar 0) (dCons (dVar 1) (dCons (dVar 2) (dCons (dVar 3) (dNil)))))) (gSet 5)) <|
  dSeq (dIfS (bVal (d2 (opEq false) (dVar 5) (dC (.int 0)))) (dRet (dVar 3)) (dSkip)) <|
  dAsg (d2 opAdd (dVar 3) (dVar 5)) (gSet 3))) <|
  dRet (dC .non)
def p_rest_of : List D → M D := runDef 6 p_rest_of_b
def p_Pull_go_on_b : DenS :=
  dSeq (dAsg (dFld "Pull" "now" (dVar 0)) (gSet 2)) <|
  dSeq (dFor (iVal (dVar 1)) (gOf (.nm 3)) (dSeq (dAsg (dCall (arity 4 p_rest_of) (dCons (dFld "Pull" "rule" (dVar 0)) (dCons (dFld "Pull" "drag" (dVar 0)) (dCons (dVar 3) (dCons (d2 opIx (dVar 2) (dC (.int 1))) (dNil)))))) (gSet 4)) <|
  dSeq (dIfS (bVal (d2 (opIsN false) (dVar 4) (dC .non))) (dRaise "Flickers") (dSkip)) <|
  dAsg (dTup (dCons (dVar 3) (dCons (dVar 4) (dCons (d2 opAdd (d2 opIx (dVar 2) (dC (.int 2))) (dTup (dCons (dTup (dCons (dVar 3) (dCons (dVar 4) (dNil)))) (dNil)))) (dNil))))) (gSet 2))) <|
  dSeq (dExpr (dMeth "list" mAppend (dFld "Pull" "past" (dVar 0)) (dCons (dFld "Pull" "now" (dVar 0)) (dNil)))) <|
  dSetF "Pull" "now" (dVar 0) (dVar 2)
def p_Pull_go_on : List D → M D := runDef 5 p_Pull_go_on_b
def p_need_pointer_b : DenS :=
  dIfS (dBNot (bVal (dCall (arity 1 p_is_number) (dCons (dVar 0) (dNil))))) (dRaise "InvalidPointer") (dSkip)
def p_need_pointer : List D → M D := runDef 1 p_need_pointer_b
def p_Pull_to_b : DenS :=
  dSeq (dExpr (dCall (arity 1 p_need_pointer) (dCons (dVar 1) (dNil)))) <|
  dSeq (dExpr (dMethC "Pull" "go_on" 2 p_Pull_go_on (dVar 0) (dCons (dTup (dCons (dVar 1) (dNil))) (dNil)))) <|
  dRet (d2 opIx (dFld "Pull" "now" (dVar 0)) (dC (.int 1)))
def p_Pull_to : List D → M D := runDef 2 p_Pull_to_b
def p_are_pointers_b : DenS :=
  dRet (dAnd (d1 (opIsi "tuple") (dVar 0)) (dAnd (d2 opLe (dCall (on1 biLen) (dCons (dVar 0) (dNil))) (dC g_MOST_POINTERS)) (dCall (on1 biAll) (dCons (dLc (iVal (dVar 0)) [1] (.nm 1) (bTrue) (dCall (arity 1 p_is_number) (dCons (dVar 1) (dNil)))) (dNil)))))
def p_are_pointers : List D → M D := runDef 2 p_are_pointers_b
def p_need_pointers_b : DenS :=
  dIfS (dBNot (bVal (dCall (arity 1 p_are_pointers) (dCons (dVar 0) (dNil))))) (dRaise "InvalidPointer") (dSkip)
def p_need_pointers : List D → M D := runDef 1 p_need_pointers_b
def p_Pull_iadd_b : DenS :=
  dSeq (dExpr (dCall (arity 1 p_need_pointers) (dCons (dVar 1) (dNil)))) <|
  dSeq (dExpr (dMethC "Pull" "go_on" 2 p_Pull_go_on (dVar 0) (dCons (dVar 1) (dNil)))) <|
  dRet (dVar 0)
def p_Pull_iadd : List D → M D := runDef 2 p_Pull_iadd_b
def p_Pull_undo_b : DenS :=
  dSeq (dIfS (bVal (d2 (opEq false) (dFld "Pull" "past" (dVar 0)) (dLst (dNil)))) (dRaise "NothingToUndo") (dSkip)) <|
  dSetF "Pull" "now" (dVar 0) (dMeth "list" mPop (dFld "Pull" "past" (dVar 0)) dNil)
def p_Pull_undo : List D → M D := runDef 1 p_Pull_undo_b
def p_Pull_getitem_b : DenS :=
  dSeq (dAsg (d2 opIx (dFld "Pull" "drag" (dVar 0)) (dC (.int 0))) (gSet 2)) <|
  dSeq (dIfS (dBOr (dBNot (bVal (dCall (arity 1 p_is_number) (dCons (dVar 1) (dNil))))) (dBNot (bVal (dChain opLe opLt (dC (.int 0)) (dVar 1) (dCall (on1 biLen) (dCons (dVar 2) (dNil))))))) (dRaise "InvalidPlace") (dSkip)) <|
  dSeq (dAsg (dProp "Pull" p_Pull_orderN (dVar 0)) (gSet 3)) <|
  dRet (dCall (on1 biSumA) (dCons (dLc (iVal (dSl (dVar 3) (oNone) (oSome (dIndexN (dVar 3) (dVar 1))))) [4] (.nm 4) (bTrue) (d2 opIx (dVar 2) (dVar 4))) (dNil)))
def p_Pull_getitem : List D → M D := runDef 5 p_Pull_getitem_b
def p_Pull_contains_b : DenS :=
  dSeq (dIfS (dBOr (dBNot (bVal (dCall (arity 1 p_is_number) (dCons (dVar 1) (dNil))))) (dBNot (bVal (dChain opLe opLt (dC (.int 0)) (dVar 1) (dCall (on1 biLen) (dCons (d2 opIx (dFld "Pull" "drag" (dVar 0)) (dC (.int 0))) (dNil))))))) (dRet (dC (.bl false))) (dSkip)) <|
  dRet (d2 (opEq false) (dCall (arity 4 p_turn_of) (dCons (dFld "Pull" "rule" (dVar 0)) (dCons (dFld "Pull" "drag" (dVar 0)) (dCons (d2 opIx (dFld "Pull" "now" (dVar 0)) (dC (.int 0))) (dCons (dVar 1) (dNil)))))) (dC (.int 0)))
def p_Pull_contains : List D → M D := runDef 2 p_Pull_contains_b
def p_Pull_bool_b : DenS :=
  dRet (dCall (on1 biBool) (dCons (d2 (opEq true) (d2 opIx (dFld "Pull" "now" (dVar 0)) (dC (.int 1))) (d2 opIx (dFld "Pull" "drag" (dVar 0)) (dC (.int 1)))) (dNil)))
def p_Pull_bool : List D → M D := runDef 1 p_Pull_bool_b
def p_Pull_eq_b : DenS :=
  dSeq (dIfS (dBOr (dBNot (bVal (d1 (opIsC "Pull") (dVar 1)))) (dBOr (bVal (d2 (opEq true) (dFld "Pull" "rule" (dVar 0)) (dFld "Pull" "rule" (dVar 1)))) (bVal (d2 (opEq true) (dFld "Pull" "drag" (dVar 0)) (dFld "Pull" "drag" (dVar 1)))))) (dRet (dC (.bl false))) (dSkip)) <|
  dRet (d2 (opEq false) (dSl (dFld "Pull" "now" (dVar 0)) (oNone) (oSome (dC (.int 2)))) (dSl (dFld "Pull" "now" (dVar 1)) (oNone) (oSome (dC (.int 2)))))
def p_Pull_eq : List D → M D := runDef 2 p_Pull_eq_b
def p_Pull_log : List D → M (List D) := runGen 3 (dGenFor (iVal (d2 opIx (dFld "Pull" "now" (dVar 0)) (dC (.int 2)))) (.tup [.nm 1, .nm 2]) (dFs [dFmt (dVar 1), dC (.str ": "), dFmt (dVar 2)]))
def l_source_b : DenS :=
  dSeq (dAsg (dC (.int 0)) (gSet 2)) <|
  dSeq (dIfS (bVal (d2 opLt (dVar 1) (dCall (on1 biLen) (dCons (dVar 0) (dNil))))) (dAsg (dCall (on1 biAbs) (dCons (dCall (on1 biInt) (dCons (d2 opIx (dVar 0) (dVar 1)) (dNil))) (dNil))) (gSet 2)) (dSkip)) <|
  dSeq (dIfS (bVal (d2 opLt (dVar 2) (d2 opPow (dC (.int 10)) (dC (.int 18))))) (dRet (dOwn (dCons (dC (.int 0)) (dCons (d2 opAdd (dC (.int 1)) (d2 opMod (dCall (on1 biInt) (dCons (d2 opAdd (d2 opMul (dVar 2) (dC (.int 7919))) (d2 opMul (dC (.int 104729)) (dVar 1))) (dNil))) (dC (.int 2147483646)))) (dNil))))) (dSkip)) <|
  dRet (dOwn (dCons (dVar 2) (dCons (d2 opAdd (dC (.int 1)) (d2 opMod (dCall (on1 biInt) (dCons (d2 opAdd (dVar 2) (dVar 1)) (dNil))) (dC (.int 2147483646)))) (dNil))))
def l_source : List D → M D := runDef 3 l_source_b
def l_draw_b : DenS :=
  dSeq (dIfS (bVal (d2 opGt (d2 opIx (dVar 0) (dC (.int 0))) (dC (.int 0)))) (dSeq (dAsg (d2 opMod (dCall (on1 biInt) (dCons (d2 opIx (dVar 0) (dC (.int 0))) (dNil))) (dVar 1)) (gSet 2)) <|
  dSeq (dAsg (d2 opDiv (d2 opIx (dVar 0) (dC (.int 0))) (dVar 1)) (gSubD (dVar 0) (dC (.int 0)))) <|
  dRet (dVar 2)) (dSkip)) <|
  dSeq (dAsg (d2 opMod (dCall (on1 biInt) (dCons (d2 opMul (d2 opIx (dVar 0) (dC (.int 1))) (dC (.int 48271))) (dNil))) (dC (.int 2147483647))) (gSubD (dVar 0) (dC (.int 1)))) <|
  dRet (d2 opMod (dCall (on1 biInt) (dCons (d2 opDiv (d2 opMod (dCall (on1 biInt) (dCons (d2 opMul (d2 opIx (dVar 0) (dC (.int 1))) (d2 opIx (dVar 0) (dC (.int 1)))) (dNil))) (dC (.int 2147483629))) (dC (.int 64))) (dNil))) (dVar 1))
def l_draw : List D → M D := runDef 3 l_draw_b
def l_of_b : DenS :=
  dRet (d2 opIx (dVar 1) (dCall (arity 2 l_draw) (dCons (dVar 0) (dCons (dCall (on1 biLen) (dCons (dVar 1) (dNil))) (dNil)))))
def l_of : List D → M D := runDef 2 l_of_b
def l_known_b : DenS :=
  dSeq (dAsg (dCall (arity 2 l_of) (dCons (dVar 0) (dCons (dLst (dCons (dC (.int 0)) (dCons (dC (.int 1)) (dCons (dC (.int 2)) (dCons (dC (.int 2)) (dCons (dC (.int 3)) (dCons (dC (.int 4)) (dNil)))))))) (dNil)))) (gSet 1)) <|
  dSeq (dAsg (dCall (arity 2 l_of) (dCons (dVar 0) (dCons (dLst (dCons (dC (.str "below")) (dCons (dC (.str "not above")) (dNil)))) (dNil)))) (gSet 2)) <|
  dSeq (dAsg (dCall (arity 2 l_of) (dCons (dVar 0) (dCons (dLst (dCons (dTup (dCons (dC (.str "pointer")) (dNil))) (dCons (dTup (dCons (dC (.str "held")) (dCons (dCall (arity 2 l_of) (dCons (dVar 0) (dCons (dLst (dCons (dC (.int 2)) (dCons (dC (.int 4)) (dCons (dC (.int 4)) (dCons (dC (.int 0)) (dNil)))))) (dNil)))) (dNil)))) (dNil)))) (dNil)))) (gSet 3)) <|
  dSeq (dAsg (dIf (bVal (d2 (opEq false) (dVar 3) (dTup (dCons (dC (.str "pointer")) (dNil))))) (dTup (dCons (dC (.str "pointer")) (dNil))) (dTup (dCons (dC (.str "held")) (dCons (d2 opSub (dC (.int 4)) (d2 opIx (dVar 3) (dC (.int 1)))) (dNil))))) (gSet 4)) <|
  dSeq (dAsg (dCall (arity 2 l_of) (dCons (dVar 0) (dCons (dLst (dCons (dTup (dCons (dC (.str "next")) (dCons (dVar 1) (dNil)))) (dCons (dTup (dCons (dC (.str "next")) (dCons (dVar 1) (dNil)))) (dCons (dTup (dCons (dC (.str "place")) (dCons (dC (.int 4)) (dNil)))) (dNil))))) (dNil)))) (gSet 5)) <|
  dSeq (dAsg (dTup (dCons (dVar 2) (dCons (dVar 3) (dCons (dVar 5) (dNil))))) (gSet 6)) <|
  dSeq (dAsg (dTup (dCons (d2 opIx (d2 opIx (dVar 6) (dC (.int 2))) (dC (.int 0))) (dCons (d2 opSub (dC (.int 4)) (d2 opIx (d2 opIx (dVar 6) (dC (.int 2))) (dC (.int 1)))) (dNil)))) (gSet 7)) <|
  dSeq (dAsg (dTup (dCons (dCall (arity 2 l_of) (dCons (dVar 0) (dCons (dLst (dCons (dC (.str "above")) (dCons (dC (.str "not below")) (dNil)))) (dNil)))) (dCons (dVar 4) (dCons (dVar 7) (dNil))))) (gSet 8)) <|
  dSeq (dAsg (dCall (arity 2 l_draw) (dCons (dVar 0) (dCons (dC (.int 4)) (dNil)))) (gSet 9)) <|
  dSeq (dIfS (bVal (d2 (opEq false) (dVar 9) (dC (.int 0)))) (dSeq (dAsg (dTup (dCons (dCall (arity 2 l_of) (dCons (dVar 0) (dCons (dLst (dCons (dC (.str "above")) (dCons (dC (.str "below")) (dNil)))) (dNil)))) (dCons (dTup (dCons (dC (.str "pointer")) (dNil))) (dCons (dTup (dCons (dC (.str "next")) (dCons (d2 opMul (dC (.int 4)) (dCall (arity 2 l_draw) (dCons (dVar 0) (dCons (dC (.int 2)) (dNil))))) (dNil)))) (dNil))))) (gSet 10)) <|
  dAsg (dTup (dCons (dC (.str "and")) (dCons (dVar 6) (dCons (dVar 10) (dNil))))) (gSet 6)) (dSkip)) <|
  dSeq (dIfS (bVal (d2 (opEq false) (dVar 9) (dC (.int 1)))) (dAsg (dTup (dCons (dC (.str "or")) (dCons (dVar 8) (dCons (dTup (dCons (dC (.str "above")) (dCons (dTup (dCons (dC (.str "pointer")) (dNil))) (dCons (dTup (dCons (dC (.str "place")) (dCons (dC (.int 0)) (dNil)))) (dNil))))) (dNil))))) (gSet 8)) (dSkip)) <|
  dRet (dTup (dCons (dVar 6) (dCons (dVar 8) (dNil))))
def l_known : List D → M D := runDef 11 l_known_b
def l_point_b : DenS :=
  dSeq (dAsg (dCall (arity 2 l_of) (dCons (dVar 0) (dCons (dLst (dCons (dC (.str "pointer")) (dCons (dC (.str "pointer")) (dCons (dC (.str "held")) (dCons (dC (.str "place")) (dCons (dC (.str "next")) (dCons (dC (.str "next")) (dNil)))))))) (dNil)))) (gSet 1)) <|
  dSeq (dIfS (bVal (d2 (opEq false) (dVar 1) (dC (.str "pointer")))) (dRet (dTup (dCons (dC (.str "pointer")) (dNil)))) (dSkip)) <|
  dRet (dTup (dCons (dVar 1) (dCons (dCall (arity 2 l_of) (dCons (dVar 0) (dCons (dLst (dCons (dC (.int 0)) (dCons (dC (.int 2)) (dCons (dC (.int 4)) (dCons (dCall (arity 2 l_draw) (dCons (dVar 0) (dCons (dC (.int 5)) (dNil)))) (dNil)))))) (dNil)))) (dNil))))
def l_point : List D → M D := runDef 2 l_point_b
def l_comparison_b : DenS :=
  dSeq (dAsg (dCall (arity 2 l_of) (dCons (dVar 0) (dCons (dLst (dCons (dC (.str "below")) (dCons (dC (.str "above")) (dCons (dC (.str "not below")) (dCons (dC (.str "not above")) (dNil)))))) (dNil)))) (gSet 1)) <|
  dRet (dTup (dCons (dVar 1) (dCons (dCall (arity 1 l_point) (dCons (dVar 0) (dNil))) (dCons (dCall (arity 1 l_point) (dCons (dVar 0) (dNil))) (dNil)))))
def l_comparison : List D → M D := runDef 2 l_comparison_b
def l_condition_b : DenS :=
  dSeq (dAsg (dCall (arity 2 l_of) (dCons (dVar 0) (dCons (dLst (dCons (dC (.int 1)) (dCons (dC (.int 1)) (dCons (dC (.int 2)) (dCons (dC (.int 2)) (dCons (dC (.int 3)) (dNil))))))) (dNil)))) (gSet 1)) <|
  dSeq (dAsg (dCall (on1 biTuple) (dCons (dLc (iRange1 (dCons (dVar 1) (dNil))) [3] (.nm 3) (bTrue) (dCall (arity 1 l_comparison) (dCons (dVar 0) (dNil)))) (dNil))) (gSet 2)) <|
  dRet (dIf (bVal (d2 (opEq false) (dVar 1) (dC (.int 1)))) (d2 opIx (dVar 2) (dC (.int 0))) (d2 opAdd (dTup (dCons (dCall (arity 2 l_of) (dCons (dVar 0) (dCons (dLst (dCons (dC (.str "and")) (dCons (dC (.str "or")) (dNil)))) (dNil)))) (dNil))) (dVar 2)))
def l_condition : List D → M D := runDef 4 l_condition_b
def l_rule_b : DenS :=
  dSeq (dPar [1, 2] (dCons (dCall (arity 2 l_draw) (dCons (dVar 0) (dCons (dC (.int 5)) (dNil)))) (dCons (dCall (arity 1 l_known) (dCons (dVar 0) (dNil))) (dNil)))) <|
  dSeq (dIfS (bVal (d2 (opEq false) (dVar 1) (dC (.int 4)))) (dRet (dTup (dCons (dCall (arity 1 l_condition) (dCons (dVar 0) (dNil))) (dCons (dCall (arity 1 l_condition) (dCons (dVar 0) (dNil))) (dNil))))) (dSkip)) <|
  dSeq (dIfS (bVal (d2 (opEq false) (dVar 1) (dC (.int 3)))) (dRet (dTup (dCons (d2 opIx (dVar 2) (dC (.int 0))) (dCons (dCall (arity 1 l_condition) (dCons (dVar 0) (dNil))) (dNil))))) (dSkip)) <|
  dRet (dIf (bVal (d2 (opEq false) (dVar 1) (dC (.int 2)))) (dTup (dCons (dCall (arity 1 l_condition) (dCons (dVar 0) (dNil))) (dCons (d2 opIx (dVar 2) (dC (.int 1))) (dNil)))) (dVar 2))
def l_rule : List D → M D := runDef 3 l_rule_b
def l_drag_b : DenS :=
  dSeq (dAsg (dLst (dCons (dC (.int 1)) (dCons (dC (.int 2)) (dCons (dC (.int 3)) (dCons (dC (.int 10)) (dCons (dC (.int 40)) (dCons (d2 opAdd (dC (.int 1)) (dCall (arity 2 l_draw) (dCons (dVar 0) (dCons (dC (.int 20)) (dNil))))) (dNil)))))))) (gSet 2)) <|
  dSeq (dAsg (dCall (on1 biTuple) (dCons (dLc (iRange1 (dCons (d2 opAdd (dC (.int 2)) (dCall (arity 2 l_draw) (dCons (dVar 0) (dCons (d2 opSub (dVar 1) (dC (.int 1))) (dNil))))) (dNil))) [6] (.nm 6) (bTrue) (dCall (arity 2 l_of) (dCons (dVar 0) (dCons (dVar 2) (dNil))))) (dNil))) (gSet 3)) <|
  dSeq (dAsg (dCall (arity 2 l_draw) (dCons (dVar 0) (dCons (dCall (on1 biLen) (dCons (dVar 3) (dNil))) (dNil)))) (gSet 4)) <|
  dSeq (dAsg (dCall (arity 2 l_of) (dCons (dVar 0) (dCons (dLst (dCons (dC (.int 0)) (dCons (d2 opIx (dVar 3) (dVar 4)) (dCons (dCall (arity 2 l_draw) (dCons (dVar 0) (dCons (d2 opAdd (d2 opIx (dVar 3) (dVar 4)) (dC (.int 1))) (dNil)))) (dNil))))) (dNil)))) (gSet 5)) <|
  dRet (dTup (dCons (dVar 3) (dCons (dVar 4) (dCons (dVar 5) (dNil)))))
def l_drag : List D → M D := runDef 7 l_drag_b
def l_pointer_b : DenS :=
  dSeq (dAsg (dCall (on1 biSumA) (dCons (d2 opIx (dVar 1) (dC (.int 0))) (dNil))) (gSet 2)) <|
  dSeq (dAsg (dLst (dCons (dCall (arity 2 l_draw) (dCons (dVar 0) (dCons (d2 opAdd (dVar 2) (dC (.int 1))) (dNil)))) (dCons (d2 opSub (dCall (arity 2 l_draw) (dCons (dVar 0) (dCons (d2 opAdd (dVar 2) (dC (.int 21))) (dNil)))) (dC (.int 10))) (dNil)))) (gSet 3)) <|
  dRet (dCall (arity 2 l_of) (dCons (dVar 0) (dCons (d2 opAdd (dVar 3) (dLst (dCons (d2 opSub (dCall (arity 2 l_draw) (dCons (dVar 0) (dCons (d2 opMul (dC (.int 3)) (dVar 2)) (dNil)))) (dVar 2)) (dNil)))) (dNil))))
def l_pointer : List D → M D := runDef 4 l_pointer_b
def p_places_of_b : DenS :=
  dSeq (dPar [3, 4] (dCons (d2 opIx (dVar 1) (dC (.int 1))) (dCons (dLst (dNil)) (dNil)))) <|
  dSeq (dFor (iVal (dVar 2)) (gOf (.nm 5)) (dSeq (dAsg (dCall (arity 4 p_rest_of) (dCons (dVar 0) (dCons (dVar 1) (dCons (dVar 5) (dCons (dVar 3) (dNil)))))) (gSet 6)) <|
  dSeq (dAsg (dIf (bVal (d2 (opIsN false) (dVar 6) (dC .non))) (dVar 3) (dVar 6)) (gSet 3)) <|
  dAsg (d2 opAdd (dVar 4) (dLst (dCons (dVar 6) (dNil)))) (gSet 4))) <|
  dRet (dVar 4)
def p_places_of : List D → M D := runDef 7 p_places_of_b
def p_way_b : DenS :=
  dSeq (dExpr (dCall (arity 1 p_need_rule) (dCons (dVar 0) (dNil)))) <|
  dSeq (dExpr (dCall (arity 1 p_need_drag) (dCons (dVar 1) (dNil)))) <|
  dSeq (dExpr (dCall (arity 1 p_need_pointers) (dCons (dVar 2) (dNil)))) <|
  dRet (dCall (arity 3 p_places_of) (dCons (dVar 0) (dCons (dVar 1) (dCons (dVar 2) (dNil)))))
def p_way : List D → M D := runDef 3 p_way_b
def l_moved_b : DenS :=
  dTryC ["Flickers"] subX (dRet (dMethC "Pull" "to" 2 p_Pull_to (dVar 0) (dCons (dVar 1) (dNil)))) [("Flickers", .non)]
def l_moved : List D → M D := runDef 2 l_moved_b
def p_need_place_b : DenS :=
  dIfS (dBOr (dBNot (bVal (dCall (arity 1 p_is_number) (dCons (dVar 1) (dNil))))) (dBNot (bVal (dChain opLe opLt (dC (.int 0)) (dVar 1) (dCall (on1 biLen) (dCons (d2 opIx (dVar 0) (dC (.int 0))) (dNil))))))) (dRaise "InvalidPlace") (dSkip)
def p_need_place : List D → M D := runDef 2 p_need_place_b
def p_need_all_b : DenS :=
  dSeq (dExpr (dCall (arity 1 p_need_rule) (dCons (dVar 0) (dNil)))) <|
  dSeq (dExpr (dCall (arity 1 p_need_drag) (dCons (dVar 1) (dNil)))) <|
  dSeq (dExpr (dCall (arity 1 p_need_pointer) (dCons (dVar 2) (dNil)))) <|
  dExpr (dCall (arity 2 p_need_place) (dCons (dVar 1) (dCons (dVar 3) (dNil))))
def p_need_all : List D → M D := runDef 4 p_need_all_b
def p_settle_b : DenS :=
  dSeq (dExpr (dCall (arity 4 p_need_all) (dCons (dVar 0) (dCons (dVar 1) (dCons (dVar 2) (dCons (dVar 3) (dNil))))))) <|
  dRet (dCall (arity 4 p_rest_of) (dCons (dVar 0) (dCons (dVar 1) (dCons (dVar 2) (dCons (dVar 3) (dNil))))))
def p_settle : List D → M D := runDef 4 p_settle_b
def p_goes_b : DenS :=
  dSeq (dExpr (dCall (arity 4 p_need_all) (dCons (dVar 0) (dCons (dVar 1) (dCons (dVar 2) (dCons (dVar 3) (dNil))))))) <|
  dRet (d2 opIx (dTup (dCons (dC (.str "rests")) (dCons (dC (.str "down")) (dCons (dC (.str "up")) (dNil))))) (dCall (arity 4 p_turn_of) (dCons (dVar 0) (dCons (dVar 1) (dCons (dVar 2) (dCons (dVar 3) (dNil)))))))
def p_goes : List D → M D := runDef 4 p_goes_b
def p_law_b : DenS :=
  dSeq (dFor (iRange1 (dCons (d2 opAdd (dC (.int 1)) (dCall (on2 biMin) (dCons (dCall (on1 biLen) (dCons (dVar 0) (dNil))) (dCons (dC (.int 8)) (dNil))))) (dNil))) (gOf (.nm 1)) (dSeq (dAsg (dCall (arity 2 l_source) (dCons (dVar 0) (dCons (dVar 1) (dNil)))) (gSet 2)) <|
  dSeq (dAsg (dTup (dCons (dCall (arity 1 l_rule) (dCons (dVar 2) (dNil))) (dCons (dCall (arity 2 l_drag) (dCons (dVar 2) (dCons (dC (.int 6)) (dNil)))) (dNil)))) (gOf (.tup [.nm 3, .nm 4]))) <|
  dSeq (dAsg (dCall (on1 biTuple) (dCons (dLc (iRange1 (dCons (dC (.int 8)) (dNil))) [14] (.nm 14) (bTrue) (dCall (arity 2 l_pointer) (dCons (dVar 2) (dCons (dVar 4) (dNil))))) (dNil))) (gSet 5)) <|
  dSeq (dAsg (dTup (dCons (dCall (arity 2 fun ds => mkO "Pull" p_Pull_init ds) (dCons (dVar 3) (dCons (dVar 4) (dNil)))) (dCons (dCall (arity 3 p_way) (dCons (dVar 3) (dCons (dVar 4) (dCons (dVar 5) (dNil))))) (dNil)))) (gOf (.tup [.nm 6, .nm 7]))) <|
  dSeq (dIfS (bVal (d2 (opEq true) (dLc (iVal (dVar 5)) [8] (.nm 8) (bTrue) (dCall (arity 2 l_moved) (dCons (dVar 6) (dCons (dVar 8) (dNil))))) (dVar 7))) (dRet (dC (.bl false))) (dSkip)) <|
  dSeq (dAsg (dCall (on1 biTuple) (dCons (dLc (iZip (dCons (dVar 5) (dCons (dVar 7) (dNil)))) [8, 9] (.tup [.nm 8, .nm 9]) (bVal (d2 (opIsN true) (dVar 9) (dC .non))) (dVar 8)) (dNil))) (gSet 10)) <|
  dSeq (dAsg (dCall (arity 2 fun ds => mkO "Pull" p_Pull_init ds) (dCons (dVar 3) (dCons (dVar 4) (dNil)))) (gSet 11)) <|
  dSeq (dAug 11 (dVar 10) (iaddC "Pull" p_Pull_iadd)) <|
  dSeq (dIfS (dBOr (dBNot (bVal (d2 (opC "Pull" p_Pull_eq) (dVar 6) (dVar 11)))) (dBOr (bVal (d2 (opEq true) (dListG "Pull" "log" p_Pull_log (dVar 6)) (dListG "Pull" "log" p_Pull_log (dVar 11)))) (dBOr (bVal (d2 (opCT "Pull" p_Pull_eq) (dVar 6) (dVar 4))) (bVal (d2 (opEq true) (dProp "Pull" p_Pull_order (dVar 6)) (dProp "Pull" p_Pull_order (dVar 11))))))) (dRet (dC (.bl false))) (dSkip)) <|
  dSeq (dIfS (dBAnd (bVal (d2 (opEq true) (dVar 10) (dTup (dNil)))) (bVal (d2 (opEq true) (dCall (arity 4 p_settle) (dCons (dVar 3) (dCons (dVar 4) (dCons (dProp "Pull" p_Pull_pointer (dVar 6)) (dCons (dProp "Pull" p_Pull_place (dVar 6)) (dNil)))))) (dProp "Pull" p_Pull_place (dVar 6))))) (dRet (dC (.bl false))) (dSkip)) <|
  dSeq (dFor (iRange1 (dCons (dCall (on1 biLen) (dCons (d2 opIx (dVar 4) (dC (.int 0))) (dNil))) (dNil))) (gOf (.nm 9)) (dIfS (bVal (d2 (opEq true) (d2 (inC false "Pull" p_Pull_contains) (dVar 9) (dVar 6)) (d2 (opEq false) (dCall (arity 4 p_goes) (dCons (dVar 3) (dCons (dVar 4) (dCons (dProp "Pull" p_Pull_pointer (dVar 6)) (dCons (dVar 9) (dNil)))))) (dC (.str "rests"))))) (dRet (dC (.bl false))) (dSkip))) <|
  dSeq (dAsg (dCall (on1 biSortI) (dCons (dLc (iRange1 (dCons (dCall (on1 biLen) (dCons (d2 opIx (dVar 4) (dC (.int 0))) (dNil))) (dNil))) [15] (.nm 15) (bTrue) (dCall (on1 biInt) (dCons (d2 (ixC "Pull" p_Pull_getitem) (dVar 6) (dVar 15)) (dNil)))) (dNil))) (gSet 12)) <|
  dSeq (dIfS (dBOr (bVal (d2 (opEq true) (dLc (iVal (dProp "Pull" p_Pull_order (dVar 6))) [15] (.nm 15) (bTrue) (d2 (ixC "Pull" p_Pull_getitem) (dVar 6) (dVar 15))) (dVar 12))) (bVal (d2 (opEq true) (dProp "Pull" p_Pull_drawn (dVar 6)) (d2 opSub (dProp "Pull" p_Pull_pointer (dVar 6)) (d2 opIx (dVar 4) (dC (.int 2))))))) (dRet (dC (.bl false))) (dSkip)) <|
  dSeq (dFor (iVal (dVar 10)) (gOf (.nm 8)) (dExpr (dMethC "Pull" "undo" 1 p_Pull_undo (dVar 6) dNil))) <|
  dSeq (dIfS (dBOr (dBNot (bVal (d2 (opC "Pull" p_Pull_eq) (dVar 6) (dCall (arity 2 fun ds => mkO "Pull" p_Pull_init ds) (dCons (dVar 3) (dCons (dVar 4) (dNil))))))) (dBOr (bVal (d2 (opEq true) (dProp "Pull" p_Pull_place (dVar 6)) (d2 opIx (dVar 4) (dC (.int 1))))) (bVal (dCall (boolC "Pull" p_Pull_bool) (dCons (dVar 6) (dNil)))))) (dRet (dC (.bl false))) (dSkip)) <|
  dSeq (dAsg (d2 opAdd (dTup (dCons (dCall (on1 biTuple) (dCons (dLc (iVal (d2 opIx (dVar 4) (dC (.int 0)))) [16] (.nm 16) (bTrue) (d2 opAdd (dVar 16) (dC (.int 1)))) (dNil))) (dNil))) (dSl (dVar 4) (oSome (dC (.int 1))) (oNone))) (gSet 13)) <|
  dIfS (dBOr (bVal (d2 (opC "Pull" p_Pull_eq) (dVar 6) (dCall (arity 2 fun ds => mkO "Pull" p_Pull_init ds) (dCons (dVar 3) (dCons (dVar 13) (dNil)))))) (dBAnd (bVal (d2 (opC "Pull" p_Pull_eq) (dVar 6) (dCall (arity 2 fun ds => mkO "Pull" p_Pull_init ds) (dCons (dTup (dCons (d2 opIx (dVar 3) (dC (.int 1))) (dCons (d2 opIx (dVar 3) (dC (.int 0))) (dNil)))) (dCons (dVar 4) (dNil)))))) (bVal (d2 (opEq true) (d2 opIx (dVar 3) (dC (.int 0))) (d2 opIx (dVar 3) (dC (.int 1))))))) (dRet (dC (.bl false))) (dSkip))) <|
  dRet (dC (.bl true))
def p_law : List D → M D := runDef 17 p_law_b
def Src (st : Store) (n : Nat) : Prop := ∃ a b : Int, st[n]? = some (.lst [.int a, .int b]) ∧ 0 ≤ a ∧ 0 ≤ b ∧ b < 2147483648
def Fr (n : Nat) (st st' : Store) : Prop := st.length ≤ st'.length ∧ ∀ i, i < st.length → i ≠ n → st'[i]? = st[i]?
theorem Fr.refl (n : Nat) (st : Store) : Fr n st st := ⟨Nat.le_refl _, fun _ _ _ => rfl⟩
theorem Fr.trans {n : Nat} {a b c : Store} (h : Fr n a b) (k : Fr n b c) : Fr n a c :=
  ⟨Nat.le_trans h.1 k.1, fun i hi hn => (k.2 i (Nat.lt_of_lt_of_le hi h.1) hn).trans (h.2 i hi hn)⟩
theorem Fr.set {n : Nat} {st : Store} {c : Cell} : Fr n st (st.set n c) := ⟨by simp, fun i _ hn => List.getElem?_set_ne (Ne.symm hn)⟩
abbrev Dr (n : Nat) (st : Store) (P : D → Prop) (d : D) (st' : Store) : Prop := P d ∧ Src st' n ∧ Fr n st st'
abbrev Below (m : Int) (d : D) : Prop := ∃ v, d = .int v ∧ 0 ≤ v ∧ v < m
theorem draw_spec {st : Store} {n : Nat} {m : Int} (h : Src st n) (hm : 0 < m) (hb : m < 2 ^ 60) : T (l_draw [.ref n, .int m]) st (Dr n st (Below m)) := by
  obtain ⟨a, b, e, ha, hb0, hb1⟩ := h
  have gm := lg (x := m) (by omega) (by omega)
  simp [l_draw, l_draw_b, dSeq, dAsg, dIfS, dRet, runDef, e, set_get e]
  refine ⟨fun h0 => ⟨hm, ⟨hm, by omega⟩, ⟨_, rfl, Int.emod_nonneg _ (by omega), Int.emod_lt_of_pos _ hm⟩, ⟨_, _, set_get e, Int.ediv_nonneg ha (by omega), hb0, hb1⟩, Fr.set⟩, fun h0 => ?_⟩
  have g1 := lg hb0 (by omega)
  have h1 : 0 ≤ b * 48271 % 2147483647 := Int.emod_nonneg _ (by decide)
  have h2 : b * 48271 % 2147483647 < 2147483647 := Int.emod_lt_of_pos _ (by decide)
  have g2 := lg h1 (by omega)
  have g3 : Nat.log2 48271 < 60 := lg2 (by decide) (by decide)
  have g4 : Nat.log2 64 < 60 := lg2 (by decide) (by decide)
  exact ⟨by omega, by omega, by omega, hm, ⟨_, rfl, Int.emod_nonneg _ (by omega), Int.emod_lt_of_pos _ hm⟩, ⟨_, _, set_get e, ha, h1, by omega⟩, Fr.set⟩
theorem at_mem {ds : List D} {i : Int} (h0 : 0 ≤ i) (h1 : i < ds.length) : ∃ d, atI ds i = some d ∧ d ∈ ds := by
  unfold atI ixN
  rw [if_pos h0, if_pos (by omega)]
  refine ⟨ds[i.toNat]'(by omega), ?_, List.getElem_mem _⟩
  simp
theorem of_spec {st : Store} {n : Nat} {ds : List D} (h : Src st n) (h0 : ds ≠ []) (h1 : ds.length < 1000) : T (l_of [.ref n, .lst ds]) st (Dr n st (· ∈ ds)) := by
  have hl : 0 < ds.length := List.length_pos_iff.mpr h0
  simp [l_of, l_of_b, dSeq, dAsg, dIfS, dRet, runDef]
  refine (draw_spec h (by omega) (by omega)).mono fun d st' hd => ?_
  obtain ⟨⟨v, rfl, v0, v1⟩, hs, hf⟩ := hd
  obtain ⟨d, e1, e2⟩ := at_mem v0 v1
  simp [e1]
  exact ⟨e2, hs, hf⟩
@[simp] theorem so1 : PyData.strOk "pointer" = true := by decide +kernel
@[simp] theorem so2 : PyData.strOk "held" = true := by decide +kernel
@[simp] theorem so3 : PyData.strOk "place" = true := by decide +kernel
@[simp] theorem so4 : PyData.strOk "next" = true := by decide +kernel
@[simp] theorem so5 : PyData.strOk "below" = true := by decide +kernel
@[simp] theorem so6 : PyData.strOk "above" = true := by decide +kernel
@[simp] theorem so7 : PyData.strOk "not below" = true := by decide +kernel
@[simp] theorem so8 : PyData.strOk "not above" = true := by decide +kernel
@[simp] theorem so9 : PyData.strOk "and" = true := by decide +kernel
@[simp] theorem so10 : PyData.strOk "or" = true := by decide +kernel
@[simp] theorem so11 : PyData.strOk "" = true := by decide +kernel
@[simp] theorem so12 : PyData.strOk "not" = true := by decide +kernel
def IsPt (d : D) : Prop := d = .tup [.str "pointer"] ∨ ∃ (s : Str) (v : Int), (s = "held" ∨ s = "place" ∨ s = "next") ∧ 0 ≤ v ∧ v ≤ 4 ∧ d = .tup [.str s, .int v]
theorem isPt_n {s : Str} {v : Int} (h : s = "held" ∨ s = "place" ∨ s = "next") (h0 : 0 ≤ v) (h1 : v ≤ 4) : IsPt (.tup [.str s, .int v]) := .inr ⟨s, v, h, h0, h1, rfl⟩
theorem isPt_p : IsPt (.tup [.str "pointer"]) := .inl rfl
theorem point_spec {st : Store} {n : Nat} (h : Src st n) : T (l_point [.ref n]) st (Dr n st IsPt) := by
  rw [l_point, t_run, l_point_b, t_asg]
  simp
  refine (of_spec h (by simp) (by simp)).mono fun d st1 hd => ?_
  obtain ⟨hd, h1, f1⟩ := hd
  have hs : ∃ s : Str, d = .str s ∧ (s = "pointer" ∨ s = "held" ∨ s = "place" ∨ s = "next") := by
    simp at hd
    rcases hd with rfl | rfl | rfl | rfl <;> simp
  obtain ⟨s, rfl, hs⟩ := hs
  have hk : PyData.strOk s = true := by rcases hs with rfl | rfl | rfl | rfl <;> simp
  rw [t_ifs]
  simp [eq_of (dep_str hk) (dep_str so1), isS]
  refine ⟨fun e => by rw [t_ret]; simp; exact ⟨isPt_p, h1, f1⟩, fun e => ?_⟩
  rw [t_ret1]
  simp
  refine (draw_spec h1 (by decide) (by decide)).mono fun d st2 hd => ?_
  obtain ⟨⟨v, rfl, v0, v1⟩, h2, f2⟩ := hd
  refine (of_spec h2 (by simp) (by simp)).mono fun d st3 hd => ?_
  obtain ⟨hd, h3, f3⟩ := hd
  have hv : ∃ v : Int, d = .int v ∧ 0 ≤ v ∧ v ≤ 4 := by
    simp at hd
    rcases hd with rfl | rfl | rfl | rfl <;> exact ⟨_, rfl, by omega, by omega⟩
  obtain ⟨v, rfl, v0, v1⟩ := hv
  exact ⟨isPt_n (hs.resolve_left e) v0 v1, h3, (f1.trans f2).trans f3⟩
def IsWd (s : Str) : Prop := s = "below" ∨ s = "above" ∨ s = "not below" ∨ s = "not above"
def IsCmp (d : D) : Prop := ∃ s p r, IsWd s ∧ IsPt p ∧ IsPt r ∧ d = .tup [.str s, p, r]
theorem comparison_spec {st : Store} {n : Nat} (h : Src st n) : T (l_comparison [.ref n]) st (Dr n st IsCmp) := by
  simp [l_comparison, l_comparison_b, dSeq, dAsg, dIfS, dRet, runDef]
  refine (of_spec h (by simp) (by simp)).mono fun d st1 hd => ?_
  obtain ⟨hd, h1, f1⟩ := hd
  have hs : ∃ s : Str, d = .str s ∧ IsWd s := by
    simp at hd
    rcases hd with rfl | rfl | rfl | rfl <;> simp [IsWd]
  obtain ⟨s, rfl, hs⟩ := hs
  refine (point_spec h1).mono fun p st2 hd => ?_
  obtain ⟨hp, h2, f2⟩ := hd
  refine (point_spec h2).mono fun r st3 hd => ?_
  obtain ⟨hr, h3, f3⟩ := hd
  exact ⟨⟨s, p, r, hs, hp, hr, rfl⟩, h3, (f1.trans f2).trans f3⟩
def IsCond (d : D) : Prop := IsCmp d ∨ ∃ (s : Str) (cs : List D), (s = "and" ∨ s = "or") ∧ 2 ≤ cs.length ∧ cs.length ≤ 3 ∧ (∀ c ∈ cs, IsCmp c) ∧ d = .tup (.str s :: cs)
/-- a list of draws -/
theorem lc_draw {n : Nat} {t : Tg} {f : Den} {ρ : MP.Env} {P : D → Prop} : ∀ {ds : List D} {st : Store}, Src st n → (∀ d ∈ ds, ∃ ρ1, t.bind d ρ = some ρ1 ∧ ∀ st, Src st n → T (f ρ1) st (Dr n st P)) →
    T (lcL t bTrue f ρ ds) st (fun ys st' => (∀ y ∈ ys, P y) ∧ ys.length = ds.length ∧ Src st' n ∧ Fr n st st')
  | [], st, h, _ => ⟨by simp, rfl, h, Fr.refl _ _⟩
  | d :: ds, st, h, k => by
    obtain ⟨ρ1, e, hf⟩ := k d List.mem_cons_self
    unfold lcL
    rw [e]
    simp [optB]
    refine (hf st h).mono fun y st1 hy => ?_
    obtain ⟨hy, h1, f1⟩ := hy
    refine (lc_draw h1 fun x hx => k x (List.mem_cons_of_mem _ hx)).mono fun ys st2 hq => ?_
    obtain ⟨q1, q2, q3, q4⟩ := hq
    exact ⟨⟨hy, q1⟩, q2, q3, f1.trans q4⟩
theorem rangeL_len {i : Int} : (rangeL 0 i).length = i.toNat := by simp [rangeL]
theorem condition_spec {st : Store} {n : Nat} (h : Src st n) : T (l_condition [.ref n]) st (Dr n st IsCond) := by
  simp [l_condition, l_condition_b, dSeq, dAsg, dIfS, dRet, runDef]
  refine (of_spec h (by simp) (by simp)).mono fun d st1 hd => ?_
  obtain ⟨hd, h1, f1⟩ := hd
  have hv : ∃ v : Int, d = .int v ∧ 1 ≤ v ∧ v ≤ 3 := by
    simp at hd
    rcases hd with rfl | rfl | rfl <;> exact ⟨_, rfl, by omega, by omega⟩
  obtain ⟨v, rfl, v0, v1⟩ := hv
  simp [wipeE, show (-4611686018427387904 : Int) ≤ v by omega, show v < 4611686018427387904 by omega, rangeL_len]
  refine ⟨by omega, ?_⟩
  refine (lc_draw (P := IsCmp) h1 fun d hd => ⟨_, rfl, fun st hs => ?_⟩).mono fun ys st2 hq => ?_
  · simp
    exact comparison_spec hs
  · obtain ⟨q1, q2, q3, q4⟩ := hq
    rw [rangeL_len] at q2
    refine ⟨fun e => ?_, fun e => ?_⟩
    · subst e
      obtain ⟨y, rfl⟩ : ∃ y, ys = [y] := List.length_eq_one_iff.mp q2
      simp
      exact ⟨.inl (q1 y (by simp)), q3, f1.trans q4⟩
    · refine (of_spec q3 (by simp) (by simp)).mono fun d st3 hd => ?_
      obtain ⟨hd, h3, f3⟩ := hd
      have hj : ∃ s : Str, d = .str s ∧ (s = "and" ∨ s = "or") := by
        simp at hd
        rcases hd with rfl | rfl <;> simp
      obtain ⟨s, rfl, hj⟩ := hj
      try simp
      exact ⟨by omega, .inr ⟨s, ys, hj, by omega, by omega, q1, rfl⟩, h3, (f1.trans q4).trans f3⟩
def IsRule (d : D) : Prop := ∃ a b, IsCond a ∧ IsCond b ∧ d = .tup [a, b]
theorem cond_2 {s : Str} {a b : D} (hs : s = "and" ∨ s = "or") (ha : IsCmp a) (hb : IsCmp b) : IsCond (.tup [.str s, a, b]) :=
  .inr ⟨s, [a, b], hs, by simp, by simp, by simp [ha, hb], rfl⟩
theorem cmp_3 {s : Str} {a b : D} (hs : IsWd s) (ha : IsPt a) (hb : IsPt b) : IsCmp (.tup [.str s, a, b]) := ⟨s, a, b, hs, ha, hb, rfl⟩
theorem isWd2 : IsWd "above" := .inr (.inl rfl)
/-- one of some words -/
theorem of_words {st : Store} {n : Nat} {zs : List Str} (h : Src st n) (h0 : zs ≠ []) (h1 : zs.length < 1000) : T (l_of [.ref n, .lst (zs.map D.str)]) st (Dr n st fun d => ∃ s ∈ zs, d = .str s) :=
  (of_spec h (by simpa using h0) (by simpa using h1)).mono fun d st' ⟨hd, hs, hf⟩ => ⟨by obtain ⟨s, e1, e2⟩ := List.mem_map.mp hd; exact ⟨s, e1, e2.symm⟩, hs, hf⟩
theorem of_ints {st : Store} {n : Nat} {zs : List Int} (h : Src st n) (h0 : zs ≠ []) (h1 : zs.length < 1000) : T (l_of [.ref n, .lst (zs.map D.int)]) st (Dr n st fun d => ∃ s ∈ zs, d = .int s) :=
  (of_spec h (by simpa using h0) (by simpa using h1)).mono fun d st' ⟨hd, hs, hf⟩ => ⟨by obtain ⟨s, e1, e2⟩ := List.mem_map.mp hd; exact ⟨s, e1, e2.symm⟩, hs, hf⟩
theorem known_spec {st : Store} {n : Nat} (h : Src st n) : T (l_known [.ref n]) st (Dr n st IsRule) := by
  rw [l_known, t_run, l_known_b, t_asg]
  simp
  refine (of_ints (zs := [0, 1, 2, 2, 3, 4]) h (by simp) (by simp)).mono fun d st1 hd => ?_
  obtain ⟨⟨share, hsh, rfl⟩, h1, f1⟩ := hd
  have hsh : 0 ≤ share ∧ share ≤ 4 := by simp at hsh; omega
  rw [t_asg]; simp
  refine (of_words (zs := ["below", "not above"]) h1 (by simp) (by simp)).mono fun d st2 hd => ?_
  obtain ⟨⟨other, ho, rfl⟩, h2, f2⟩ := hd
  have ho : IsWd other := by simp at ho; rcases ho with rfl | rfl <;> simp [IsWd]
  rw [t_asg]; simp
  refine (of_ints (zs := [2, 4, 4, 0]) h2 (by simp) (by simp)).mono fun d st3 hd => ?_
  obtain ⟨⟨hgt, hg, rfl⟩, h3, f3⟩ := hd
  have hg : 0 ≤ hgt ∧ hgt ≤ 4 := by simp at hg; omega
  refine (of_spec h3 (by simp) (by simp)).mono fun d st4 hd => ?_
  obtain ⟨hd, h4, f4⟩ := hd
  have hd : d = .tup [.str "pointer"] ∨ d = .tup [.str "held", .int hgt] := by simpa using hd
  rw [t_asg]
  have F4 := ((f1.trans f2).trans f3).trans f4
  clear f1 f2 f3 f4
  refine T.mono (P := fun b s => IsPt d ∧ IsPt b ∧ s = st4) ?_ fun back s hb => ?_
  · rcases hd with rfl | rfl
    · simp
      rw [eq_of (dep_tup.mpr (by simp [dep_str])) (dep_tup.mpr (by simp [dep_str]))]
      simp [eqvAll_cons, deq_sr, isS, eqvAll_nil]
      exact isPt_p
    · simp
      rw [eq_of (dep_tup.mpr (by simp [dep_str, dep_int])) (dep_tup.mpr (by simp [dep_str]))]
      simp (decide := true) [eqvAll_cons, deq_sr, isS, eqvAll_nil]
      exact ⟨isPt_n (.inl rfl) (by omega) (by omega), isPt_n (.inl rfl) (by omega) (by omega)⟩
  obtain ⟨hpt, hback, rfl⟩ := hb
  rw [t_asg]; simp
  refine (of_spec h4 (by simp) (by simp)).mono fun g st5 hd => ?_
  obtain ⟨hgo, h5, f5⟩ := hd
  have hgo : ∃ (s : Str) (v : Int), (s = "held" ∨ s = "place" ∨ s = "next") ∧ 0 ≤ v ∧ v ≤ 4 ∧ g = .tup [.str s, .int v] := by
    simp at hgo
    rcases hgo with rfl | rfl
    · exact ⟨_, _, .inr (.inr rfl), by omega, by omega, rfl⟩
    · exact ⟨_, _, .inr (.inl rfl), by omega, by omega, rfl⟩
  obtain ⟨gs, gv, hgs, g0, g1, rfl⟩ := hgo
  rw [t_asg]; simp
  rw [t_asg]; simp
  rw [t_asg]; simp
  refine (of_words (zs := ["above", "not below"]) h5 (by simp) (by simp)).mono fun d st6 hd => ?_
  obtain ⟨⟨w6, hw6, rfl⟩, h6, f6⟩ := hd
  have hw6 : IsWd w6 := by simp at hw6; rcases hw6 with rfl | rfl <;> simp [IsWd]
  rw [t_asg]; simp
  refine (draw_spec h6 (by decide) (by decide)).mono fun d st7 hd => ?_
  obtain ⟨⟨mode, rfl, m0, m1⟩, h7, f7⟩ := hd
  have F7 := ((F4.trans f5).trans f6).trans f7
  have hdown := cmp_3 ho hpt (isPt_n hgs g0 g1)
  have hup := cmp_3 hw6 hback (isPt_n hgs (show 0 ≤ 4 - gv by omega) (by omega))
  have last : ∀ (s : Store) (a b : D), Src s n → Fr n st s → IsCond a → IsCond b → Dr n st IsRule (.tup [a, b]) s := fun s a b hs hf ha hb => ⟨⟨a, b, ha, hb, rfl⟩, hs, hf⟩
  have up2 : IsCond (.tup [.str "or", .tup [.str w6, back, .tup [.str gs, .int (4 - gv)]], .tup [.str "above", .tup [.str "pointer"], .tup [.str "place", .int 0]]]) := cond_2 (.inr rfl) hup (cmp_3 isWd2 isPt_p (isPt_n (.inr (.inl rfl)) (by omega) (by omega)))
  rw [t_ifs]; simp
  refine ⟨fun e => ?_, fun e => ?_⟩
  · rw [t_seq, t_asg]; simp
    refine (of_words (zs := ["above", "below"]) h7 (by simp) (by simp)).mono fun d st8 hd => ?_
    obtain ⟨⟨w8, hw8, rfl⟩, h8, f8⟩ := hd
    have hw8 : IsWd w8 := by simp at hw8; rcases hw8 with rfl | rfl <;> simp [IsWd]
    refine (draw_spec h8 (by decide) (by decide)).mono fun d st9 hd => ?_
    obtain ⟨⟨v9, rfl, v0, v1⟩, h9, f9⟩ := hd
    have l1 := lg v0 (by omega)
    have l2 : Nat.log2 4 < 60 := lg2 (by decide) (by decide)
    simp
    refine ⟨by omega, ?_⟩
    have hc := cond_2 (.inl rfl) hdown (cmp_3 hw8 isPt_p (isPt_n (.inr (.inr rfl)) (show 0 ≤ 4 * v9 by omega) (by omega)))
    rw [t_asg]; simp
    rw [t_ifs]; simp
    refine ⟨fun e => ?_, fun e => ?_⟩
    · omega
    · rw [t_ret1]; simp
      exact last _ _ _ h9 ((F7.trans f8).trans f9) hc (.inl hup)
  · rw [t_ifs]; simp
    refine ⟨fun e => ?_, fun e => ?_⟩
    · rw [t_asg]; simp
      rw [t_ret1]; simp
      exact last _ _ _ h7 F7 (.inl hdown) up2
    · rw [t_ret1]; simp
      exact last _ _ _ h7 F7 (.inl hdown) (.inl hup)
theorem rule_spec {st : Store} {n : Nat} (h : Src st n) : T (l_rule [.ref n]) st (Dr n st IsRule) := by
  rw [l_rule, t_run, l_rule_b, t_par]
  simp
  refine (draw_spec h (by decide) (by decide)).mono fun d st1 hd => ?_
  obtain ⟨⟨mode, rfl, m0, m1⟩, h1, f1⟩ := hd
  refine (known_spec h1).mono fun r st2 hd => ?_
  obtain ⟨hr, h2, f2⟩ := hd
  have F2 := f1.trans f2
  rw [t_ifs]; simp
  refine ⟨fun e => ?_, fun e => ?_⟩
  · rw [t_ret]; simp
    refine (condition_spec h2).mono fun a st3 hd => ?_
    obtain ⟨ha, h3, f3⟩ := hd
    refine (condition_spec h3).mono fun b st4 hd => ?_
    obtain ⟨hb, h4, f4⟩ := hd
    exact ⟨⟨a, b, ha, hb, rfl⟩, h4, (F2.trans f3).trans f4⟩
  obtain ⟨a, b, ha, hb, rfl⟩ := hr
  rw [t_ifs]; simp
  refine ⟨fun e => ?_, fun e => ?_⟩
  · rw [t_ret]; simp
    refine (condition_spec h2).mono fun b st3 hd => ?_
    obtain ⟨hb, h3, f3⟩ := hd
    exact ⟨⟨a, b, ha, hb, rfl⟩, h3, F2.trans f3⟩
  · rw [t_ret1]; simp
    refine ⟨fun e => ?_, fun e => ?_⟩
    · refine (condition_spec h2).mono fun c st3 hd => ?_
      obtain ⟨hc, h3, f3⟩ := hd
      exact ⟨⟨c, b, hc, hb, rfl⟩, h3, F2.trans f3⟩
    · exact ⟨⟨a, b, ha, hb, rfl⟩, h2, F2⟩
/-- a drag of rows up to 40 high -/
def IsDrg (d : D) : Prop := ∃ (hs : List Int) (held grab : Int), 2 ≤ hs.length ∧ hs.length ≤ 6 ∧ (∀ x ∈ hs, 1 ≤ x ∧ x ≤ 40) ∧ 0 ≤ held ∧ held < hs.length ∧ 0 ≤ grab ∧ (∃ hh, atI hs held = some hh ∧ grab ≤ hh) ∧ d = .tup [.tup (hs.map D.int), .int held, .int grab]
theorem ints_of {P : Int → Prop} : ∀ {ds : List D}, (∀ d ∈ ds, ∃ v, d = .int v ∧ P v) → ∃ ns : List Int, ds = ns.map D.int ∧ ∀ x ∈ ns, P x
  | [], _ => ⟨[], rfl, by simp⟩
  | d :: ds, h => by
    obtain ⟨v, rfl, hv⟩ := h d List.mem_cons_self
    obtain ⟨ns, rfl, hns⟩ := ints_of fun x hx => h x (List.mem_cons_of_mem _ hx)
    exact ⟨v :: ns, rfl, by simpa using ⟨hv, hns⟩⟩
theorem at_ints {ns : List Int} {i : Int} : atI (ns.map D.int) i = (atI ns i).map D.int := atI_map _ _ _
theorem at_memI {ns : List Int} {i : Int} (h0 : 0 ≤ i) (h1 : i < ns.length) : ∃ d, atI ns i = some d ∧ d ∈ ns := by
  unfold atI ixN
  rw [if_pos h0, if_pos (by omega)]
  exact ⟨ns[i.toNat]'(by omega), by simp, List.getElem_mem _⟩
theorem intsD_map : ∀ ns : List Int, intsD (ns.map D.int) = some ns
  | [] => rfl
  | n :: ns => by
    have := intsD_map ns
    show (intsD (ns.map D.int)).map (n :: ·) = _
    rw [this]; rfl
theorem sum_t {ns : List Int} : biSumA (.tup (ns.map D.int)) = pure (.int ns.sum) := by
  show sumL _ = _
  unfold sumL
  rw [intsD_map]
theorem sum_le : ∀ {ns : List Int}, (∀ x ∈ ns, 1 ≤ x ∧ x ≤ 40) → 0 ≤ ns.sum ∧ (ns.length : Int) ≤ ns.sum ∧ ns.sum ≤ 40 * ns.length
  | [], _ => by simp
  | n :: ns, h => by
    have h1 := h n List.mem_cons_self
    have h2 := sum_le fun x hx => h x (List.mem_cons_of_mem _ hx)
    simp only [List.sum_cons, List.length_cons]
    omega
theorem pointer_spec {st : Store} {n : Nat} {d : D} (hd : IsDrg d) (h : Src st n) : T (l_pointer [.ref n, d]) st (Dr n st fun d => ∃ v : Int, d = .int v ∧ -1000 ≤ v ∧ v ≤ 1000) := by
  obtain ⟨hs, held, grab, k1, k2, k3, k4, k5, k6, k7, rfl⟩ := hd
  obtain ⟨s0, s1, s2⟩ := sum_le k3
  rw [l_pointer, t_run, l_pointer_b, t_asg]
  simp [sum_t]
  rw [t_asg]; simp
  refine (draw_spec h (by omega) (by omega)).mono fun d st1 hd => ?_
  obtain ⟨⟨v1, rfl, a0, a1⟩, h1, f1⟩ := hd
  refine (draw_spec h1 (by omega) (by omega)).mono fun d st2 hd => ?_
  obtain ⟨⟨v2, rfl, b0, b1⟩, h2, f2⟩ := hd
  simp
  rw [t_ret1]; simp
  have g1 : Nat.log2 3 < 60 := lg2 (by decide) (by decide)
  have g2 := lg s0 (by omega)
  refine ⟨by omega, ?_⟩
  refine (draw_spec h2 (by omega) (by omega)).mono fun d st3 hd => ?_
  obtain ⟨⟨v3, rfl, c0, c1⟩, h3, f3⟩ := hd
  simp
  refine (of_spec h3 (by simp) (by simp)).mono fun g st4 hd => ?_
  obtain ⟨hg, h4, f4⟩ := hd
  refine ⟨?_, h4, ((f1.trans f2).trans f3).trans f4⟩
  simp at hg
  rcases hg with rfl | rfl | rfl <;> exact ⟨_, rfl, by omega, by omega⟩
theorem source_spec {ns : List Int} {k : Int} {st : Store} (h0 : 0 ≤ k) (h1 : k < 1000) : T (l_source [.scr ns, .int k]) st (fun d s => ∃ n, d = .ref n ∧ Src s n) := by
  rw [l_source, t_run, l_source_b, t_asg]
  simp
  have hl := lg h0 (by omega)
  have g1 : Nat.log2 7919 < 60 := lg2 (by decide) (by decide)
  have g2 : Nat.log2 104729 < 60 := lg2 (by decide) (by decide)
  have fin : ∀ cell : Int, 0 ≤ cell → T ((dSeq (dIfS (bVal (d2 opLt (dVar 2) (d2 opPow (dC (.int 10)) (dC (.int 18))))) (dRet (dOwn (dCons (dC (.int 0)) (dCons (d2 opAdd (dC (.int 1)) (d2 opMod (dCall (on1 biInt) (dCons (d2 opAdd (d2 opMul (dVar 2) (dC (.int 7919))) (d2 opMul (dC (.int 104729)) (dVar 1))) (dNil))) (dC (.int 2147483646)))) (dNil))))) (dSkip)) <|
  dRet (dOwn (dCons (dVar 2) (dCons (d2 opAdd (dC (.int 1)) (d2 opMod (dCall (on1 biInt) (dCons (d2 opAdd (dVar 2) (dVar 1)) (dNil))) (dC (.int 2147483646)))) (dNil))))) [some (.scr ns), some (.int k), some (.int cell)]) st (RetQ fun d s => ∃ n, d = .ref n ∧ Src s n) := fun cell hc => by
    rw [t_ifs]; simp
    refine ⟨fun e => ?_, fun e => ?_⟩
    · simp [t_ret]
      have := lg hc (by omega)
      refine ⟨by omega, by omega, 0, 1 + (cell * 7919 + 104729 * k) % 2147483646, by simp, by omega, ?_, ?_⟩
      · have := Int.emod_nonneg (cell * 7919 + 104729 * k) (show (2147483646 : Int) ≠ 0 by decide); omega
      · have := Int.emod_lt_of_pos (cell * 7919 + 104729 * k) (show (0 : Int) < 2147483646 by decide); omega
    · rw [t_ret1]; simp
      refine ⟨cell, 1 + (cell + k) % 2147483646, by simp, hc, ?_, ?_⟩
      · have := Int.emod_nonneg (cell + k) (show (2147483646 : Int) ≠ 0 by decide); omega
      · have := Int.emod_lt_of_pos (cell + k) (show (0 : Int) < 2147483646 by decide); omega
  rw [t_ifs]; simp
  refine ⟨fun e => ?_, fun e => ?_⟩
  · obtain ⟨c, hc, _⟩ := at_memI h0 e
    rw [t_asg]
    simp [hc]
    refine fin _ ?_
    split <;> omega
  · exact fin 0 (by omega)
theorem q_refl {x : D} (h : Dep 64 x) : opEq true x x = pure (.bl false) := by
  rw [eq_of h h, deq_refl h.ok]
  rfl

/-! ### what is recognized -/
def th (d : D) : Bool := isS "held" d || (isS "place" d || isS "next" d)
def rng (d : D) : Bool := match d with
  | .int v => decide (0 ≤ v) && decide (v ≤ 4)
  | _ => false
def isPtB : D → Bool
  | .tup [a] => isS "pointer" a
  | .tup [a, b] => !isS "pointer" a && (th a && (isI b && rng b))
  | _ => false
def wd (d : D) : Bool := isS "below" d || (isS "above" d || (isS "not below" d || isS "not above" d))
def isCmpB : D → Bool
  | .tup [a, b, c] => wd a && (isPtB b && isPtB c)
  | _ => false
def jn (d : D) : Bool := isS "and" d || isS "or" d
def isCondB : D → Bool
  | .tup [a, b, c] => if jn a then isCmpB b && isCmpB c else wd a && (isPtB b && isPtB c)
  | .tup [a, b, c, d] => jn a && (isCmpB b && (isCmpB c && isCmpB d))
  | _ => false
def isRuleB : D → Bool
  | .tup [a, b] => isCondB a && isCondB b
  | _ => false
theorem isS_str {s : Str} {d : D} (h : isS s d = true) : d = .str s := by
  cases d with
  | str t => rw [eq_of_beq h]
  | _ => cases h
theorem isS_isStr {s : Str} {d : D} (h : isSt d = false) : isS s d = false := by cases d <;> first | rfl | cases h
theorem is_number_eq {d : D} (h : d.okD = true) : p_is_number [d] = pure (.bl (isI d)) := by
  refine eq_of_T fun st => ?_
  rw [p_is_number, t_run, p_is_number_b, t_ret1]
  simp [isi_int h, isi_bool h]
  cases d <;> simp [isI, isB]
theorem dep_wordsT {zs : List Str} (hz : ∀ z ∈ zs, PyData.strOk z = true) : Dep 64 (.tup (zs.map D.str)) := by
  simp
  exact fun z h => dep_str (hz z h)
theorem dep_wordsL {zs : List Str} (hz : ∀ z ∈ zs, PyData.strOk z = true) : Dep 64 (.lst (zs.map D.str)) := by
  simp
  exact fun z h => dep_str (hz z h)
theorem among_eq {zs : List Str} {d : D} (h : Dep 64 d) (hz : ∀ z ∈ zs, PyData.strOk z = true) : p_is_among [.tup (zs.map D.str), d] = pure (.bl (zs.any fun z => isS z d)) := by
  refine eq_of_T fun st => ?_
  rw [p_is_among, t_run, p_is_among_b, t_ret1]
  simp only [dAnd, d1, d2]
  simp [isi_str h.ok, in_of h (dep_wordsT hz), Function.comp_def]
  cases hs : isSt d with
  | true => simp
  | false =>
    simp
    exact fun z _ => isS_isStr hs
theorem amongL_eq {zs : List Str} {d : D} (h : Dep 64 d) (hz : ∀ z ∈ zs, PyData.strOk z = true) : p_is_among [.lst (zs.map D.str), d] = pure (.bl (zs.any fun z => isS z d)) := by
  refine eq_of_T fun st => ?_
  rw [p_is_among, t_run, p_is_among_b, t_ret1]
  simp only [dAnd, d1, d2]
  simp [isi_str h.ok, in_ofL h (dep_wordsL hz), Function.comp_def]
  cases hs : isSt d with
  | true => simp
  | false =>
    simp
    exact fun z _ => isS_isStr hs
theorem is_point_eq {d : D} (h : Dep 60 d) : p_is_point [d] = pure (.bl (isPtB d)) := by
  refine eq_of_T fun st => ?_
  have h64 : Dep 64 d := h.mono (by decide)
  rw [p_is_point, t_run, p_is_point_b, t_ifs]
  cases d with
  | tup ds =>
    have am : ∀ a, Dep 64 a → p_is_among [g_THINGS, a] = pure (.bl (th a)) := fun a ha => by
      have := among_eq (zs := (["held", "place", "next"] : List Str)) ha (by simp)
      simpa [th] using this
    simp only [dBOr, dBNot, bVal, d1, d2]
    simp [isi_tuple h.ok, eq_of h64, isTu]
    match ds, h, h64 with
    | [], _, _ => simp [isNil, isPtB, t_ret]
    | [a], h, _ =>
      have ha : Dep 64 a := (h.items (d := a) (by simp)).mono (by decide)
      simp [isNil, t_ifs, t_ret, t_ret1, q_s ha, isPtB]
    | [a, b], h, _ =>
      have ha : Dep 64 a := (h.items (d := a) (by simp)).mono (by decide)
      have hb : Dep 64 b := (h.items (d := b) (by simp)).mono (by decide)
      simp [isNil, t_ifs, t_ret, t_ret1, q_s ha, isPtB, am a ha, is_number_eq hb.ok]
      refine ⟨fun e => by simp [e], fun e => ?_⟩
      simp [e]
      cases th a with
      | false => simp
      | true =>
        cases b with
        | int v =>
          simp [isI, rng]
          by_cases h0 : 0 ≤ v
          · simp [h0]; omega
          · simp [h0]
        | _ => simp [isI, rng]
    | a :: b :: c :: r, h, _ =>
      have ha : Dep 64 a := (h.items (d := a) (by simp)).mono (by decide)
      have e1 : ((r.length : Int) + 1 + 1 + 1 == 1) = false := by simp; omega
      have e2 : ((r.length : Int) + 1 + 1 + 1 == 2) = false := by simp; omega
      have e0 := at_zero (a := a) (r := b :: c :: r)
      simp [isNil, t_ifs, t_ret, t_ret1, q_s ha, isPtB, e0, e1, e2]
  | _ =>
    simp only [dBOr, dBNot, bVal, d1, d2]
    simp [isi_tuple h.ok, isTu, isPtB, t_ret]
theorem in_jn {a : D} (ha : Dep 64 a) : opIn false a (.tup [.str "and", .str "or"]) = pure (.bl (jn a)) := by
  rw [in_of ha (by simp)]
  simp [jn]
theorem is_comparison_eq {d : D} (h : Dep 60 d) : p_is_comparison [d] = pure (.bl (isCmpB d)) := by
  refine eq_of_T fun st => ?_
  have h64 : Dep 64 d := h.mono (by decide)
  rw [p_is_comparison, t_run, p_is_comparison_b, t_ifs]
  have am : ∀ a, Dep 64 a → p_is_among [.lst (g_TURNED.map fun q => keyV q.1), a] = pure (.bl (wd a)) := fun a ha => by
    have := amongL_eq (zs := (["below", "above", "not below", "not above"] : List Str)) ha (by simp)
    simpa [wd, keyV] using this
  cases d with
  | tup ds =>
    simp only [dBOr, dBNot, bVal, d1, d2]
    simp [isi_tuple h.ok, isTu, dKlist]
    match ds, h with
    | [], _ => simp [isCmpB, t_ret]
    | [_], _ => simp [isCmpB, t_ret]
    | [_, _], _ => simp [isCmpB, t_ret]
    | [a, b, c], h =>
      have ha : Dep 64 a := (h.items (d := a) (by simp)).mono (by decide)
      have hb : Dep 60 b := (h.items (d := b) (by simp)).mono (by decide)
      have hc : Dep 60 c := (h.items (d := c) (by simp)).mono (by decide)
      have am' := am a ha
      simp [keyV] at am'
      simp [isCmpB, keyV, am', t_ret, t_ret1, is_point_eq hb, is_point_eq hc]
      cases wd a <;> cases isPtB b <;> cases isPtB c <;> simp
    | _ :: _ :: _ :: _ :: r, _ =>
      simp [isCmpB, t_ret]
      intro e
      omega
  | _ =>
    simp only [dBOr, dBNot, bVal, d1, d2]
    simp [isi_tuple h.ok, isTu, isCmpB, t_ret]
theorem blsD_map : ∀ bs : List Bool, blsD (bs.map D.bl) = some bs
  | [] => rfl
  | b :: bs => by
    have := blsD_map bs
    show (blsD (bs.map D.bl)).map (b :: ·) = _
    rw [this]; rfl
theorem all_l {bs : List Bool} : biAll (.lst (bs.map D.bl)) = pure (.bl (bs.all id)) := by
  show allL _ = _
  unfold allL
  rw [blsD_map]
theorem lc_bools {t : Tg} {f : Den} {ρ : MP.Env} {g : D → Bool} {ds : List D} (h : ∀ d ∈ ds, ∃ ρ1, t.bind d ρ = some ρ1 ∧ f ρ1 = pure (.bl (g d))) : lcL t bTrue f ρ ds = pure ((ds.map g).map D.bl) := by
  have := lc_map (t := t) (c := bTrue) (f := f) (ρ := ρ) (p := fun _ => true) (g := fun d => .bl (g d)) (ds := ds) fun d hd => by
    obtain ⟨ρ1, h1, h2⟩ := h d hd
    exact ⟨ρ1, h1, rfl, fun _ => h2⟩
  rw [this, List.filter_eq_self.mpr (by simp), List.map_map]
  rfl
theorem cut1 {α : Type} {a : α} {r : List α} : cutL (a :: r) (some 1) none = r := by
  unfold cutL HT.sIx
  simp
theorem cond_none : ∀ {ds : List D}, ds.length ≠ 3 → ds.length ≠ 4 → isCondB (.tup ds) = false
  | [], _, _ => rfl
  | [_], _, _ => rfl
  | [_, _], _, _ => rfl
  | [_, _, _], h, _ => absurd rfl h
  | [_, _, _, _], _, h => absurd rfl h
  | _ :: _ :: _ :: _ :: _ :: _, _, _ => rfl
theorem is_good_condition_eq {d : D} (h : Dep 60 d) : p_is_good_condition [d] = pure (.bl (isCondB d)) := by
  refine eq_of_T fun st => ?_
  have h64 : Dep 64 d := h.mono (by decide)
  have am : ∀ a, Dep 64 a → p_is_among [g_JOINTS, a] = pure (.bl (jn a)) := fun a ha => by
    have := among_eq (zs := (["and", "or"] : List Str)) ha (by simp)
    simpa [jn] using this
  rw [p_is_good_condition, t_run, p_is_good_condition_b, t_ifs]
  cases d with
  | tup ds =>
    simp only [dBOr, dBNot, bVal, d1, d2]
    have hin : ∀ n : Nat, opIn true (.int n) (.tup [.int 3, .int 4]) = pure (.bl (!(n == 3 || n == 4))) := fun n => by
      rw [in_of dep_int (by simp)]
      have e3 : ((3 : Int) == (n : Int)) = (n == 3) := by rw [Bool.eq_iff_iff]; simp; omega
      have e4 : ((4 : Int) == (n : Int)) = (n == 4) := by rw [Bool.eq_iff_iff]; simp; omega
      simp [e3, e4]
    simp [isi_tuple h.ok, isTu, hin]
    refine ⟨fun h3 h4 => ?_, fun h34 => ?_⟩
    · simp [t_ret, cond_none h3 h4]
    · have go : ∀ (a : D) (r : List D), Dep 60 (.tup (a :: r)) → r.length < 1000 → (jn a = true → isCondB (.tup (a :: r)) = r.all isCmpB) → (jn a = false → isCondB (.tup (a :: r)) = isCmpB (.tup (a :: r))) → T
        (dSeq
          (dIfS (bVal (dCall (arity 2 p_is_among) (dCons (dC g_JOINTS) (dCons (d2 opIx (dVar 0) (dC (D.int 0))) dNil))))
            (dRet
              (dCall (on1 biAll)
                (dCons
                  (dLc (iVal (dSl (dVar 0) (oSome (dC (D.int 1))) oNone)) [1] (Tg.nm 1) bTrue
                    (dCall (arity 1 p_is_comparison) (dCons (dVar 1) dNil)))
                  dNil)))
            dSkip)
          (dRet (dCall (arity 1 p_is_comparison) (dCons (dVar 0) dNil))) [some (D.tup (a :: r)), none])
        st (RetQ fun d s => d = D.bl (isCondB (D.tup (a :: r))) ∧ s = st) := fun a r h hr h1 h2 => by
        have ha : Dep 64 a := (h.items (d := a) (by simp)).mono (by decide)
        have am' := am a ha
        simp only [g_JOINTS] at am'
        rw [t_ifs]
        simp [at_zero, am']
        refine ⟨fun e => ?_, fun e => ?_⟩
        · simp [t_ret, cut1, wipeE]
          refine ⟨by omega, ?_⟩
          rw [lc_bools (g := isCmpB) fun d hd => ⟨_, rfl, by simpa using is_comparison_eq ((h.items (d := d) (by simp [hd])).mono (by decide))⟩]
          simp
          rw [← List.map_map, all_l]
          simp [h1 e]
        · simp [t_ret1, is_comparison_eq h, h2 e]
      match ds, h, h34 with
      | [a, b, c], h, _ => exact go a [b, c] h (by simp) (fun e => by simp [isCondB, e]) (fun e => by simp [isCondB, isCmpB, e])
      | [a, b, c, d], h, _ => exact go a [b, c, d] h (by simp) (fun e => by simp [isCondB, e]) (fun e => by simp [isCondB, isCmpB, e])
      | [], _, h34 => simp at h34
      | [_], _, h34 => simp at h34
      | [_, _], _, h34 => simp at h34
      | _ :: _ :: _ :: _ :: _ :: r, _, h34 => simp at h34
  | _ =>
    simp only [dBOr, dBNot, bVal, d1, d2]
    simp [isi_tuple h.ok, isTu, isCondB, t_ret]
theorem wd_jn {a : D} (h : wd a = true) : jn a = false := by
  simp [wd] at h
  rcases h with h | h | h | h <;> rw [isS_str h] <;> decide +kernel
theorem is_good_rule_eq {d : D} (h : Dep 60 d) : p_is_good_rule [d] = pure (.bl (isRuleB d)) := by
  refine eq_of_T fun st => ?_
  have h64 : Dep 64 d := h.mono (by decide)
  rw [p_is_good_rule, t_run, p_is_good_rule_b, t_ret1]
  cases d with
  | tup ds =>
    simp only [dAnd, d1, d2]
    simp [isi_tuple h.ok, isTu]
    match ds, h with
    | [], _ => simp [isRuleB]
    | [_], _ => simp [isRuleB]
    | [a, b], h =>
      have ha : Dep 60 a := (h.items (d := a) (by simp)).mono (by decide)
      have hb : Dep 60 b := (h.items (d := b) (by simp)).mono (by decide)
      simp [isRuleB, wipeE]
      rw [lc_bools (g := isCondB) fun d hd => ⟨_, rfl, by
        have : Dep 60 d := by
          simp at hd
          rcases hd with rfl | rfl
          · exact ha
          · exact hb
        simpa using is_good_condition_eq this⟩]
      simp
      have := all_l (bs := [isCondB a, isCondB b])
      simp at this
      simp [this]
    | _ :: _ :: _ :: r, _ =>
      simp [isRuleB]
      intro e
      omega
  | _ =>
    simp only [dAnd, d1, d2]
    simp [isi_tuple h.ok, isTu, isRuleB]
def rowB (d : D) : Bool := match d with
  | .int v => decide (0 < v)
  | _ => false
def heldB (hs : List D) (x g : D) : Bool := match x with
  | .int v => decide (0 ≤ v) && (decide (v < hs.length) && match g, atI hs v with
    | .int w, some (.int u) => decide (0 ≤ w) && decide (w ≤ u)
    | _, _ => false)
  | _ => false
def isDragB : D → Bool
  | .tup [.tup hs, x, g] => decide (2 ≤ hs.length) && (decide (hs.length ≤ 6) && (hs.all rowB && heldB hs x g))
  | _ => false
theorem rows_ints {hs : List D} (h : hs.all rowB = true) : ∃ ns : List Int, hs = ns.map D.int ∧ ∀ x ∈ ns, 0 < x := by
  refine ints_of fun d hd => ?_
  have := List.all_eq_true.mp h d hd
  unfold rowB at this
  split at this
  · exact ⟨_, rfl, of_decide_eq_true this⟩
  · cases this
theorem all_id {hs : List D} {g : D → Bool} : (hs.map g).all id = hs.all g := by simp [List.all_map]
theorem is_good_drag_eq {d : D} (h : Dep 60 d) : p_is_good_drag [d] = pure (.bl (isDragB d)) := by
  refine eq_of_T fun st => ?_
  have h64 : Dep 64 d := h.mono (by decide)
  rw [p_is_good_drag, t_run, p_is_good_drag_b, t_ifs]
  cases d with
  | tup ds =>
    simp only [dBOr, dBNot, bVal, d1, d2]
    simp [isi_tuple h.ok, isTu]
    match ds, h with
    | [], _ => simp [isDragB, t_ret]
    | [_], _ => simp [isDragB, t_ret]
    | [_, _], _ => simp [isDragB, t_ret]
    | [a, x, g], h =>
      have ha : Dep 64 a := (h.items (d := a) (by simp)).mono (by decide)
      have hx : Dep 64 x := (h.items (d := x) (by simp)).mono (by decide)
      have hg : Dep 64 g := (h.items (d := g) (by simp)).mono (by decide)
      simp [isi_tuple ha.ok]
      cases a with
      | tup hs =>
        have hh : ∀ d ∈ hs, Dep 59 d := fun d hd => ((h.items (d := .tup hs) (by simp)).items hd).mono (by decide)
        simp [isTu]
        rw [t_tg]
        simp
        rw [t_ifs]
        simp [isDragB]
        refine ⟨fun e => ?_, fun e1 e2 => ⟨by omega, ?_⟩⟩
        · simp [t_ret]
          intro a b
          omega
        · simp [wipeE]
          rw [lc_bools (g := rowB) fun d hd => ⟨_, rfl, by
            have := is_number_eq (hh d hd).ok
            cases d <;> simp [this, isI, rowB]⟩]
          simp only [t_pure, all_l, asB_b, all_id]
          refine ⟨fun e => by simp [t_ret, e], fun e => ?_⟩
          have e1' : 2 ≤ hs.length := by omega
          have e2' : hs.length ≤ 6 := by omega
          simp only [e, e1', e2', decide_true, Bool.true_and]
          rw [t_ret1]
          obtain ⟨ns, rfl, hns⟩ := rows_ints e
          simp only [dAnd, d1, d2]
          simp [is_number_eq hx.ok]
          cases x with
          | int v =>
            simp [isI]
            by_cases v0 : 0 ≤ v
            · by_cases v1 : v < ns.length
              · obtain ⟨u, hu, _⟩ := at_memI v0 v1
                simp [v0, v1, is_number_eq hg.ok, at_ints, hu, heldB]
                cases g with
                | int w => simp [isI]; omega
                | _ => simp [isI]
              · simp [v0, v1, heldB]
            · simp [v0, heldB]
          | _ => simp [isI, heldB]
      | _ => simp [isTu, t_ret, isDragB]
    | _ :: _ :: _ :: _ :: r, _ =>
      simp [isDragB, t_ret]
      intro e
      omega
  | _ =>
    simp only [dBOr, dBNot, bVal, d1, d2]
    simp [isi_tuple h.ok, isTu, isDragB, t_ret]
theorem isPt_dep {p : D} (h : IsPt p) : Dep 1 p := by
  rcases h with rfl | ⟨s, v, hs, h0, h1, rfl⟩
  · simp
  · rcases hs with rfl | rfl | rfl <;> simp
theorem isPt_B {p : D} (h : IsPt p) : isPtB p = true := by
  rcases h with rfl | ⟨s, v, hs, h0, h1, rfl⟩
  · simp [isPtB, isS]
  · rcases hs with rfl | rfl | rfl <;> simp [isPtB, isS, th, isI, rng, h0, h1] <;> decide +kernel
theorem isWd_ok {s : Str} (h : IsWd s) : PyData.strOk s = true := by rcases h with rfl | rfl | rfl | rfl <;> simp
theorem isWd_B {s : Str} (h : IsWd s) : wd (.str s) = true := by rcases h with rfl | rfl | rfl | rfl <;> decide +kernel
theorem isCmp_dep {p : D} (h : IsCmp p) : Dep 2 p := by
  obtain ⟨s, a, b, hs, ha, hb, rfl⟩ := h
  exact dep_tup.mpr (by simp [isWd_ok hs, isPt_dep ha, isPt_dep hb])
theorem isCmp_B {p : D} (h : IsCmp p) : isCmpB p = true := by
  obtain ⟨s, a, b, hs, ha, hb, rfl⟩ := h
  simp [isCmpB, isWd_B hs, isPt_B ha, isPt_B hb]
theorem isCond_dep {p : D} (h : IsCond p) : Dep 3 p := by
  rcases h with h | ⟨s, cs, hs, h0, h1, hc, rfl⟩
  · exact (isCmp_dep h).mono (by decide)
  · refine dep_tup.mpr ?_
    have : PyData.strOk s = true := by rcases hs with rfl | rfl <;> simp
    simp [this]
    exact fun a ha => isCmp_dep (hc a ha)
theorem jn_s {s : Str} (hs : s = "and" ∨ s = "or") : jn (.str s) = true := by rcases hs with rfl | rfl <;> decide +kernel
theorem isCond_B {p : D} (h : IsCond p) : isCondB p = true := by
  rcases h with h | ⟨s, cs, hs, h0, h1, hc, rfl⟩
  · have := isCmp_B h
    obtain ⟨s, a, b, hs, ha, hb, rfl⟩ := h
    simp [isCmpB] at this
    simp [isCondB, wd_jn this.1, this]
  · match cs, h0, h1, hc with
    | [a, b], _, _, hc => simp [isCondB, jn_s hs, isCmp_B (hc a (by simp)), isCmp_B (hc b (by simp))]
    | [a, b, c], _, _, hc => simp [isCondB, jn_s hs, isCmp_B (hc a (by simp)), isCmp_B (hc b (by simp)), isCmp_B (hc c (by simp))]
    | [], h0, _, _ => simp at h0
    | [_], h0, _, _ => simp at h0
    | _ :: _ :: _ :: _ :: _, _, h1, _ => simp at h1
theorem isRule_dep {p : D} (h : IsRule p) : Dep 4 p := by
  obtain ⟨a, b, ha, hb, rfl⟩ := h
  exact dep_tup.mpr (by simp [isCond_dep ha, isCond_dep hb])
theorem isRule_B {p : D} (h : IsRule p) : isRuleB p = true := by
  obtain ⟨a, b, ha, hb, rfl⟩ := h
  simp [isRuleB, isCond_B ha, isCond_B hb]
theorem need_rule_eq {r : D} (h : IsRule r) : p_need_rule [r] = pure .non := by
  refine eq_of_T fun st => ?_
  rw [p_need_rule, t_run, p_need_rule_b, t_ifs1]
  simp [is_good_rule_eq ((isRule_dep h).mono (by decide)), isRule_B h]
/-! ### parts -/
def partsD : D → List D
  | .tup (.str s :: cs) => if s = "and" ∨ s = "or" then cs else [.tup (.str s :: cs)]
  | d => [d]
theorem wd_not {s : Str} (h : IsWd s) : ¬(s = "and" ∨ s = "or") := by rcases h with rfl | rfl | rfl | rfl <;> decide +kernel
theorem partsD_cmp {p : D} (h : IsCmp p) : partsD p = [p] := by
  obtain ⟨s, a, b, hs, ha, hb, rfl⟩ := h
  simp only [partsD]
  rw [if_neg (wd_not hs)]
theorem parts_cmp {c : D} (h : IsCond c) : ∀ p ∈ partsD c, IsCmp p := by
  rcases h with h | ⟨s, cs, hs, h0, h1, hc, rfl⟩
  · rw [partsD_cmp h]; simpa using h
  · simp only [partsD]; rw [if_pos hs]; exact hc
theorem parts_len {c : D} (h : IsCond c) : (partsD c).length ≤ 3 := by
  rcases h with h | ⟨s, cs, hs, h0, h1, hc, rfl⟩
  · rw [partsD_cmp h]; simp
  · simp only [partsD]; rw [if_pos hs]; exact h1
theorem cond_hd {c : D} (h : IsCond c) : ∃ (s : Str) (r : List D), c = .tup (.str s :: r) ∧ PyData.strOk s = true ∧ partsD c = (if jn (.str s) = true then r else [c]) := by
  rcases h with h | ⟨s, cs, hs, h0, h1, hc, rfl⟩
  · rw [partsD_cmp h]
    obtain ⟨s, a, b, hs, ha, hb, rfl⟩ := h
    exact ⟨s, _, rfl, isWd_ok hs, by rw [wd_jn (isWd_B hs)]; simp⟩
  · exact ⟨s, cs, rfl, by rcases hs with rfl | rfl <;> simp, by simp only [partsD]; rw [if_pos hs, if_pos (jn_s hs)]⟩
theorem parts_of_eq {c : D} (h : IsCond c) : p_parts_of [c] = pure (.lst (partsD c)) := by
  obtain ⟨s, r, rfl, hs, hp⟩ := cond_hd h
  refine eq_of_T fun st => ?_
  rw [p_parts_of, t_run, p_parts_of_b, t_ret1]
  have := in_jn (dep_str hs (k := 64))
  simp [at_zero, g_JOINTS, this, cut1, hp]
  cases jn (.str s) <;> simp
def Ext (st s : Store) : Prop := ∃ e, s = st ++ e
/-! ### odd values, spoilt values -/
def leaf : D → Prop
  | .non => True
  | .bl _ => True
  | .int _ => True
  | .str s => PyData.strOk s = true
  | _ => False
def Pl (L : Nat) : Nat → D → Prop
  | 0, d => leaf d
  | k + 1, d => leaf d ∨ ∃ ds, (d = .tup ds ∨ d = .lst ds) ∧ ds.length ≤ L ∧ ∀ x ∈ ds, Pl L k x
theorem Pl.leaf {L : Nat} : ∀ {k : Nat} {d : D}, leaf d → Pl L k d
  | 0, _, h => h
  | _ + 1, _, h => .inl h
theorem Pl.mono {L M : Nat} (hL : L ≤ M) : ∀ {k : Nat} {d : D}, Pl L k d → Pl M (k + 1) d ∧ Pl M k d
  | 0, d, h => ⟨.inl h, h⟩
  | k + 1, d, h => by
    rcases h with h | ⟨ds, h1, h2, h3⟩
    · exact ⟨.inl h, .inl h⟩
    · exact ⟨.inr ⟨ds, h1, by omega, fun x hx => (Pl.mono hL (h3 x hx)).1⟩, .inr ⟨ds, h1, by omega, fun x hx => (Pl.mono hL (h3 x hx)).2⟩⟩
theorem Pl.up {L M k j : Nat} {d : D} (h : Pl L k d) (hL : L ≤ M) (hk : k ≤ j) : Pl M j d := by
  induction hk with
  | refl => exact (Pl.mono hL h).2
  | step _ ih => exact (Pl.mono (Nat.le_refl _) ih).1
theorem cut_take {α : Type} {ds : List α} {i : Int} (h0 : 0 ≤ i) (h1 : i ≤ ds.length) : cutL ds none (some i) = ds.take i.toNat := by
  unfold cutL HT.sIx
  simp only [if_neg (show ¬ i < 0 by omega), List.drop_zero, Nat.sub_zero]
  rw [Nat.min_eq_left (by omega)]
theorem cut_drop {α : Type} {ds : List α} {i : Int} (h0 : 0 ≤ i) (h1 : i ≤ ds.length) : cutL ds (some i) none = ds.drop i.toNat := by
  unfold cutL HT.sIx
  simp only [if_neg (show ¬ i < 0 by omega)]
  rw [Nat.min_eq_left (by omega), ← List.length_drop, List.take_length]
/-! ### where rows are, what holds there -/
/-- a great number, never unfolded -/
@[irreducible] def BB : Int := 2 ^ 40000
theorem bb1 : 1000000 ≤ BB := by unfold BB; decide +kernel
theorem bb2 : 10000 * BB < 2 ^ 40100 := by unfold BB; decide +kernel
theorem lga {x : Int} (h0 : -(10000 * BB) ≤ x) (h1 : x ≤ 10000 * BB) : x.natAbs.log2 < 40100 := by
  have h := bb2
  refine lg2 ?_ (by decide)
  have e : ((2 ^ 40100 : Nat) : Int) = (2 : Int) ^ 40100 := by rw [Int.natCast_pow]; rfl
  generalize (2 ^ 40100 : Nat) = n at e
  rw [← e] at h
  omega
structure Sp where
  q : Int
  h : Int
  hh : Int
  p : Int
  ph : Int
  n : Int
  nh : Int
def Bd (x : Int) : Prop := -(200 * BB) ≤ x ∧ x ≤ 200 * BB
structure Sp.Ok (s : Sp) : Prop where
  q : Bd s.q
  h : Bd s.h
  hh : Bd s.hh
  p : Bd s.p
  ph : Bd s.ph
  n : Bd s.n
  nh : Bd s.nh
abbrev Sp.ks : List Key := [.inr "pointer", .inr "held", .inr "place", .inr "next"]
abbrev Sp.vs (s : Sp) : List D := [.int s.q, .tup [.int s.h, .int s.hh], .tup [.int s.p, .int s.ph], .tup [.int s.n, .int s.nh]]
abbrev Sp.d (s : Sp) : D := .dic Sp.ks s.vs
def ptv (s : Sp) : D → Int
  | .tup [.str w, .int v] => if w = "held" then 4 * s.h + v * s.hh else if w = "place" then 4 * s.p + v * s.ph else 4 * s.n + v * s.nh
  | _ => 4 * s.q
def cmpV (w : Str) (l r : Int) : Bool := if w = "below" then decide (r < l) else if w = "above" then decide (l < r) else if w = "not below" then decide (l ≤ r) else decide (r ≤ l)
def cmpH (s : Sp) : D → Bool
  | .tup [.str w, a, b] => cmpV w (ptv s a) (ptv s b)
  | _ => false
def holdsB (s : Sp) (c : D) : Bool := match c with
  | .tup (.str w :: _) => if w = "or" then (partsD c).any (cmpH s) else (partsD c).all (cmpH s)
  | _ => false
theorem sp_get1 {vs : List D} {a b c d : D} (h : vs = [a, b, c, d]) : dget Sp.ks vs (.inr "pointer") = some a ∧ dget Sp.ks vs (.inr "held") = some b ∧ dget Sp.ks vs (.inr "place") = some c ∧ dget Sp.ks vs (.inr "next") = some d := by
  subst h
  refine ⟨?_, ?_, ?_, ?_⟩ <;> simp (decide := true) [dget]
theorem point_at_eq {p : D} {s : Sp} (h : IsPt p) (hs : s.Ok) : p_point_at [p, s.d] = pure (.int (ptv s p)) := by
  refine eq_of_T fun st => ?_
  obtain ⟨e1, e2, e3, e4⟩ := sp_get1 (show s.vs = _ from rfl)
  have l4 : Nat.log2 4 < 60 := lg2 (by decide) (by decide)
  have hB := bb1
  have b1 := hs.q; have b2 := hs.h; have b3 := hs.hh; have b4 := hs.p; have b5 := hs.ph; have b6 := hs.n; have b7 := hs.nh
  unfold Bd at b1 b2 b3 b4 b5 b6 b7
  rw [p_point_at, t_run, p_point_at_b, t_ifs]
  rcases h with rfl | ⟨w, v, hw, h0, h1, rfl⟩
  · simp [q_s (dep_str so1), isS, t_ret, e1, ptv]
    have := lga (x := s.q) (by omega) (by omega)
    omega
  · have hk : PyData.strOk w = true := by rcases hw with rfl | rfl | rfl <;> simp
    have hne : (w == ("pointer" : Str)) = false := by rcases hw with rfl | rfl | rfl <;> decide +kernel
    simp [q_s (dep_str hk), isS, hne]
    rw [t_tg]
    have lv := lga (x := v) (by omega) (by omega)
    rcases hw with rfl | rfl | rfl
    · simp [e2, t_ret1, ptv]
      have := lga (x := s.h) (by omega) (by omega)
      have := lga (x := s.hh) (by omega) (by omega)
      omega
    · simp [e3, t_ret1, ptv]
      have := lga (x := s.p) (by omega) (by omega)
      have := lga (x := s.ph) (by omega) (by omega)
      simp (decide := true)
      omega
    · simp [e4, t_ret1, ptv]
      have := lga (x := s.n) (by omega) (by omega)
      have := lga (x := s.nh) (by omega) (by omega)
      simp (decide := true)
      omega
theorem is_so_eq {c : D} {s : Sp} (h : IsCmp c) (hs : s.Ok) : p_is_so [c, s.d] = pure (.bl (cmpH s c)) := by
  refine eq_of_T fun st => ?_
  obtain ⟨w, a, b, hw, ha, hb, rfl⟩ := h
  have hk := isWd_ok hw
  rw [p_is_so, t_run, p_is_so_b, t_tg]
  simp
  rw [t_par]
  simp [point_at_eq ha hs, point_at_eq hb hs]
  rw [t_ifs]
  simp [in_of (dep_str hk) (show Dep 64 (.tup [.str "below", .str "not below"]) by simp), cmpH]
  rcases hw with rfl | rfl | rfl | rfl
  · simp (decide := true) [isS, t_ret, q_s (dep_str so5), cmpV]
  · simp (decide := true) [isS, t_ret1, q_s (dep_str so6), cmpV]
  · simp (decide := true) [isS, t_ret, q_s (dep_str so7), cmpV]
    rw [show ((("not below" : Str) == ("below" : Str)) = false) by decide +kernel, Bool.eq_iff_iff]; simp
  · simp (decide := true) [isS, t_ret1, q_s (dep_str so8), cmpV]
    rw [show ((("not above" : Str) == ("above" : Str)) = false) by decide +kernel, Bool.eq_iff_iff]; simp
theorem any_l {bs : List Bool} : biAny (.lst (bs.map D.bl)) = pure (.bl (bs.any id)) := by
  show anyL _ = _
  unfold anyL
  rw [blsD_map]
theorem holds_eq {c : D} {s : Sp} (h : IsCond c) (hs : s.Ok) : p_holds [c, s.d] = pure (.bl (holdsB s c)) := by
  refine eq_of_T fun st => ?_
  have hl := parts_len h
  rw [p_holds, t_run, p_holds_b, t_asg]
  simp [parts_of_eq h]
  refine ⟨by omega, ?_⟩
  simp only [wipeE]
  rw [lc_bools (g := cmpH s) fun d hd => ⟨_, rfl, by simp [is_so_eq (parts_cmp h d hd) hs]⟩]
  simp only [t_pure]
  rw [t_ret1]
  obtain ⟨w, r, e, hk, _⟩ := cond_hd h
  generalize hp : partsD c = ps at *
  subst e
  simp [at_zero, q_s (dep_str hk), isS]
  have e1 := any_l (bs := ps.map (cmpH s))
  have e2 := all_l (bs := ps.map (cmpH s))
  rw [List.map_map] at e1 e2
  simp [e1, e2, holdsB, hp]
  refine ⟨fun e => by simp [e], fun e => by simp [e]⟩

/-! ### .. as the law has it -/
structure LSp (st : Store) (n : Nat) (s : Sp) : Prop where
  ex : ∃ (ks : List Key) (vs : List D), st[n]? = some (.dic ks vs) ∧ dget ks vs (.inr "held") = some (.tup [.int s.h, .int (s.h + s.hh)]) ∧ dget ks vs (.inr "place") = some (.tup [.int s.p, .int (s.p + s.ph)]) ∧ dget ks vs (.inr "next") = some (.tup [.int s.n, .int (s.n + s.nh)])
theorem dDic_eq {fs : List (Den × Den)} {ρ : MP.Env} {ps : List (D × D)} {kd : List (Key × D)} (h : denPairs fs ρ = pure ps) (hk : keysD ps = some kd) (hl : fs.length ≤ 15) : dDic fs ρ = pure (.dic (mergeD [] [] kd).1 (mergeD [] [] kd).2) := by
  unfold dDic
  rw [h, noX_pure, pure_bind]
  unfold kvOf
  rw [hk]
  simp [guardM, decide_eq_true hl]
@[simp] theorem dicOf_d {ks : List Key} {ds : List D} : dicOf (.dic ks ds) = pure (ks, ds) := rfl
@[simp] theorem getK_s {z : D} {w : Str} {p : List Key × List D} : getK z (.str w) p = pure ((dget p.1 p.2 (.inr w)).getD z) := rfl
theorem LSp.set {st : Store} {n m : Nat} {s : Sp} {c : Cell} (h : LSp st n s) (hn : m ≠ n) : LSp (st.set m c) n s := by
  obtain ⟨ks, vs, g0, g⟩ := h.ex
  exact ⟨ks, vs, by rw [List.getElem?_set_ne hn]; exact g0, g⟩
/-! ### lists of rows -/
structure Drg (hs : List Int) (held grab hh : Int) : Prop where
  l2 : 2 ≤ hs.length
  l6 : hs.length ≤ 6
  bd : ∀ x ∈ hs, 1 ≤ x ∧ x ≤ BB
  h0 : 0 ≤ held
  h1 : held < hs.length
  g0 : 0 ≤ grab
  at_ : atI hs held = some hh
  g1 : grab ≤ hh
  hh : hh ∈ hs
abbrev dgD (hs : List Int) (held grab : Int) : D := .tup [.tup (hs.map D.int), .int held, .int grab]
def oth (hs : List Int) (held : Int) : List Int := hs.take held.toNat ++ hs.drop (held.toNat + 1)
theorem oth_len {hs : List Int} {held : Int} (h0 : 0 ≤ held) (h1 : held < hs.length) : ((oth hs held).length : Int) = hs.length - 1 := by
  unfold oth
  rw [List.length_append, List.length_take, List.length_drop]
  omega
theorem oth_mem {hs : List Int} {held x : Int} (h : x ∈ oth hs held) : x ∈ hs := by
  rcases List.mem_append.mp h with h | h
  · exact List.mem_of_mem_take h
  · exact List.mem_of_mem_drop h
theorem cutI_take {ns : List Int} {i : Int} (h0 : 0 ≤ i) (h1 : i ≤ ns.length) : cutL (ns.map D.int) none (some i) = (ns.take i.toNat).map D.int := by
  rw [cut_take h0 (by simpa using h1), List.map_take]
theorem cutI_drop {ns : List Int} {i : Int} (h0 : 0 ≤ i) (h1 : i ≤ ns.length) : cutL (ns.map D.int) (some i) none = (ns.drop i.toNat).map D.int := by
  rw [cut_drop h0 (by simpa using h1), List.map_drop]
theorem others_eq {hs : List Int} {held grab hh : Int} (h : Drg hs held grab hh) : p_others_of [dgD hs held grab] = pure (.tup ((oth hs held).map D.int)) := by
  refine eq_of_T fun st => ?_
  have a0 := h.h0; have a1 := h.h1; have a6 := h.l6
  rw [p_others_of, t_run, p_others_of_b, t_tg]
  simp
  rw [t_ret1]
  have e : (held + 1).toNat = held.toNat + 1 := by omega
  simp [cutI_take a0 (show held ≤ hs.length by omega), cutI_drop (ns := hs) (i := held + 1) (by omega) (by omega), oth, e, List.map_append]
  omega
def topI (os : List Int) (place : Int) : Int := (os.take place.toNat).sum
def nxI (os : List Int) (i : Int) : Int := (atI os i).getD 0
def spanI (hs : List Int) (held grab hh q place side : Int) : Sp :=
  { q := q, h := q - grab, hh := hh, p := topI (oth hs held) place, ph := hh, n := cond (side == 0) (topI (oth hs held) place + hh) (topI (oth hs held) place - nxI (oth hs held) (place + side)), nh := nxI (oth hs held) (place + side) }
@[simp] theorem cond_int {c : Bool} {x y : Int} : (cond c (D.int x) (D.int y)) = D.int (cond c x y) := by cases c <;> rfl
theorem spans_at_eq {hs : List Int} {held grab hh q place side : Int} (h : Drg hs held grab hh) (h0 : 0 ≤ place) (h1 : place < hs.length) (h2 : 0 ≤ place + side) (h3 : place + side < hs.length - 1) :
    p_spans_at [dgD hs held grab, .int q, .int place, .int side] = pure (spanI hs held grab hh q place side).d := by
  refine eq_of_T fun st => ?_
  have a0 := h.h0; have a1 := h.h1; have a6 := h.l6
  have ol := oth_len a0 a1
  rw [p_spans_at, t_run, p_spans_at_b, t_tg]
  simp
  rw [t_par]
  simp [others_eq h, at_ints, h.at_]
  rw [t_asg]
  simp [cutI_take (ns := oth hs held) h0 (by omega)]
  rw [← List.map_take, sum_t]
  simp only [t_pure]
  rw [t_asg]
  obtain ⟨u, hu, _⟩ := at_memI (ns := oth hs held) (i := place + side) h2 (by omega)
  simp [at_ints, hu]
  rw [t_ret1]
  rw [dDic_eq (kd := [(.inr "pointer", .int q), (.inr "held", .tup [.int (q - grab), .int hh]), (.inr "place", .tup [.int (topI (oth hs held) place), .int hh]), (.inr "next", .tup [.int (cond (side == 0) (topI (oth hs held) place + hh) (topI (oth hs held) place - u)), .int u])]) (by simp [denPairs, topI]; rfl) rfl (by decide)]
  simp
  simp (decide := true) [mergeD, dputK, dputV, spanI, nxI, hu]
theorem nx_bd {hs : List Int} {held grab hh i : Int} (h : Drg hs held grab hh) : 0 ≤ nxI (oth hs held) i ∧ nxI (oth hs held) i ≤ BB := by
  have hB := bb1
  unfold nxI
  cases e : atI (oth hs held) i with
  | none => simp; omega
  | some u =>
    have hm : u ∈ oth hs held := by
      unfold atI at e
      obtain ⟨j, _, e2⟩ := Option.bind_eq_some_iff.mp e
      exact List.mem_of_getElem? e2
    have := h.bd u (oth_mem hm)
    simp; omega
theorem sum_leB : ∀ {ns : List Int}, (∀ x ∈ ns, 1 ≤ x ∧ x ≤ BB) → 0 ≤ ns.sum ∧ ns.sum ≤ ns.length * BB
  | [], _ => by simp
  | n :: ns, h => by
    have h1 := h n List.mem_cons_self
    have h2 := sum_leB (ns := ns) fun x hx => h x (List.mem_cons_of_mem _ hx)
    rw [List.sum_cons, List.length_cons, Int.natCast_add, Int.add_mul]
    omega
theorem top_bd {hs : List Int} {held grab hh i : Int} (h : Drg hs held grab hh) : 0 ≤ topI (oth hs held) i ∧ topI (oth hs held) i ≤ 6 * BB := by
  have hB := bb1
  have h9 := sum_leB (ns := (oth hs held).take i.toNat) fun x hx => h.bd x (oth_mem (List.mem_of_mem_take hx))
  have l1 : ((oth hs held).take i.toNat).length ≤ (oth hs held).length := by rw [List.length_take]; omega
  have l2 := oth_len h.h0 h.h1
  have l3 := h.l6
  have l4 : (((oth hs held).take i.toNat).length : Int) * BB ≤ 6 * BB := Int.mul_le_mul_of_nonneg_right (by omega) (by omega)
  unfold topI
  omega
def Qb (q : Int) : Prop := -(100 * BB) ≤ q ∧ q ≤ 100 * BB
theorem qb_of {q : Int} (h0 : -1000 ≤ q) (h1 : q ≤ 1000) : Qb q := by
  have hB := bb1
  unfold Qb
  omega
theorem span_ok {hs : List Int} {held grab hh q place side : Int} (h : Drg hs held grab hh) (hq : Qb q) : (spanI hs held grab hh q place side).Ok := by
  obtain ⟨q1, q2⟩ := hq
  have hB := bb1
  have b1 := nx_bd (i := place + side) h
  have b2 := top_bd (i := place) h
  have b3 := h.bd hh h.hh
  have b4 := h.g0
  have b5 := h.g1
  refine ⟨?_, ?_, ?_, ?_, ?_, ?_, ?_⟩ <;> simp only [spanI, Bd] <;> (try omega)
  cases side == 0 <;> simp only [cond] <;> omega
def stepI (a b : D) (hs : List Int) (held grab hh q place : Int) : Int :=
  if place < hs.length - 1 ∧ holdsB (spanI hs held grab hh q place 0) a = true then 1
  else if 0 < place ∧ holdsB (spanI hs held grab hh q place (-1)) b = true then -1 else 0
theorem turn_of_eq {a b : D} {hs : List Int} {held grab hh q place : Int} (ha : IsCond a) (hb : IsCond b) (h : Drg hs held grab hh) (hq : Qb q) (h0 : 0 ≤ place) (h1 : place < hs.length) :
    p_turn_of [.tup [a, b], dgD hs held grab, .int q, .int place] = pure (.int (stepI a b hs held grab hh q place)) := by
  refine eq_of_T fun st => ?_
  rw [p_turn_of, t_run, p_turn_of_b, t_ifs]
  simp only [dBAnd]
  have key : ∀ b1 : Bool, (place < hs.length - 1 → holdsB (spanI hs held grab hh q place 0) a = b1) → True := fun _ _ => trivial
  simp
  refine ⟨fun e => ?_, fun e => ?_⟩
  · rw [spans_at_eq h h0 h1 (by omega) (by omega)]
    simp only [t_pure]
    rw [holds_eq ha (span_ok h hq)]
    simp
    refine ⟨fun e2 => ?_, fun e2 => ?_⟩
    · simp [t_ret, stepI, e, e2]
    · rw [t_ifs]
      simp only [dBAnd]
      simp
      refine ⟨fun e3 => ?_, fun e3 => ?_⟩
      · rw [spans_at_eq h h0 h1 (by omega) (by omega)]
        simp only [t_pure]
        rw [holds_eq hb (span_ok h hq)]
        simp
        refine ⟨fun e4 => ?_, fun e4 => ?_⟩
        · simp [t_ret, stepI, e2, e3, e4]
        · simp [t_ret1, stepI, e2, e4]
      · simp [t_ret1, stepI, e2, show ¬ 0 < place by omega]
  · rw [t_ifs]
    simp only [dBAnd]
    simp
    have ne : ¬ place < hs.length - 1 := by omega
    refine ⟨fun e3 => ?_, fun e3 => ?_⟩
    · rw [spans_at_eq h h0 h1 (by omega) (by omega)]
      simp only [t_pure]
      rw [holds_eq hb (span_ok h hq)]
      simp
      refine ⟨fun e4 => ?_, fun e4 => ?_⟩
      · simp [t_ret, stepI, ne, e3, e4]
      · simp [t_ret1, stepI, ne, e4]
    · simp [t_ret1, stepI, ne, show ¬ 0 < place by omega]
abbrev cellB (A B N : D) : Cell := .dic [.inr "held", .inr "place", .inr "next"] [A, B, N]
theorem Ext.get {st st' : Store} {n : Nat} {c : Cell} (e : Ext st st') (h : st[n]? = some c) : st'[n]? = some c := by
  obtain ⟨e, rfl⟩ := e
  rw [List.getElem?_append_left (List.getElem?_eq_some_iff.mp h).1]; exact h
/-- what lies below n stays -/
def Low (n : Nat) (st st' : Store) : Prop := n ≤ st'.length ∧ ∀ i, i < n → st'[i]? = st[i]?
theorem Low.refl {n : Nat} {st : Store} (h : n ≤ st.length) : Low n st st := ⟨h, fun _ _ => rfl⟩
theorem Low.trans {n : Nat} {a b c : Store} (h : Low n a b) (k : Low n b c) : Low n a c := ⟨k.1, fun i hi => (k.2 i hi).trans (h.2 i hi)⟩
theorem Low.set {n m : Nat} {st : Store} {c : Cell} (h : n ≤ st.length) (hm : n ≤ m) : Low n st (st.set m c) := ⟨by simpa using h, fun i hi => List.getElem?_set_ne (by omega)⟩
theorem step_bd {a b : D} {hs : List Int} {held grab hh q p : Int} (h0 : 0 ≤ p) (h1 : p < hs.length) : (stepI a b hs held grab hh q p = 1 ∨ stepI a b hs held grab hh q p = -1 ∨ stepI a b hs held grab hh q p = 0) ∧ 0 ≤ p + stepI a b hs held grab hh q p ∧ p + stepI a b hs held grab hh q p < hs.length := by
  unfold stepI
  by_cases cellB : p < hs.length - 1 ∧ holdsB (spanI hs held grab hh q p 0) a = true
  · rw [if_pos cellB]; omega
  · rw [if_neg cellB]
    by_cases c2 : 0 < p ∧ holdsB (spanI hs held grab hh q p (-1)) b = true
    · rw [if_pos c2]; omega
    · rw [if_neg c2]; omega
/-- a row goes on m times at most -/
def restN (f : Int → Int) : Nat → Int → Option Int
  | 0, _ => none
  | m + 1, p => if f p = 0 then some p else restN f m (p + f p)
def optD : Option Int → D
  | some x => .int x
  | none => .non
abbrev restB : DenS := (dSeq (dAsg (dCall (arity 4 p_turn_of) (dCons (dVar 0) (dCons (dVar 1) (dCons (dVar 2) (dCons (dVar 3) (dNil)))))) (gSet 5)) <|
  dSeq (dIfS (bVal (d2 (opEq false) (dVar 5) (dC (.int 0)))) (dRet (dVar 3)) (dSkip)) <|
  dAsg (d2 opAdd (dVar 3) (dVar 5)) (gSet 3))
theorem rest_loop {a b : D} {hs : List Int} {held grab hh q : Int} (ha : IsCond a) (hb : IsCond b) (h : Drg hs held grab hh) (hq : Qb q) : ∀ (ds : List D) (p : Int) (o4 o5 : Option D) (st : Store), 0 ≤ p → p < hs.length →
    T (forL (fun d ρ => restB (ρ.set 4 (some d))) ds [some (.tup [a, b]), some (dgD hs held grab), some (.int q), some (.int p), o4, o5]) st (fun r s => s = st ∧ ((∃ x, restN (stepI a b hs held grab hh q) ds.length p = some x ∧ r = .rt (.int x)) ∨ (restN (stepI a b hs held grab hh q) ds.length p = none ∧ ∃ ρ', r = .nx ρ')))
  | [], p, o4, o5, st, _, _ => ⟨rfl, .inr ⟨rfl, _, rfl⟩⟩
  | d :: ds, p, o4, o5, st, h0, h1 => by
    unfold forL
    rw [t_bind]
    simp only [List.set]
    rw [t_asg]
    simp [turn_of_eq ha hb h hq h0 h1]
    rw [t_ifs]; simp
    obtain ⟨_, n0, n1⟩ := step_bd (a := a) (b := b) (hs := hs) (held := held) (grab := grab) (hh := hh) (q := q) h0 h1
    refine ⟨fun e => ?_, fun e => ?_⟩
    · simp [t_ret, restN, e]
    · rw [t_asg1]; simp
      have := rest_loop ha hb h hq ds _ (some d) (some (.int (stepI a b hs held grab hh q p))) st n0 n1
      simp only [restN, if_neg e]
      exact this
theorem mul_2n {n : Nat} (h : n < 1000) : opMul (.int 2) (.int (n : Int)) = pure (.int (2 * (n : Int))) := by
  rw [mul_ii]
  have l2 : Nat.log2 2 < 60 := lg2 (by decide) (by decide)
  have hB := bb1
  have l3 := lga (x := (n : Int)) (by omega) (by omega)
  have e : ((2 : Int).natAbs.log2 + (n : Int).natAbs.log2 < 1000000) := by
    have : (2 : Int).natAbs.log2 = Nat.log2 2 := rfl
    omega
  rw [decide_eq_true e]
  rfl
theorem rest_of_eq {a b : D} {hs : List Int} {held grab hh q p : Int} (ha : IsCond a) (hb : IsCond b) (h : Drg hs held grab hh) (hq : Qb q) (h0 : 0 ≤ p) (h1 : p < hs.length) :
    p_rest_of [.tup [a, b], dgD hs held grab, .int q, .int p] = pure (optD (restN (stepI a b hs held grab hh q) (2 * hs.length) p)) := by
  refine eq_of_T fun st => ?_
  have a6 := h.l6
  rw [p_rest_of, t_run, p_rest_of_b, t_for]
  simp [-mul_ii, mul_2n (show hs.length < 1000 by omega)]
  generalize hx : 2 * (hs.length : Int) = x
  have x0 : 0 ≤ x := by omega
  have x1 : x ≤ 12 := by omega
  have hxn : x.toNat = 2 * hs.length := by omega
  clear hx
  refine ⟨fun _ _ => ?_, by omega, by omega⟩
  refine (rest_loop ha hb h hq (rangeL 0 x) p _ _ st h0 h1).mono fun r s hr => ?_
  obtain ⟨rfl, hr⟩ := hr
  rw [rangeL_len, hxn] at hr
  rcases hr with ⟨y, e1, rfl⟩ | ⟨e1, ρ', rfl⟩
  · simp [e1, optD]
  · simp [e1, optD, t_ret1]
/-! ### what needs good values -/
theorem all_rowB {hs : List Int} (h : ∀ x ∈ hs, 1 ≤ x ∧ x ≤ BB) : (hs.map D.int).all rowB = true := by
  rw [List.all_map, List.all_eq_true]
  intro x hx
  have := h x hx
  simp [rowB]; omega
theorem drg_B {hs : List Int} {held grab hh : Int} (h : Drg hs held grab hh) : isDragB (dgD hs held grab) = true := by
  have a0 := h.h0; have a1 := h.h1; have a6 := h.l6; have a2 := h.l2; have g0 := h.g0; have g1 := h.g1
  simp [isDragB, all_rowB h.bd, heldB, at_ints, h.at_]
  omega
theorem drg_dep {hs : List Int} {held grab : Int} : Dep 2 (dgD hs held grab) := by
  refine dep_tup.mpr ?_
  simp
theorem need_drag_eq {hs : List Int} {held grab hh : Int} (h : Drg hs held grab hh) : p_need_drag [dgD hs held grab] = pure .non := by
  refine eq_of_T fun st => ?_
  rw [p_need_drag, t_run, p_need_drag_b, t_ifs1]
  simp [is_good_drag_eq (drg_dep.mono (by decide)), drg_B h]
theorem need_pointer_eq {q : Int} : p_need_pointer [.int q] = pure .non := by
  refine eq_of_T fun st => ?_
  rw [p_need_pointer, t_run, p_need_pointer_b, t_ifs1]
  simp [is_number_eq (show (D.int q).okD = true from rfl), isI]
theorem need_place_eq {hs : List Int} {held grab p : Int} (h0 : 0 ≤ p) (h1 : p < hs.length) : p_need_place [dgD hs held grab, .int p] = pure .non := by
  refine eq_of_T fun st => ?_
  rw [p_need_place, t_run, p_need_place_b, t_ifs1]
  simp only [dBOr, dBNot, bVal, d1, d2]
  simp [is_number_eq (show (D.int p).okD = true from rfl), isI]
  omega
theorem need_all_eq {a b : D} {hs : List Int} {held grab hh q p : Int} (ha : IsCond a) (hb : IsCond b) (h : Drg hs held grab hh) (h0 : 0 ≤ p) (h1 : p < hs.length) : p_need_all [.tup [a, b], dgD hs held grab, .int q, .int p] = pure .non := by
  refine eq_of_T fun st => ?_
  rw [p_need_all, t_run, p_need_all_b, t_exp]
  simp [need_rule_eq ⟨a, b, ha, hb, rfl⟩]
  rw [t_exp]; simp [need_drag_eq h]
  rw [t_exp]; simp [need_pointer_eq]
  rw [t_exp1]; simp [need_place_eq h0 h1]
def goW (x : Int) : D := if x = 1 then .str "down" else if x = -1 then .str "up" else .str "rests"
theorem goes_eq {a b : D} {hs : List Int} {held grab hh q p : Int} (ha : IsCond a) (hb : IsCond b) (h : Drg hs held grab hh) (hq : Qb q) (h0 : 0 ≤ p) (h1 : p < hs.length) :
    p_goes [.tup [a, b], dgD hs held grab, .int q, .int p] = pure (goW (stepI a b hs held grab hh q p)) := by
  refine eq_of_T fun st => ?_
  rw [p_goes, t_run, p_goes_b, t_exp]
  simp [need_all_eq ha hb h h0 h1]
  rw [t_ret1]
  obtain ⟨hv, _⟩ := step_bd (a := a) (b := b) (hs := hs) (held := held) (grab := grab) (hh := hh) (q := q) h0 h1
  simp [turn_of_eq ha hb h hq h0 h1]
  rcases hv with e | e | e <;> rw [e] <;> simp [goW, atI, ixN]
theorem settle_eq {a b : D} {hs : List Int} {held grab hh q p : Int} (ha : IsCond a) (hb : IsCond b) (h : Drg hs held grab hh) (hq : Qb q) (h0 : 0 ≤ p) (h1 : p < hs.length) :
    p_settle [.tup [a, b], dgD hs held grab, .int q, .int p] = pure (optD (restN (stepI a b hs held grab hh q) (2 * hs.length) p)) := by
  refine eq_of_T fun st => ?_
  rw [p_settle, t_run, p_settle_b, t_exp]
  simp [need_all_eq ha hb h h0 h1]
  rw [t_ret1]
  simp [rest_of_eq ha hb h hq h0 h1]
/-! ### ways -/
theorem restN_in {a b : D} {hs : List Int} {held grab hh q : Int} : ∀ (m : Nat) (p x : Int), 0 ≤ p → p < hs.length → restN (stepI a b hs held grab hh q) m p = some x → 0 ≤ x ∧ x < hs.length
  | 0, _, _, _, _, e => by cases e
  | m + 1, p, x, h0, h1, e => by
    obtain ⟨_, n0, n1⟩ := step_bd (a := a) (b := b) (hs := hs) (held := held) (grab := grab) (hh := hh) (q := q) h0 h1
    unfold restN at e
    split at e
    · cases e; exact ⟨h0, h1⟩
    · exact restN_in m _ x n0 n1 e
def wayL (F : Int → Int → Int) (n : Nat) : Int → List Int → List D
  | _, [] => []
  | p, q :: qs => optD (restN (F q) (2 * n) p) :: wayL F n ((restN (F q) (2 * n) p).getD p) qs
abbrev wayB : DenS := (dSeq (dAsg (dCall (arity 4 p_rest_of) (dCons (dVar 0) (dCons (dVar 1) (dCons (dVar 5) (dCons (dVar 3) (dNil)))))) (gSet 6)) <|
  dSeq (dAsg (dIf (bVal (d2 (opIsN false) (dVar 6) (dC .non))) (dVar 3) (dVar 6)) (gSet 3)) <|
  dAsg (d2 opAdd (dVar 4) (dLst (dCons (dVar 6) (dNil)))) (gSet 4))
theorem isN_opt {r : Option Int} : opIsN false (optD r) .non = pure (.bl r.isNone) := by cases r <;> rfl
theorem opt_pick {r : Option Int} {p : Int} : cond r.isNone (D.int p) (optD r) = D.int (r.getD p) := by cases r <;> rfl
theorem way_loop {a b : D} {hs : List Int} {held grab hh : Int} (ha : IsCond a) (hb : IsCond b) (h : Drg hs held grab hh) {x2 : Option D} : ∀ (qs : List Int) (p : Int) (acc : List D) (o5 o6 : Option D) (st : Store), (∀ q ∈ qs, Qb q) → 0 ≤ p → p < hs.length → acc.length + qs.length < 1000 →
    T (forL (fun d ρ => wayB (ρ.set 5 (some d))) (qs.map D.int) [some (.tup [a, b]), some (dgD hs held grab), x2, some (.int p), some (.lst acc), o5, o6]) st
      (fun r s => s = st ∧ ∃ x3 o5 o6, r = .nx [some (.tup [a, b]), some (dgD hs held grab), x2, x3, some (.lst (acc ++ wayL (fun q => stepI a b hs held grab hh q) hs.length p qs)), o5, o6])
  | [], p, acc, o5, o6, st, _, _, _, _ => ⟨rfl, some (.int p), o5, o6, by simp [wayL]⟩
  | q :: qs, p, acc, o5, o6, st, hq, h0, h1, hl => by
    rw [List.map_cons]
    unfold forL
    rw [t_bind]
    simp only [List.set]
    rw [t_asg]
    simp [rest_of_eq ha hb h (hq q List.mem_cons_self) h0 h1]
    rw [t_asg]
    simp [isN_opt, opt_pick]
    rw [t_asg1]
    simp at hl
    simp
    refine ⟨by omega, ?_⟩
    have hin : 0 ≤ (restN (stepI a b hs held grab hh q) (2 * hs.length) p).getD p ∧ (restN (stepI a b hs held grab hh q) (2 * hs.length) p).getD p < hs.length := by
      cases e : restN (stepI a b hs held grab hh q) (2 * hs.length) p with
      | none => exact ⟨h0, h1⟩
      | some x => exact restN_in _ _ _ h0 h1 e
    refine (way_loop ha hb h qs _ (acc ++ [optD (restN (stepI a b hs held grab hh q) (2 * hs.length) p)]) _ _ st (fun x hx => hq x (List.mem_cons_of_mem _ hx)) hin.1 hin.2 (by simp; omega)).mono fun r s hr => ?_
    obtain ⟨rfl, x3, o5, o6, rfl⟩ := hr
    simp [wayL]
theorem are_pointers_eq {qs : List Int} (hl : qs.length ≤ 40) : p_are_pointers [.tup (qs.map D.int)] = pure (.bl true) := by
  refine eq_of_T fun st => ?_
  have ok : (D.tup (qs.map D.int)).okD = true := (show Dep 1 (D.tup (qs.map D.int)) from dep_tup.mpr (by simp)).ok
  rw [p_are_pointers, t_run, p_are_pointers_b, t_ret1]
  simp only [dAnd, d1, d2]
  simp [isi_tuple ok, isTu, g_MOST_POINTERS]
  refine ⟨fun _ => ⟨by omega, ?_⟩, by omega⟩
  simp only [wipeE]
  rw [lc_bools (g := fun _ => true) fun d hd => ⟨_, rfl, by
    obtain ⟨q, _, rfl⟩ := List.mem_map.mp hd
    simp [is_number_eq (show (D.int q).okD = true from rfl), isI]⟩]
  simp only [t_pure, all_l]
  simp
theorem way_eq {a b : D} {hs : List Int} {held grab hh : Int} (ha : IsCond a) (hb : IsCond b) (h : Drg hs held grab hh) {qs : List Int} (hq : ∀ q ∈ qs, Qb q) (hl : qs.length ≤ 40) :
    p_way [.tup [a, b], dgD hs held grab, .tup (qs.map D.int)] = pure (.lst (wayL (fun q => stepI a b hs held grab hh q) hs.length held qs)) := by
  refine eq_of_T fun st => ?_
  rw [p_way, t_run, p_way_b, t_exp]
  simp [need_rule_eq ⟨a, b, ha, hb, rfl⟩]
  rw [t_exp]; simp [need_drag_eq h]
  rw [t_exp]
  have hn : p_need_pointers [.tup (qs.map D.int)] = pure .non := by
    refine eq_of_T fun st => ?_
    rw [p_need_pointers, t_run, p_need_pointers_b, t_ifs1]
    simp [are_pointers_eq hl]
  simp [hn]
  rw [t_ret1]
  simp [p_places_of, t_run, p_places_of_b, t_par]
  rw [t_for]; simp
  refine (way_loop ha hb h qs held [] _ _ st hq h.h0 h.h1 (by simp; omega)).mono fun r s hr => ?_
  obtain ⟨rfl, x3, o5, o6, rfl⟩ := hr
  simp [t_ret1]
/-! ### one unknown taken out -/
structure Tri where
  c : Int
  v : Rat
  b : Bool
def Tri.bd (r : Tri) : Rat := -r.v * (r.c : Rat)⁻¹
/-! ### fractions for the unknowns -/
abbrev Fr2 := Int × Int
/-! ### systems of inequalities: what the defs compute -/
def Sz (k : Nat) (x : Int) : Prop := x.natAbs ≤ 2 ^ k
theorem Sz.mono {j k : Nat} {x : Int} (h : Sz j x) (q : j ≤ k) : Sz k x := Nat.le_trans h (Nat.pow_le_pow_right (by decide) q)
theorem Sz.neg {k : Nat} {x : Int} (h : Sz k x) : Sz k (-x) := by
  unfold Sz at *
  rw [Int.natAbs_neg]; exact h
@[simp] theorem zipL_ll {a b : List D} : zipL [.lst a, .lst b] = pure ((a.zip b).map fun p => D.tup [p.1, p.2]) := rfl
@[simp] theorem zipL_tt {a b : List D} : zipL [.tup a, .tup b] = pure ((a.zip b).map fun p => D.tup [p.1, p.2]) := rfl
@[simp] theorem zipL_tl {a b : List D} : zipL [.tup a, .lst b] = pure ((a.zip b).map fun p => D.tup [p.1, p.2]) := rfl
@[simp] theorem zipL_lt {a b : List D} : zipL [.lst a, .tup b] = pure ((a.zip b).map fun p => D.tup [p.1, p.2]) := rfl
def unitL (n at_ : Nat) (f : Int) : List Int := (List.range n).map fun i => if i = at_ then f else 0
@[simp] theorem unitL_len {n at_ : Nat} {f : Int} : (unitL n at_ f).length = n := by simp [unitL]
theorem Sz.one {k : Nat} : Sz k 1 := by unfold Sz; exact Nat.one_le_two_pow
def frD (k : Fr2) : D := .tup [.int k.1, .int k.2]
def optF : Option Fr2 → D
  | none => .non
  | some k => frD k
@[simp] theorem isN_t {xs : List D} : opIsN false (.tup xs) .non = pure (.bl false) := rfl
@[simp] theorem isN_n : opIsN false .non .non = pure (.bl true) := rfl
@[simp] theorem optF_n : optF none = .non := rfl
@[simp] theorem optF_s {k : Fr2} : optF (some k) = .tup [.int k.1, .int k.2] := rfl
def rep0 (n : Nat) : List Int := List.replicate n 0
@[simp] theorem rep0_len {n : Nat} : (rep0 n).length = n := List.length_replicate
@[simp] theorem is_pointer_pointer : isS "pointer" (.str "pointer") = true := by decide +kernel
@[simp] theorem is_held_pointer : isS "held" (.str "pointer") = false := by decide +kernel
@[simp] theorem is_place_pointer : isS "place" (.str "pointer") = false := by decide +kernel
@[simp] theorem is_next_pointer : isS "next" (.str "pointer") = false := by decide +kernel
@[simp] theorem is_pointer_held : isS "pointer" (.str "held") = false := by decide +kernel
@[simp] theorem is_held_held : isS "held" (.str "held") = true := by decide +kernel
@[simp] theorem is_place_held : isS "place" (.str "held") = false := by decide +kernel
@[simp] theorem is_next_held : isS "next" (.str "held") = false := by decide +kernel
@[simp] theorem is_pointer_place : isS "pointer" (.str "place") = false := by decide +kernel
@[simp] theorem is_held_place : isS "held" (.str "place") = false := by decide +kernel
@[simp] theorem is_place_place : isS "place" (.str "place") = true := by decide +kernel
@[simp] theorem is_next_place : isS "next" (.str "place") = false := by decide +kernel
@[simp] theorem is_pointer_next : isS "pointer" (.str "next") = false := by decide +kernel
@[simp] theorem is_held_next : isS "held" (.str "next") = false := by decide +kernel
@[simp] theorem is_place_next : isS "place" (.str "next") = false := by decide +kernel
@[simp] theorem is_next_next : isS "next" (.str "next") = true := by decide +kernel
@[simp] theorem sb_1 : (("below" : Str) == ("above" : Str)) = false := by decide +kernel
@[simp] theorem sb_2 : (("below" : Str) == ("not below" : Str)) = false := by decide +kernel
@[simp] theorem sb_3 : (("below" : Str) == ("not above" : Str)) = false := by decide +kernel
@[simp] theorem sb_4 : (("above" : Str) == ("below" : Str)) = false := by decide +kernel
@[simp] theorem sb_5 : (("above" : Str) == ("not below" : Str)) = false := by decide +kernel
@[simp] theorem sb_6 : (("above" : Str) == ("not above" : Str)) = false := by decide +kernel
@[simp] theorem sb_7 : (("not below" : Str) == ("below" : Str)) = false := by decide +kernel
@[simp] theorem sb_8 : (("not below" : Str) == ("above" : Str)) = false := by decide +kernel
@[simp] theorem sb_9 : (("not below" : Str) == ("not above" : Str)) = false := by decide +kernel
@[simp] theorem sb_10 : (("not above" : Str) == ("below" : Str)) = false := by decide +kernel
@[simp] theorem sb_11 : (("not above" : Str) == ("above" : Str)) = false := by decide +kernel
@[simp] theorem sb_12 : (("not above" : Str) == ("not below" : Str)) = false := by decide +kernel
/-! ### drags of two rows; goes against a word -/
def IsDrgM (m : Int) (d : D) : Prop := ∃ hs held grab hh, Drg hs held grab hh ∧ (hs.length : Int) ≤ m ∧ (∀ x ∈ hs, x ≤ 40) ∧ d = dgD hs held grab ∧ IsDrg d
theorem drag_lens {st : Store} {n : Nat} {m : Int} (hm : 2 ≤ m) (hm6 : m ≤ 6) (h : Src st n) : T (l_drag [.ref n, .int m]) st (Dr n st (IsDrgM m)) := by
  rw [l_drag, t_run, l_drag_b, t_asg]
  simp
  refine (draw_spec h (by decide) (by decide)).mono fun d st1 hd => ?_
  obtain ⟨⟨v1, rfl, a0, a1⟩, h1, f1⟩ := hd
  simp
  rw [t_asg]; simp
  refine (draw_spec h1 (by omega) (by omega)).mono fun d st2 hd => ?_
  obtain ⟨⟨v2, rfl, b0, b1⟩, h2, f2⟩ := hd
  simp [show (-4611686018427387904 : Int) ≤ 2 + v2 by omega, show 2 + v2 < 4611686018427387904 by omega, rangeL_len, wipeE]
  refine ⟨by omega, ?_⟩
  refine (lc_draw (P := fun d => ∃ v : Int, d = .int v ∧ 1 ≤ v ∧ v ≤ 40) h2 fun d hd => ⟨_, rfl, fun st hs => ?_⟩).mono fun ys st3 hq => ?_
  · simp
    refine (of_spec hs (by simp) (by simp)).mono fun d st' hd => ⟨?_, hd.2⟩
    have hd := hd.1
    simp at hd
    rcases hd with rfl | rfl | rfl | rfl | rfl | rfl <;> exact ⟨_, rfl, by omega, by omega⟩
  obtain ⟨q1, q2, h3, f3⟩ := hq
  rw [rangeL_len] at q2
  obtain ⟨hs, rfl, hhs⟩ := ints_of q1
  have q2 : hs.length = (2 + v2).toNat := by simpa using q2
  rw [t_asg]; simp
  refine (draw_spec h3 (by omega) (by omega)).mono fun d st4 hd => ?_
  obtain ⟨⟨held, rfl, c0, c1⟩, h4, f4⟩ := hd
  obtain ⟨hh, e1, e2⟩ := at_memI c0 (by simpa using c1)
  have e3 := hhs hh e2
  rw [t_asg]; simp [at_ints, e1]
  refine (draw_spec h4 (by omega) (by omega)).mono fun d st5 hd => ?_
  obtain ⟨⟨v5, rfl, d0, d1⟩, h5, f5⟩ := hd
  refine (of_spec h5 (by simp) (by simp)).mono fun g st6 hd => ?_
  obtain ⟨hg, h6, f6⟩ := hd
  have hg : ∃ g' : Int, g = .int g' ∧ 0 ≤ g' ∧ g' ≤ hh := by
    simp at hg
    rcases hg with rfl | rfl | rfl <;> exact ⟨_, rfl, by omega, by omega⟩
  obtain ⟨g', rfl, g0, g1⟩ := hg
  rw [t_ret1]; simp
  have hB := bb1
  exact ⟨⟨hs, held, g', hh, ⟨by omega, by omega, fun x hx => by have := hhs x hx; omega, c0, by simpa using c1, g0, e1, g1, e2⟩, by omega, fun x hx => (hhs x hx).2, rfl, hs, held, g', by omega, by omega, hhs, c0, by simpa using c1, g0, ⟨hh, e1, g1⟩, rfl⟩, h6, ((((f1.trans f2).trans f3).trans f4).trans f5).trans f6⟩
theorem way_dep {F : Int → Int → Int} {n : Nat} : ∀ (qs : List Int) (p : Int), Dep 64 (.lst (wayL F n p qs)) := fun qs => by
  have : ∀ (qs : List Int) (p : Int), ∀ d ∈ wayL F n p qs, Dep 63 d := fun qs => by
    induction qs with
    | nil => intro p d hd; cases hd
    | cons q qs ih =>
      intro p d hd
      rcases List.mem_cons.mp hd with rfl | hd
      · cases restN (F q) (2 * n) p
        · exact dep_non
        · exact dep_int
      · exact ih _ d hd
  exact fun p => dep_lst.mpr (this qs p)
/-! ### texts are of good signs -/
theorem ok_app {a b : Str} (ha : PyData.strOk a = true) (hb : PyData.strOk b = true) : PyData.strOk (a ++ b) = true := by
  unfold PyData.strOk at *
  show (a.cps ++ b.cps).all _ = true
  rw [Array.all_append, ha, hb]; rfl
theorem need_pointers_eq {qs : List Int} (hl : qs.length ≤ 40) : p_need_pointers [.tup (qs.map D.int)] = pure .non := by
  refine eq_of_T fun st => ?_
  rw [p_need_pointers, t_run, p_need_pointers_b, t_ifs1]
  simp [are_pointers_eq hl]
theorem rdep {a b : D} (ha : IsCond a) (hb : IsCond b) : Dep 64 (.tup [a, b]) := (isRule_dep ⟨a, b, ha, hb, rfl⟩).mono (by decide)
/-! ### what raises, and the rules of in, == against plain values -/
theorem x_bind1 {α β : Type} {m : M α} {f : α → M β} {st s : Store} {e : Exn} (h : m st = .exn e s) : (m >>= f) st = .exn e s := by rw [bind_def, h]
theorem x_bind2 {α β : Type} {m : M α} {f : α → M β} {st s : Store} {a : α} (h : m st = .ok a s) : (m >>= f) st = f a s := by rw [bind_def, h]
theorem t_inC {st : Store} {n : Nat} {c : Str} {fs : List Str} {ds : List D} {neg : Bool} {p : List D → M D} {x : D} {Q : D → Store → Prop} (h : st[n]? = some (.ins c fs ds)) (k : T (p [.ref n, x]) st (fun d s => ∃ b, d = .bl b ∧ Q (.bl (if neg then !b else b)) s)) : T (inC neg c p x (.ref n)) st Q := by
  have hm : msAt [(c, p)] st (.ref n) = some (c, p) := msAt_ref h
  unfold T inC
  rw [hm]
  show wpR (_) Q _
  rw [wpR.bind]
  refine k.mono fun d s hd => ?_
  obtain ⟨b, rfl, q⟩ := hd
  exact q
theorem t_opCT {st : Store} {n : Nat} {c : Str} {fs : List Str} {ds xs : List D} {p : List D → M D} {Q : D → Store → Prop} (h : st[n]? = some (.ins c fs ds)) : T (opCT c p (.ref n) (.tup xs)) st Q = T (p [.ref n, .tup xs]) st Q := by
  have hm : msAt [(c, p)] st (.ref n) = some (c, p) := msAt_ref h
  unfold T opCT
  rw [hm]
theorem lc_T {st : Store} {t : Tg} {c : DenB} {f : Den} {ρ : MP.Env} {p : D → Bool} {g : D → D} : ∀ {ds : List D}, (∀ d ∈ ds, ∃ ρ1, t.bind d ρ = some ρ1 ∧ T (c ρ1) st (fun b s => b = p d ∧ s = st) ∧ (p d = true → T (f ρ1) st (fun x s => x = g d ∧ s = st))) → T (lcL t c f ρ ds) st (fun r s => r = (ds.filter p).map g ∧ s = st)
  | [], _ => ⟨rfl, rfl⟩
  | d :: ds, h => by
    obtain ⟨ρ1, h1, h2, h3⟩ := h d List.mem_cons_self
    have ih := lc_T (ds := ds) fun x hx => h x (List.mem_cons_of_mem _ hx)
    unfold lcL
    rw [h1]
    simp only [optB, t_bind, t_noX]
    refine h2.mono fun b s hb => ?_
    obtain ⟨rfl, rfl⟩ := hb
    cases hp : p d with
    | true =>
      simp only [cond_true, t_bind, t_noX]
      refine (h3 hp).mono fun x s hx => ?_
      obtain ⟨rfl, rfl⟩ := hx
      refine ih.mono fun r s hr => ?_
      obtain ⟨rfl, rfl⟩ := hr
      simp [List.filter_cons, hp]
    | false =>
      simp only [cond_false]
      refine ih.mono fun r s hr => ?_
      obtain ⟨rfl, rfl⟩ := hr
      simp [List.filter_cons, hp]
theorem deq_self {x : D} (h : Dep 64 x) : deq x x = true := by
  have h1 := q_refl h
  rw [eq_of h h] at h1
  have h2 := congrFun h1 []
  have h3 : (!deq x x) = false := by
    injection h2 with h2
    injection h2
  simpa using h3

/-! ### lists that are dragged, as objects -/
abbrev puC (r dr now : D) (p : Nat) : Cell := .ins "Pull" ["rule", "drag", "now", "past"] [r, dr, now, .ref p]
structure PuAt (st : Store) (n p : Nat) (r dr now : D) (ps : List D) : Prop where
  c : st[n]? = some (puC r dr now p)
  l : st[p]? = some (.lst ps)
theorem pu_rule {st : Store} {n p : Nat} {r dr now : D} {Q : D → Store → Prop} (h : st[n]? = some (puC r dr now p)) : T (fldOf "Pull" "rule" (.ref n)) st Q = Q r st := t_fld h (by kernel_rfl)
theorem pu_drag {st : Store} {n p : Nat} {r dr now : D} {Q : D → Store → Prop} (h : st[n]? = some (puC r dr now p)) : T (fldOf "Pull" "drag" (.ref n)) st Q = Q dr st := t_fld h (by kernel_rfl)
theorem pu_now {st : Store} {n p : Nat} {r dr now : D} {Q : D → Store → Prop} (h : st[n]? = some (puC r dr now p)) : T (fldOf "Pull" "now" (.ref n)) st Q = Q now st := t_fld h (by kernel_rfl)
theorem pu_past {st : Store} {n p : Nat} {r dr now : D} {Q : D → Store → Prop} (h : st[n]? = some (puC r dr now p)) : T (fldOf "Pull" "past" (.ref n)) st Q = Q (.ref p) st := t_fld h (by kernel_rfl)
theorem pu_n1 : putN "rule" [] = [("rule" : Str)] := rfl
theorem pu_n2 : putN "drag" [("rule" : Str)] = ([("rule" : Str), "drag"] : List Str) := by kernel_rfl
theorem pu_n3 : putN "now" [("rule" : Str), "drag"] = ([("rule" : Str), "drag", "now"] : List Str) := by kernel_rfl
theorem pu_n4 : putN "past" [("rule" : Str), "drag", "now"] = ([("rule" : Str), "drag", "now", "past"] : List Str) := by kernel_rfl
theorem pu_n5 : putN "now" [("rule" : Str), "drag", "now", "past"] = ([("rule" : Str), "drag", "now", "past"] : List Str) := by kernel_rfl
theorem pu_d1 {y : D} : putD "rule" y [] [] = [y] := rfl
theorem pu_d2 {a y : D} : putD "drag" y [("rule" : Str)] [a] = [a, y] := by kernel_rfl
theorem pu_d3 {a b y : D} : putD "now" y [("rule" : Str), "drag"] [a, b] = [a, b, y] := by kernel_rfl
theorem pu_d4 {a b c y : D} : putD "past" y [("rule" : Str), "drag", "now"] [a, b, c] = [a, b, c, y] := by kernel_rfl
theorem pu_d5 {a b c d y : D} : putD "now" y [("rule" : Str), "drag", "now", "past"] [a, b, c, d] = [a, b, y, d] := by kernel_rfl
abbrev stD2 (s : Int × Int) : D := .tup [.int s.1, .int s.2]
abbrev nowD (q pl : Int) (ss : List (Int × Int)) : D := .tup [.int q, .int pl, .tup (ss.map stD2)]
theorem pull_init {a b : D} {hs : List Int} {held grab hh : Int} {st : Store} {n : Nat} (ha : IsCond a) (hb : IsCond b) (h : Drg hs held grab hh) (hn : st[n]? = some (.ins "Pull" [] [])) :
    T (p_Pull_init [.ref n, .tup [a, b], dgD hs held grab]) st (fun d s => d = .non ∧ s = (st ++ [Cell.lst []]).set n (puC (.tup [a, b]) (dgD hs held grab) (nowD ((hs.take held.toNat).sum + grab) held []) st.length)) := by
  have hsum : biSumA (.tup ((hs.map D.int).take held.toNat)) = pure (.int (hs.take held.toNat).sum) := by
    rw [← List.map_take]
    exact sum_t
  have h0 := h.h0
  have h1 := h.h1
  have hlt : n < st.length := (List.getElem?_eq_some_iff.mp hn).1
  have cut : cutL (hs.map D.int) none (some held) = (hs.take held.toNat).map D.int := cutI_take h0 (by omega)
  generalize (hs.take held.toNat).sum = z at *
  rw [p_Pull_init, t_run, p_Pull_init_b, t_exp]
  simp -implicitDefEqProofs [need_rule_eq ⟨a, b, ha, hb, rfl⟩]
  rw [t_exp]
  simp -implicitDefEqProofs [need_drag_eq h]
  rw [t_tg]
  simp -implicitDefEqProofs
  rw [t_fset]
  simp -implicitDefEqProofs
  rw [t_setF hn (by decide), pu_n1, pu_d1]
  have hn2 : (st.set n (Cell.ins "Pull" ["rule"] [.tup [a, b]]))[n]? = some (.ins "Pull" ["rule"] [.tup [a, b]]) := set_get hn
  rw [t_fset]
  simp -implicitDefEqProofs
  rw [t_setF hn2 (by simp), pu_n2, pu_d2]
  simp -implicitDefEqProofs
  have hn3 : (st.set n (Cell.ins "Pull" ["rule", "drag"] [.tup [a, b], dgD hs held grab]))[n]? = some (.ins "Pull" ["rule", "drag"] [.tup [a, b], dgD hs held grab]) := set_get hn
  rw [t_fset]
  simp -implicitDefEqProofs [cut, hsum]
  rw [t_setF hn3 (by simp), pu_n3, pu_d3]
  simp -implicitDefEqProofs
  rw [t_fset1]
  simp -implicitDefEqProofs
  have hn4 : (st.set n (Cell.ins "Pull" ["rule", "drag", "now"] [.tup [a, b], dgD hs held grab, .tup [.int (z + grab), .int held, .tup []]]) ++ [Cell.lst []])[n]? = some (.ins "Pull" ["rule", "drag", "now"] [.tup [a, b], dgD hs held grab, .tup [.int (z + grab), .int held, .tup []]]) := by
    rw [List.getElem?_append_left (by simpa using hlt)]
    exact set_get hn
  rw [t_setF hn4 (by simp), pu_n4, pu_d4]
  show _ = _
  rw [List.set_append_left _ _ (by simpa using hlt), List.set_set, List.set_append_left _ _ hlt]
  rfl

theorem pull_new {a b : D} {hs : List Int} {held grab hh : Int} {st : Store} (ha : IsCond a) (hb : IsCond b) (h : Drg hs held grab hh) :
    T (mkO "Pull" p_Pull_init [.tup [a, b], dgD hs held grab]) st (fun d s => d = .ref st.length ∧ s = st ++ [puC (.tup [a, b]) (dgD hs held grab) (nowD ((hs.take held.toNat).sum + grab) held []) (st.length + 1), Cell.lst []]) := by
  refine t_mkO ((pull_init ha hb h (by simp)).mono fun d s hd => ?_)
  obtain ⟨rfl, rfl⟩ := hd
  refine ⟨rfl, rfl, ?_⟩
  simp
theorem pull_pointer {r : D} {dr : D} {st : Store} {n : Nat} {p : Nat} {q : Int} {pl : Int} {ss : List (Int × Int)} (h : st[n]? = some (puC r dr (nowD q pl ss) p)) : T (p_Pull_pointer [.ref n]) st (fun d s => d = .int q ∧ s = st) := by
  rw [p_Pull_pointer, t_run, p_Pull_pointer_b, t_ret1]
  simp -implicitDefEqProofs
  rw [pu_now h]
  simp -implicitDefEqProofs
theorem pull_place {r : D} {dr : D} {st : Store} {n : Nat} {p : Nat} {q : Int} {pl : Int} {ss : List (Int × Int)} (h : st[n]? = some (puC r dr (nowD q pl ss) p)) : T (p_Pull_place [.ref n]) st (fun d s => d = .int pl ∧ s = st) := by
  rw [p_Pull_place, t_run, p_Pull_place_b, t_ret1]
  simp -implicitDefEqProofs
  rw [pu_now h]
  simp -implicitDefEqProofs
theorem pull_drawn {r : D} {st : Store} {n : Nat} {p : Nat} {q : Int} {pl : Int} {ss : List (Int × Int)} {hs : List Int} {held : Int} {grab : Int} (h : st[n]? = some (puC r (dgD hs held grab) (nowD q pl ss) p)) : T (p_Pull_drawn [.ref n]) st (fun d s => d = .int (q - grab) ∧ s = st) := by
  rw [p_Pull_drawn, t_run, p_Pull_drawn_b, t_ret1]
  simp -implicitDefEqProofs
  rw [pu_now h]
  simp -implicitDefEqProofs
  rw [pu_drag h]
  simp -implicitDefEqProofs
theorem pull_bool {r : D} {st : Store} {n : Nat} {p : Nat} {q : Int} {pl : Int} {ss : List (Int × Int)} {hs : List Int} {held : Int} {grab : Int} (h : st[n]? = some (puC r (dgD hs held grab) (nowD q pl ss) p)) : T (p_Pull_bool [.ref n]) st (fun d s => d = .bl (!(pl == held)) ∧ s = st) := by
  rw [p_Pull_bool, t_run, p_Pull_bool_b, t_ret1]
  simp -implicitDefEqProofs
  rw [pu_now h]
  simp -implicitDefEqProofs
  rw [pu_drag h]
  simp -implicitDefEqProofs
  exact ⟨rfl, rfl⟩
/-! the order of the rows -/
abbrev ixL (n : Nat) (held : Int) : List Int := ((List.range n).map fun (k : Nat) => (k : Int)).filter fun i => !(i == held)
abbrev ordL (n : Nat) (held pl : Int) : List Int := (ixL n held).take pl.toNat ++ [held] ++ (ixL n held).drop pl.toNat
theorem rangeL_ints {n : Nat} : rangeL 0 (n : Int) = ((List.range n).map fun (k : Nat) => (k : Int)).map D.int := by
  unfold rangeL
  rw [List.map_map]
  simp
theorem ixL_len {n : Nat} {held : Int} (h0 : 0 ≤ held) (h1 : held < n) : (ixL n held).length = n - 1 := by
  have e := List.length_eq_countP_add_countP (l := (List.range n).map fun (k : Nat) => (k : Int)) (fun i => i == held)
  have nd : ((List.range n).map fun (k : Nat) => (k : Int)).Nodup := List.pairwise_map.mpr (List.nodup_range.imp fun {a b} q e => q (by omega))
  have hm : held ∈ (List.range n).map fun (k : Nat) => (k : Int) := List.mem_map.mpr ⟨held.toNat, List.mem_range.mpr (by omega), by omega⟩
  have h2 : List.countP (fun i => i == held) ((List.range n).map fun (k : Nat) => (k : Int)) = 1 := by
    have q := nd.count (a := held)
    rw [if_pos hm] at q
    exact q
  rw [h2, List.length_map, List.length_range, List.countP_eq_length_filter] at e
  have e3 : (ixL n held) = ((List.range n).map fun (k : Nat) => (k : Int)).filter (fun a => decide ¬((a == held) = true)) := by
    unfold ixL
    congr 1
    funext i
    by_cases q : i = held
    · subst q; simp
    · rw [beq_eq_false_iff_ne.mpr q]; simp
  rw [e3]
  omega
theorem others_lc {n : Nat} {held : Int} {ρ : MP.Env} {st : Store} (x0 x2 : Option D) : lcL (.nm 3) (bVal (d2 (opEq true) (dVar 3) (dVar 1))) (dVar 3) [x0, some (.int held), x2, none] (rangeL 0 (n : Int)) = pure ((ixL n held).map D.int) := by
  rw [rangeL_ints, lc_map (p := fun d => !deq d (.int held)) (g := id) fun d hd => ?_]
  · congr 1
    rw [List.map_id]
    simp only [ixL, List.filter_map]
    congr 1
  · obtain ⟨i, _, rfl⟩ := List.mem_map.mp hd
    refine ⟨_, rfl, ?_, fun _ => ?_⟩
    · simp
    · simp
theorem pull_order {r : D} {st : Store} {n : Nat} {p : Nat} {q : Int} {pl : Int} {ss : List (Int × Int)} {hs : List Int} {held : Int} {grab : Int} {hh : Int} (h : st[n]? = some (puC r (dgD hs held grab) (nowD q pl ss) p)) (hd : Drg hs held grab hh) (h0 : 0 ≤ pl) (h1 : pl < hs.length) : T (p_Pull_order [.ref n]) st (fun d s => d = .tup ((ordL hs.length held pl).map D.int) ∧ s = st) := by
  have hl := ixL_len (n := hs.length) hd.h0 hd.h1
  have c1 : cutL ((ixL hs.length held).map D.int) none (some pl) = ((ixL hs.length held).take pl.toNat).map D.int := cutI_take h0 (by rw [hl]; omega)
  have c2 : cutL ((ixL hs.length held).map D.int) (some pl) none = ((ixL hs.length held).drop pl.toNat).map D.int := cutI_drop h0 (by rw [hl]; omega)
  have l6 := hd.l6
  have lc := fun x0 x2 => others_lc (n := hs.length) (held := held) (ρ := []) (st := st) x0 x2
  rw [p_Pull_order, t_run, p_Pull_order_b, t_asg]
  simp -implicitDefEqProofs
  rw [pu_drag h]
  simp -implicitDefEqProofs
  rw [t_asg]
  simp -implicitDefEqProofs
  rw [pu_drag h]
  simp -implicitDefEqProofs [wipeE]
  refine ⟨fun _ => ⟨by rw [rangeL_len]; omega, ?_⟩, by omega⟩
  rw [lc, t_pure, t_ret1]
  simp -implicitDefEqProofs
  rw [pu_now h]
  simp -implicitDefEqProofs [c1]
  have hl' : (ixL hs.length held).length ≤ 6 := by omega
  generalize ixL hs.length held = L at *
  refine ⟨by omega, ?_⟩
  rw [pu_now h]
  simp -implicitDefEqProofs [c2]
  omega
theorem pull_orderN {r : D} {st : Store} {n : Nat} {p : Nat} {q : Int} {pl : Int} {ss : List (Int × Int)} {hs : List Int} {held : Int} {grab : Int} {hh : Int} (h : st[n]? = some (puC r (dgD hs held grab) (nowD q pl ss) p)) (hd : Drg hs held grab hh) (h0 : 0 ≤ pl) (h1 : pl < hs.length) : T (p_Pull_orderN [.ref n]) st (fun d s => d = .tupn ((ordL hs.length held pl).map D.int) ∧ s = st) := by
  have hl := ixL_len (n := hs.length) hd.h0 hd.h1
  have c1 : cutL ((ixL hs.length held).map D.int) none (some pl) = ((ixL hs.length held).take pl.toNat).map D.int := cutI_take h0 (by rw [hl]; omega)
  have c2 : cutL ((ixL hs.length held).map D.int) (some pl) none = ((ixL hs.length held).drop pl.toNat).map D.int := cutI_drop h0 (by rw [hl]; omega)
  have l6 := hd.l6
  have lc := fun x0 x2 => others_lc (n := hs.length) (held := held) (ρ := []) (st := st) x0 x2
  have a1 : ∀ xs ys : List D, ys ≠ [] → xs.length + ys.length ≤ 100 → opAddN (.tup xs) (.tupn ys) = pure (.tupn (xs ++ ys)) := fun xs ys hy hl => by
    show guardM _ _ = _
    rw [show (decide (xs.length + ys.length ≤ big) && !ys.isEmpty) = true from by simp [hy]; omega]
    rfl
  have a2 : ∀ xs ys : List D, xs ≠ [] → xs.length + ys.length ≤ 100 → opAddN (.tupn xs) (.tup ys) = pure (.tupn (xs ++ ys)) := fun xs ys hy hl => by
    show guardM _ _ = _
    rw [show (decide (xs.length + ys.length ≤ big) && !xs.isEmpty) = true from by simp [hy]; omega]
    rfl
  rw [p_Pull_orderN, t_run, p_Pull_orderN_b, t_asg]
  simp -implicitDefEqProofs
  rw [pu_drag h]
  simp -implicitDefEqProofs
  rw [t_asg]
  simp -implicitDefEqProofs
  rw [pu_drag h]
  simp -implicitDefEqProofs [wipeE]
  refine ⟨fun _ => ⟨by rw [rangeL_len]; omega, ?_⟩, by omega⟩
  rw [lc, t_pure, t_ret1]
  have hl' : (ixL hs.length held).length ≤ 6 := by omega
  generalize ixL hs.length held = L at *
  simp -implicitDefEqProofs
  rw [pu_now h]
  simp -implicitDefEqProofs [c1]
  rw [a1 _ _ (by simp) (by simp; omega), t_pure, pu_now h]
  simp -implicitDefEqProofs [c2]
  rw [a2 _ _ (by simp) (by simp; omega)]
  simp
/-! items: the top of a row -/
abbrev hgt (hs : List Int) (i : Int) : Int := (atI hs i).getD 0
def topOf (hs : List Int) (held pl i : Int) : Int := (((ordL hs.length held pl).take ((ordL hs.length held pl).findIdx fun x => x == i)).map (hgt hs)).sum
theorem t_prop {c : Str} {p : List D → M D} {f : Den} {ρ : MP.Env} {st : Store} {Q : D → Store → Prop} (h : T (f ρ) st (fun d s => ∃ n fs ds, d = .ref n ∧ s[n]? = some (.ins c fs ds) ∧ T (p [.ref n]) s Q)) : T (dProp c p f ρ) st Q := by
  unfold dProp
  rw [t_bind]
  refine h.mono fun d s hd => ?_
  obtain ⟨n, fs, ds, rfl, hn, q⟩ := hd
  rw [t_bind, t_insC1 hn, t_noX]
  exact q
theorem ixL_mem {n : Nat} {held i : Int} : i ∈ ixL n held ↔ (0 ≤ i ∧ i < n) ∧ i ≠ held := by
  simp only [ixL, List.mem_filter, List.mem_map, List.mem_range, Bool.not_eq_true', beq_eq_false_iff_ne]
  constructor
  · rintro ⟨⟨k, hk, rfl⟩, h⟩
    exact ⟨⟨by omega, by omega⟩, h⟩
  · rintro ⟨⟨h0, h1⟩, h⟩
    exact ⟨⟨i.toNat, by omega, by omega⟩, h⟩
theorem ordL_mem {n : Nat} {held pl i : Int} (h0 : 0 ≤ held) (h1 : held < n) : i ∈ ordL n held pl ↔ 0 ≤ i ∧ i < n := by
  have e : i ∈ ordL n held pl ↔ i ∈ ixL n held ∨ i = held := by
    conv => rhs; rw [← List.take_append_drop pl.toNat (ixL n held)]
    simp only [ordL, List.mem_append, List.mem_singleton]
    constructor
    · rintro ((h | h) | h)
      · exact .inl (.inl h)
      · exact .inr h
      · exact .inl (.inr h)
    · rintro ((h | h) | h)
      · exact .inl (.inl h)
      · exact .inr h
      · exact .inl (.inr h)
  rw [e, ixL_mem]
  constructor
  · rintro (⟨h, _⟩ | rfl)
    · exact h
    · exact ⟨h0, h1⟩
  · intro h
    by_cases q : i = held
    · exact .inr q
    · exact .inl ⟨h, q⟩
theorem ordL_len {n : Nat} {held pl : Int} (h0 : 0 ≤ held) (h1 : held < n) : (ordL n held pl).length = n := by
  have hl := ixL_len h0 h1
  simp only [ordL, List.length_append, List.length_take, List.length_drop, List.length_singleton]
  omega
theorem hgt_at {hs : List Int} {i : Int} (h0 : 0 ≤ i) (h1 : i < hs.length) : atI (hs.map D.int) i = some (.int (hgt hs i)) := by
  obtain ⟨d, hd, _⟩ := at_memI (ns := hs) h0 h1
  rw [at_ints, hd]
  simp [hgt, hd]
theorem sum_lst {ns : List Int} : biSumA (.lst (ns.map D.int)) = pure (.int ns.sum) := by
  have h := sum_t (ns := ns)
  exact h
theorem pull_getitem {r : D} {st : Store} {n : Nat} {p : Nat} {q : Int} {pl : Int} {ss : List (Int × Int)} {hs : List Int} {held : Int} {grab : Int} {hh : Int} (h : st[n]? = some (puC r (dgD hs held grab) (nowD q pl ss) p)) (hd : Drg hs held grab hh) (h0 : 0 ≤ pl) (h1 : pl < hs.length) {i : Int} (i0 : 0 ≤ i) (i1 : i < hs.length) : T (p_Pull_getitem [.ref n, .int i]) st (fun d s => d = .int (topOf hs held pl i) ∧ s = st) := by
  have hN := pull_orderN h hd h0 h1
  have hmem : ∀ x ∈ ordL hs.length held pl, 0 ≤ x ∧ x < hs.length := fun x hx => (ordL_mem hd.h0 hd.h1).mp hx
  have hi : i ∈ ordL hs.length held pl := (ordL_mem hd.h0 hd.h1).mpr ⟨i0, i1⟩
  have hlen := ordL_len (pl := pl) hd.h0 hd.h1
  have l6 := hd.l6
  have hj : (ordL hs.length held pl).findIdx (fun x => x == i) < (ordL hs.length held pl).length := List.findIdx_lt_length_of_exists ⟨i, hi, by simp⟩
  have hj2 : (ordL hs.length held pl).findIdx? (fun x => x == i) = some ((ordL hs.length held pl).findIdx (fun x => x == i)) := List.findIdx?_eq_some_iff_findIdx_eq.mpr ⟨hj, rfl⟩
  unfold topOf
  generalize ordL hs.length held pl = L at *
  generalize L.findIdx (fun x => x == i) = j at *
  have hix : mIndexN (.tupn (L.map D.int)) (.int i) = pure (.int (j : Int)) := by
    simp only [mIndexN, intsD_map, hj2]
  have hsl : opSl none (some (j : Int)) (.tupn (L.map D.int)) = pure (.tup ((L.take j).map D.int)) := by
    have c := cutI_take (ns := L) (i := (j : Int)) (by omega) (by omega)
    show guardM _ _ = _
    rw [c, show decide (¬ (HT.sIx (L.map D.int).length 0 none = 0 ∧ HT.sIx (L.map D.int).length (L.map D.int).length (some (j : Int)) = (L.map D.int).length)) = true from by
      rw [decide_eq_true_eq, HT.sIx_nat]
      simp
      omega]
    simp
  rw [p_Pull_getitem, t_run, p_Pull_getitem_b, t_asg]
  simp -implicitDefEqProofs
  rw [pu_drag h]
  simp -implicitDefEqProofs
  rw [t_ifs]
  simp -implicitDefEqProofs [is_number_eq (d := .int i) rfl, isI, dBNot, i0, i1]
  rw [t_asg]
  refine t_prop ?_
  simp -implicitDefEqProofs
  refine ⟨⟨_, _, h⟩, hN.mono fun d s hd => ?_⟩
  obtain ⟨rfl, rfl⟩ := hd
  rw [t_ret1]
  simp -implicitDefEqProofs [isTN, hix, hsl]
  refine ⟨by omega, ?_⟩
  rw [← List.map_take, lc_map (p := fun _ => true) (g := fun d => match d with | .int x => .int (hgt hs x) | d => d) fun d hd => ?_]
  · rw [List.filter_eq_self.mpr (by simp), List.map_map]
    rw [show ((fun d => match d with | .int x => D.int (hgt hs x) | d => d) ∘ D.int) = D.int ∘ hgt hs from rfl, ← List.map_map]
    rw [t_pure, show biSumA (.lst (((L.take j).map (hgt hs)).map D.int)) = pure (.int ((L.take j).map (hgt hs)).sum) from sum_lst]
    simp -implicitDefEqProofs [List.map_take]
  · obtain ⟨x, hx, rfl⟩ := List.mem_map.mp hd
    have hb := hmem x (List.mem_of_mem_take hx)
    refine ⟨_, rfl, rfl, fun _ => ?_⟩
    simp -implicitDefEqProofs [wipeE, hgt_at hb.1 hb.2]
theorem pull_in {st : Store} {n : Nat} {p : Nat} {q : Int} {pl : Int} {ss : List (Int × Int)} {hs : List Int} {held : Int} {grab : Int} {hh : Int} {a b : D} {x : Int} (ha : IsCond a) (hb : IsCond b) (h : st[n]? = some (puC (.tup [a, b]) (dgD hs held grab) (nowD q pl ss) p)) (hd : Drg hs held grab hh) (hq : Qb q) (h0 : 0 ≤ x) (h1 : x < hs.length) :
    T (p_Pull_contains [.ref n, .int x]) st (fun d s => d = .bl (stepI a b hs held grab hh q x == 0) ∧ s = st) := by
  have k := turn_of_eq ha hb hd hq h0 h1
  generalize stepI a b hs held grab hh q x = z at *
  rw [p_Pull_contains, t_run, p_Pull_contains_b, t_ifs]
  simp -implicitDefEqProofs [is_number_eq (d := .int x) rfl, isI, dBNot, h0]
  rw [pu_drag h]
  simp -implicitDefEqProofs [h1]
  rw [t_ret1]
  simp -implicitDefEqProofs
  rw [pu_rule h, pu_drag h, pu_now h]
  simp -implicitDefEqProofs [k]
theorem pull_eqT {st : Store} {n : Nat} {xs : List D} : T (p_Pull_eq [.ref n, .tup xs]) st (fun d s => d = .bl false ∧ s = st) := by
  rw [p_Pull_eq, t_run, p_Pull_eq_b, t_ifs]
  simp -implicitDefEqProofs [show opIsC "Pull" (.tup xs) = pure (.bl false) from rfl, dBNot]
  rw [t_ret]
  simp -implicitDefEqProofs
theorem pull_eq {r : D} {dr : D} {st : Store} {n : Nat} {p : Nat} {q : Int} {pl : Int} {ss : List (Int × Int)} {r' dr' : D} {m p' : Nat} {q' pl' : Int} {ss' : List (Int × Int)} (h : st[n]? = some (puC r dr (nowD q pl ss) p)) (h' : st[m]? = some (puC r' dr' (nowD q' pl' ss') p')) (hr : Dep 64 r) (hr' : Dep 64 r') (hd : Dep 64 dr) (hd' : Dep 64 dr') :
    T (p_Pull_eq [.ref n, .ref m]) st (fun d s => d = .bl (deq r r' && (deq dr dr' && (q == q' && pl == pl'))) ∧ s = st) := by
  rw [p_Pull_eq, t_run, p_Pull_eq_b, t_ifs]
  simp -implicitDefEqProofs [dBNot]
  rw [t_isC h']
  simp -implicitDefEqProofs
  rw [pu_rule h, pu_rule h', eq_of hr hr']
  cases deq r r'
  · simp -implicitDefEqProofs
    rw [t_ret]
    simp -implicitDefEqProofs
  · simp -implicitDefEqProofs
    rw [pu_drag h, pu_drag h', eq_of hd hd']
    cases deq dr dr'
    · simp -implicitDefEqProofs
      rw [t_ret]
      simp -implicitDefEqProofs
    · simp -implicitDefEqProofs
      rw [t_ret1]
      simp -implicitDefEqProofs
      rw [pu_now h]
      have c : ∀ x y z : D, cutL [x, y, z] none (some 2) = [x, y] := fun _ _ _ => rfl
      have e := eq_of (neg := false) (x := .tup [.int q, .int pl]) (y := .tup [.int q', .int pl']) (dep_tup.mpr fun d hd => by simp at hd; rcases hd with rfl | rfl <;> exact dep_int) (dep_tup.mpr fun d hd => by simp at hd; rcases hd with rfl | rfl <;> exact dep_int)
      simp -implicitDefEqProofs [c]
      rw [pu_now h']
      simp -implicitDefEqProofs [c, e]
/-! what it hands out -/
abbrev stepS (s : Int × Int) : Str := Str.empty ++ (toString s.1 : String) ++ ": " ++ (toString s.2 : String)
theorem len_int {v : Int} (h0 : -(10 ^ 10) < v) (h1 : v < 10 ^ 10) : (Str.ofString (toString v)).length ≤ 12 := by
  by_cases h : 0 ≤ v
  · have := PyProof.Rows.toString_length_le h (k := 10) (by decide) h1
    omega
  · obtain ⟨m, rfl⟩ : ∃ m : Nat, v = Int.negSucc m := ⟨(-v - 1).toNat, by omega⟩
    have k := PyProof.Rows.toString_length_le (v := ((m + 1 : Nat) : Int)) (by omega) (k := 10) (by decide) (by omega)
    rw [PyProof.Rows.ofString_length] at k ⊢
    show ("-" ++ toString (m + 1)).toList.length ≤ 12
    have k2 : (toString (m + 1)).toList.length ≤ 10 := k
    rw [String.toList_append, List.length_append]
    have : ("-" : String).toList.length = 1 := rfl
    omega
theorem genlog {x0 : Option D} {st : Store} : ∀ (ss : List (Int × Int)) (x1 x2 : Option D), (∀ s ∈ ss, (-(10 ^ 10) < s.1 ∧ s.1 < 10 ^ 10) ∧ (0 ≤ s.2 ∧ s.2 < 10)) →
    T (genL (.tup [.nm 1, .nm 2]) (dFs [dFmt (dVar 1), dC (.str ": "), dFmt (dVar 2)]) (ss.map stD2) [x0, x1, x2]) st (fun ds s => ds = ss.map (fun s => D.str (stepS s)) ∧ s = st)
  | [], _, _, _ => ⟨rfl, rfl⟩
  | (a, b) :: ss, x1, x2, h => by
    obtain ⟨⟨a0, a1⟩, b0, b1⟩ := h (a, b) List.mem_cons_self
    simp only at a0 a1 b0 b1
    have la := len_int a0 a1
    have lb := len_int (v := b) (by omega) (by omega)
    have ga : a.natAbs.log2 < 1920 := Nat.lt_trans (lg2 (k := 60) (by omega) (by decide)) (by decide)
    have gb : b.natAbs.log2 < 1920 := Nat.lt_trans (lg2 (k := 60) (by omega) (by decide)) (by decide)
    have fa : fmtM (.int a) = pure (.str (toString a : String)) := by
      show guardM _ _ = _
      rw [decide_eq_true ga]
      rfl
    have fb : fmtM (.int b) = pure (.str (toString b : String)) := by
      show guardM _ _ = _
      rw [decide_eq_true gb]
      rfl
    rw [List.map_cons, genL]
    simp -implicitDefEqProofs [fa, fb]
    have e0 : (Str.empty).length = 0 := rfl
    have e1 : (": " : Str).length = 2 := rfl
    have ra : Str.ofString a.repr = Str.ofString (toString a) := rfl
    have rb : Str.ofString b.repr = Str.ofString (toString b) := rfl
    rw [ra, rb]
    refine ⟨by simp only [Str.length_append]; omega, by simp only [Str.length_append]; omega, by simp only [Str.length_append]; omega, ?_⟩
    refine (genlog ss _ _ fun s hs => h s (List.mem_cons_of_mem _ hs)).mono fun ds s hd => ?_
    obtain ⟨rfl, rfl⟩ := hd
    exact ⟨⟨rfl, rfl⟩, rfl⟩
theorem pull_log {r : D} {dr : D} {st : Store} {n : Nat} {p : Nat} {q : Int} {pl : Int} {ss : List (Int × Int)} (h : st[n]? = some (puC r dr (nowD q pl ss) p)) (hl : ss.length ≤ 1000) (hs : ∀ s ∈ ss, (-(10 ^ 10) < s.1 ∧ s.1 < 10 ^ 10) ∧ (0 ≤ s.2 ∧ s.2 < 10)) : T (p_Pull_log [.ref n]) st (fun ds s => ds = ss.map (fun s => .str (stepS s)) ∧ s = st) := by
  unfold p_Pull_log runGen dGenFor
  rw [t_noX]
  simp -implicitDefEqProofs
  rw [pu_now h]
  simp -implicitDefEqProofs
  exact ⟨by omega, genlog ss none none hs⟩
/-! pointers moved to -/
def laterF (F : Int → Int → Int) (N : Nat) : Int → Int → List (Int × Int) → List Int → Option (Int × Int × List (Int × Int))
  | q, pl, ss, [] => some (q, pl, ss)
  | _, pl, ss, x :: xs => match restN (F x) (2 * N) pl with
    | none => none
    | some r => laterF F N x r (ss ++ [(x, r)]) xs
abbrev GO_1 : DenS := dAsg (dFld "Pull" "now" (dVar 0)) (gSet 2)
abbrev GO_2_1 : DenS := dAsg (dCall (arity 4 p_rest_of) (dCons (dFld "Pull" "rule" (dVar 0)) (dCons (dFld "Pull" "drag" (dVar 0)) (dCons (dVar 3) (dCons (d2 opIx (dVar 2) (dC (.int 1))) (dNil)))))) (gSet 4)
abbrev GO_2_2 : DenS := dIfS (bVal (d2 (opIsN false) (dVar 4) (dC .non))) (dRaise "Flickers") (dSkip)
abbrev GO_2_3 : DenS := dAsg (dTup (dCons (dVar 3) (dCons (dVar 4) (dCons (d2 opAdd (d2 opIx (dVar 2) (dC (.int 2))) (dTup (dCons (dTup (dCons (dVar 3) (dCons (dVar 4) (dNil)))) (dNil)))) (dNil))))) (gSet 2)
abbrev GO_2t_3 : DenS := GO_2_3
abbrev GO_2t_2 : DenS := dSeq GO_2_2 GO_2t_3
abbrev GO_2t_1 : DenS := dSeq GO_2_1 GO_2t_2
abbrev GO_2 : DenS := dFor (iVal (dVar 1)) (gOf (.nm 3)) GO_2t_1
abbrev GO_3 : DenS := dExpr (dMeth "list" mAppend (dFld "Pull" "past" (dVar 0)) (dCons (dFld "Pull" "now" (dVar 0)) (dNil)))
abbrev GO_4 : DenS := dSetF "Pull" "now" (dVar 0) (dVar 2)
abbrev GOt_4 : DenS := GO_4
abbrev GOt_3 : DenS := dSeq GO_3 GOt_4
abbrev GOt_2 : DenS := dSeq GO_2 GOt_3
abbrev GOt_1 : DenS := dSeq GO_1 GOt_2

theorem isN_int {i : Int} : opIsN false (.int i) .non = pure (.bl false) := rfl
theorem nxt_add {ss : List (Int × Int)} {x r : Int} (hl : ss.length < 1000) : opAdd (.tup (ss.map stD2)) (.tup [.tup [.int x, .int r]]) = pure (.tup ((ss ++ [(x, r)]).map stD2)) := by
  simp -implicitDefEqProofs
  rw [decide_eq_true (by omega)]
  rfl
theorem go_loop {a : D} {b : D} {st : Store} {n : Nat} {p : Nat} {hs : List Int} {held : Int} {grab : Int} {hh : Int} {now0 : D} (ha : IsCond a) (hb : IsCond b) (h : Drg hs held grab hh) {x1 : Option D} (hn : st[n]? = some (puC (.tup [a, b]) (dgD hs held grab) now0 p)) : ∀ (qs : List Int) (q pl : Int) (ss : List (Int × Int)) (x3 x4 : Option D) (q' pl' : Int) (ss' : List (Int × Int)), (∀ q ∈ qs, Qb q) → 0 ≤ pl → pl < hs.length → ss.length + qs.length < 1000 →
    laterF (fun q => stepI a b hs held grab hh q) hs.length q pl ss qs = some (q', pl', ss') →
    T (forL (fun d ρ => GO_2t_1 (ρ.set 3 (some d))) (qs.map D.int) [some (.ref n), x1, some (nowD q pl ss), x3, x4]) st (fun r s => s = st ∧ (∃ y3 y4, r = .nx [some (.ref n), x1, some (nowD q' pl' ss'), y3, y4]) ∧ (0 ≤ pl' ∧ pl' < hs.length) ∧ ss'.length = ss.length + qs.length)
  | [], q, pl, ss, x3, x4, q', pl', ss', _, h0, h1, _, e => by
    cases (show some (q, pl, ss) = some (q', pl', ss') from e)
    exact ⟨rfl, ⟨_, _, rfl⟩, ⟨h0, h1⟩, rfl⟩
  | x :: qs, q, pl, ss, x3, x4, q', pl', ss', hq, h0, h1, hl, e => by
    have hr := rest_of_eq ha hb h (hq x List.mem_cons_self) h0 h1
    simp only [laterF] at e
    cases er : restN (stepI a b hs held grab hh x) (2 * hs.length) pl with
    | none => rw [er] at e; cases e
    | some r =>
      rw [er] at e hr
      have hin := restN_in _ _ _ h0 h1 er
      simp only [List.length_cons] at hl
      rw [List.map_cons]
      unfold forL
      rw [t_bind]
      simp only [List.set]
      rw [t_asg]
      simp -implicitDefEqProofs
      rw [pu_rule hn, pu_drag hn]
      simp -implicitDefEqProofs [hr, optD]
      rw [t_ifs]
      simp -implicitDefEqProofs [isN_int]
      rw [t_asg1]
      have na := nxt_add (ss := ss) (x := x) (r := r) (by omega)
      simp -implicitDefEqProofs [-add_tt, na]
      have ih := go_loop ha hb h hn qs x r (ss ++ [(x, r)]) (x1 := x1) (some (.int x)) (some (.int r)) q' pl' ss' (fun y hy => hq y (List.mem_cons_of_mem _ hy)) hin.1 hin.2 (by simp; omega) e
      have em : ss.map stD2 ++ [stD2 (x, r)] = (ss ++ [(x, r)]).map stD2 := by simp
      rw [em]
      refine ih.mono fun rr s hr => ?_
      obtain ⟨rfl, q1, q2, q3⟩ := hr
      exact ⟨rfl, q1, q2, by rw [q3]; simp; omega⟩
theorem go_bad {a : D} {b : D} {st : Store} {n : Nat} {p : Nat} {hs : List Int} {held : Int} {grab : Int} {hh : Int} {now0 : D} (ha : IsCond a) (hb : IsCond b) (h : Drg hs held grab hh) {x1 : Option D} (hn : st[n]? = some (puC (.tup [a, b]) (dgD hs held grab) now0 p)) : ∀ (qs : List Int) (q pl : Int) (ss : List (Int × Int)) (x3 x4 : Option D), (∀ q ∈ qs, Qb q) → 0 ≤ pl → pl < hs.length → ss.length + qs.length < 1000 →
    laterF (fun q => stepI a b hs held grab hh q) hs.length q pl ss qs = none →
    forL (fun d ρ => GO_2t_1 (ρ.set 3 (some d))) (qs.map D.int) [some (.ref n), x1, some (nowD q pl ss), x3, x4] st = .exn ⟨"Flickers", none⟩ st
  | [], q, pl, ss, x3, x4, _, h0, h1, _, e => by
    cases (show some (q, pl, ss) = none from e)
  | x :: qs, q, pl, ss, x3, x4, hq, h0, h1, hl, e => by
    have hr := rest_of_eq ha hb h (hq x List.mem_cons_self) h0 h1
    simp only [laterF] at e
    simp only [List.length_cons] at hl
    rw [List.map_cons]
    unfold forL
    simp only [List.set]
    cases er : restN (stepI a b hs held grab hh x) (2 * hs.length) pl with
    | none =>
      rw [er] at hr
      refine x_bind1 ?_
      have e1 : GO_2_1 [some (.ref n), x1, some (nowD q pl ss), some (.int x), x4] st = .ok (.nx [some (.ref n), x1, some (nowD q pl ss), some (.int x), some .non]) st := by
        have k : T (GO_2_1 [some (.ref n), x1, some (nowD q pl ss), some (.int x), x4]) st (fun r s => r = .nx [some (.ref n), x1, some (nowD q pl ss), some (.int x), some .non] ∧ s = st) := by
          rw [t_asg1]
          simp -implicitDefEqProofs
          rw [pu_rule hn, pu_drag hn]
          simp -implicitDefEqProofs [hr, optD]
        obtain ⟨r, s, e, rfl, rfl⟩ := k.get
        exact e
      unfold GO_2t_1 dSeq
      rw [x_bind2 e1]
      rfl
    | some r =>
      rw [er] at e hr
      have hin := restN_in _ _ _ h0 h1 er
      have e1 : GO_2t_1 [some (.ref n), x1, some (nowD q pl ss), some (.int x), x4] st = .ok (.nx [some (.ref n), x1, some (nowD x r (ss ++ [(x, r)])), some (.int x), some (.int r)]) st := by
        have k : T (GO_2t_1 [some (.ref n), x1, some (nowD q pl ss), some (.int x), x4]) st (fun rr s => rr = .nx [some (.ref n), x1, some (nowD x r (ss ++ [(x, r)])), some (.int x), some (.int r)] ∧ s = st) := by
          rw [t_asg]
          simp -implicitDefEqProofs
          rw [pu_rule hn, pu_drag hn]
          simp -implicitDefEqProofs [hr, optD]
          rw [t_ifs]
          simp -implicitDefEqProofs [isN_int]
          rw [t_asg1]
          have na := nxt_add (ss := ss) (x := x) (r := r) (by omega)
          simp -implicitDefEqProofs [-add_tt, na]
        obtain ⟨r, s, e, rfl, rfl⟩ := k.get
        exact e
      rw [x_bind2 e1]
      exact go_bad ha hb h hn qs x r (ss ++ [(x, r)]) (x1 := x1) (some (.int x)) (some (.int r)) (fun y hy => hq y (List.mem_cons_of_mem _ hy)) hin.1 hin.2 (by simp; omega) e
/-- what is left of a pull that moved on -/
abbrev puMoved (st : Store) (n p : Nat) (r dr now : D) (ps : List D) : Store := (st.set p (.lst ps)).set n (puC r dr now p)
theorem pull_go {a : D} {b : D} {st : Store} {n : Nat} {p : Nat} {hs : List Int} {held : Int} {grab : Int} {hh : Int} {q pl q' pl' : Int} {ss ss' : List (Int × Int)} {ps : List D} {qs : List Int} (ha : IsCond a) (hb : IsCond b) (h : Drg hs held grab hh) (hc : PuAt st n p (.tup [a, b]) (dgD hs held grab) (nowD q pl ss) ps) (hq : ∀ q ∈ qs, Qb q) (h0 : 0 ≤ pl) (h1 : pl < hs.length) (hl : ss.length + qs.length < 1000) (hp : ps.length < 1000)
    (e : laterF (fun q => stepI a b hs held grab hh q) hs.length q pl ss qs = some (q', pl', ss')) :
    T (p_Pull_go_on [.ref n, .tup (qs.map D.int)]) st (fun d s => d = .non ∧ s = puMoved st n p (.tup [a, b]) (dgD hs held grab) (nowD q' pl' ss') (ps ++ [nowD q pl ss])) := by
  have hnp : p ≠ n := fun e => by have h1 := hc.l; rw [e, hc.c] at h1; cases h1
  rw [p_Pull_go_on, t_run]
  show T (GOt_1 _) _ _
  rw [t_asg]
  simp -implicitDefEqProofs
  rw [pu_now hc.c]
  rw [t_for]
  simp -implicitDefEqProofs
  refine (go_loop ha hb h hc.c qs q pl ss none none q' pl' ss' hq h0 h1 hl e).mono fun r s hr => ?_
  obtain ⟨rfl, ⟨y3, y4, rfl⟩, _⟩ := hr
  rw [t_exp]
  simp -implicitDefEqProofs
  rw [pu_past hc.c]
  simp -implicitDefEqProofs [hc.l]
  rw [pu_now hc.c]
  simp -implicitDefEqProofs [hc.l]
  refine ⟨by omega, ?_⟩
  have hn2 : (s.set p (.lst (ps ++ [nowD q pl ss])))[n]? = some (puC (.tup [a, b]) (dgD hs held grab) (nowD q pl ss) p) := by
    rw [List.getElem?_set_ne hnp]
    exact hc.c
  rw [t_fset1]
  simp -implicitDefEqProofs
  rw [t_setF hn2 (by simp), pu_n5, pu_d5]
theorem pull_gobad {a : D} {b : D} {st : Store} {n : Nat} {p : Nat} {hs : List Int} {held : Int} {grab : Int} {hh : Int} {q pl : Int} {ss : List (Int × Int)} {ps : List D} {qs : List Int} (ha : IsCond a) (hb : IsCond b) (h : Drg hs held grab hh) (hc : PuAt st n p (.tup [a, b]) (dgD hs held grab) (nowD q pl ss) ps) (hq : ∀ q ∈ qs, Qb q) (h0 : 0 ≤ pl) (h1 : pl < hs.length) (hl : ss.length + qs.length < 1000)
    (e : laterF (fun q => stepI a b hs held grab hh q) hs.length q pl ss qs = none) : p_Pull_go_on [.ref n, .tup (qs.map D.int)] st = .exn ⟨"Flickers", none⟩ st := by
  have e1 : GO_1 [some (.ref n), some (.tup (qs.map D.int)), none, none, none] st = .ok (.nx [some (.ref n), some (.tup (qs.map D.int)), some (nowD q pl ss), none, none]) st := by
    have k : T (GO_1 [some (.ref n), some (.tup (qs.map D.int)), none, none, none]) st (fun rr s => rr = .nx [some (.ref n), some (.tup (qs.map D.int)), some (nowD q pl ss), none, none] ∧ s = st) := by
      rw [t_asg1]
      simp -implicitDefEqProofs
      rw [pu_now hc.c]
      simp -implicitDefEqProofs
    obtain ⟨r, s, e, rfl, rfl⟩ := k.get
    exact e
  have e2 := go_bad ha hb h (x1 := some (.tup (qs.map D.int))) hc.c qs q pl ss none none hq h0 h1 hl e
  show runDef 5 GOt_1 _ _ = _
  unfold runDef
  refine x_bind1 ?_
  show (dSeq GO_1 GOt_2 [some (.ref n), some (.tup (qs.map D.int)), none, none, none]) st = _
  unfold dSeq
  rw [x_bind2 e1]
  refine x_bind1 ?_
  show (dFor _ _ _ _) st = _
  unfold dFor
  exact (x_bind2 (a := qs.map D.int) (s := st) rfl).trans e2
/-! to, +=, undo -/
theorem t_meth {c m : Str} {np : Nat} {pp : List D → M D} {fo : Den} {fs : DenL} {ρ : MP.Env} {st : Store} {Q : D → Store → Prop} {n : Nat} {gs : List Str} {ds : List D} (hf : fo ρ = pure (.ref n)) (hn : st[n]? = some (.ins c gs ds)) (hc : gs.contains m = false) :
    T (dMethC c m np pp fo fs ρ) st Q = T (fs ρ) st (fun es s => T (arity np pp (.ref n :: es)) s Q) := by
  unfold dMethC
  rw [t_bind, hf, t_pure, t_bind, t_insM hn hc, t_bind]
theorem puM_now {st : Store} {n : Nat} {p : Nat} {r dr now now' : D} {ps ps' : List D} (hc : PuAt st n p r dr now ps) : PuAt (puMoved st n p r dr now' ps') n p r dr now' ps' := by
  have hnp : p ≠ n := fun e => by have h1 := hc.l; rw [e, hc.c] at h1; cases h1
  have hnl : n < st.length := (List.getElem?_eq_some_iff.mp hc.c).1
  have hpl : p < st.length := (List.getElem?_eq_some_iff.mp hc.l).1
  refine ⟨?_, ?_⟩
  · exact List.getElem?_set_self (by simpa using hnl)
  · rw [List.getElem?_set_ne hnp.symm]
    exact List.getElem?_set_self hpl
theorem puM_else {st : Store} {n : Nat} {p : Nat} {r dr now' : D} {ps' : List D} {i : Nat} (h1 : i ≠ n) (h2 : i ≠ p) : (puMoved st n p r dr now' ps')[i]? = st[i]? := by
  rw [List.getElem?_set_ne h1.symm, List.getElem?_set_ne h2.symm]
theorem pull_to {a : D} {b : D} {st : Store} {n : Nat} {p : Nat} {hs : List Int} {held : Int} {grab : Int} {hh : Int} {q pl q' pl' : Int} {ss ss' : List (Int × Int)} {ps : List D} {x : Int} (ha : IsCond a) (hb : IsCond b) (h : Drg hs held grab hh) (hc : PuAt st n p (.tup [a, b]) (dgD hs held grab) (nowD q pl ss) ps) (hq : Qb x) (h0 : 0 ≤ pl) (h1 : pl < hs.length) (hl : ss.length < 900) (hp : ps.length < 1000)
    (e : laterF (fun q => stepI a b hs held grab hh q) hs.length q pl ss [x] = some (q', pl', ss')) :
    T (p_Pull_to [.ref n, .int x]) st (fun d s => d = .int pl' ∧ s = puMoved st n p (.tup [a, b]) (dgD hs held grab) (nowD q' pl' ss') (ps ++ [nowD q pl ss])) := by
  have k := pull_go ha hb h hc (qs := [x]) (by simpa using hq) h0 h1 (by simp; omega) hp e
  rw [p_Pull_to, t_run, p_Pull_to_b, t_exp]
  simp -implicitDefEqProofs [need_pointer_eq]
  rw [t_exp]
  rw [t_meth rfl hc.c (by decide +kernel)]
  simp -implicitDefEqProofs
  refine k.mono fun d s hd => ?_
  obtain ⟨rfl, rfl⟩ := hd
  rw [t_ret1]
  simp -implicitDefEqProofs
  rw [pu_now (puM_now hc).c]
  simp -implicitDefEqProofs
theorem e_meth {c m : Str} {np : Nat} {pp : List D → M D} {fo : Den} {fs : DenL} {ρ : MP.Env} {st : Store} {n : Nat} {gs : List Str} {ds es : List D} {e : Exn} (hf : fo ρ = pure (.ref n)) (hn : st[n]? = some (.ins c gs ds)) (hc : gs.contains m = false) (ha : fs ρ = pure es) (hp : arity np pp (.ref n :: es) st = .exn e st) :
    dMethC c m np pp fo fs ρ st = .exn e st := by
  have h1 : insM c m (.ref n) st = .ok () st := by
    have k : T (insM c m (.ref n)) st (fun _ s => s = st) := by rw [t_insM hn hc]
    obtain ⟨_, s, e, rfl⟩ := k.get
    exact e
  unfold dMethC
  rw [hf, ha]
  exact (x_bind2 (a := D.ref n) (s := st) rfl).trans ((x_bind2 h1).trans ((x_bind2 (a := es) (s := st) rfl).trans hp))
theorem pull_tobad {a : D} {b : D} {st : Store} {n : Nat} {p : Nat} {hs : List Int} {held : Int} {grab : Int} {hh : Int} {q pl : Int} {ss : List (Int × Int)} {ps : List D} {x : Int} (ha : IsCond a) (hb : IsCond b) (h : Drg hs held grab hh) (hc : PuAt st n p (.tup [a, b]) (dgD hs held grab) (nowD q pl ss) ps) (hq : Qb x) (h0 : 0 ≤ pl) (h1 : pl < hs.length) (hl : ss.length < 900)
    (e : laterF (fun q => stepI a b hs held grab hh q) hs.length q pl ss [x] = none) : p_Pull_to [.ref n, .int x] st = .exn ⟨"Flickers", none⟩ st := by
  have k := pull_gobad ha hb h hc (qs := [x]) (by simpa using hq) h0 h1 (by simp; omega) e
  have e1 : dExpr (dCall (arity 1 p_need_pointer) (dCons (dVar 1) (dNil))) [some (.ref n), some (.int x)] st = .ok (.nx [some (.ref n), some (.int x)]) st := by
    have kk : T (dExpr (dCall (arity 1 p_need_pointer) (dCons (dVar 1) (dNil))) [some (.ref n), some (.int x)]) st (fun r s => r = .nx [some (.ref n), some (.int x)] ∧ s = st) := by
      rw [t_exp1]
      simp -implicitDefEqProofs [need_pointer_eq]
    obtain ⟨r, s, e, rfl, rfl⟩ := kk.get
    exact e
  show runDef 2 p_Pull_to_b _ _ = _
  unfold runDef p_Pull_to_b
  refine x_bind1 ?_
  show (dSeq _ _ [some (.ref n), some (.int x)]) st = _
  unfold dSeq
  rw [x_bind2 e1]
  refine x_bind1 ?_
  unfold dExpr
  exact x_bind1 (e_meth (es := [.tup [.int x]]) rfl hc.c (by decide +kernel) rfl k)
theorem pull_iadd {a : D} {b : D} {st : Store} {n : Nat} {p : Nat} {hs : List Int} {held : Int} {grab : Int} {hh : Int} {q pl q' pl' : Int} {ss ss' : List (Int × Int)} {ps : List D} {qs : List Int} (ha : IsCond a) (hb : IsCond b) (h : Drg hs held grab hh) (hc : PuAt st n p (.tup [a, b]) (dgD hs held grab) (nowD q pl ss) ps) (hq : ∀ q ∈ qs, Qb q) (hk : qs.length ≤ 40) (h0 : 0 ≤ pl) (h1 : pl < hs.length) (hl : ss.length < 900) (hp : ps.length < 1000)
    (e : laterF (fun q => stepI a b hs held grab hh q) hs.length q pl ss qs = some (q', pl', ss')) :
    T (p_Pull_iadd [.ref n, .tup (qs.map D.int)]) st (fun d s => d = .ref n ∧ s = puMoved st n p (.tup [a, b]) (dgD hs held grab) (nowD q' pl' ss') (ps ++ [nowD q pl ss])) := by
  have k := pull_go ha hb h hc hq h0 h1 (by omega) hp e
  rw [p_Pull_iadd, t_run, p_Pull_iadd_b, t_exp]
  simp -implicitDefEqProofs [need_pointers_eq hk]
  rw [t_exp, t_meth rfl hc.c (by decide +kernel)]
  simp -implicitDefEqProofs
  refine k.mono fun d s hd => ?_
  obtain ⟨rfl, rfl⟩ := hd
  rw [t_ret1]
  simp -implicitDefEqProofs
theorem dep_now {q pl : Int} {ss : List (Int × Int)} : Dep 3 (nowD q pl ss) := by
  refine dep_tup.mpr fun d hd => ?_
  simp at hd
  rcases hd with rfl | rfl | rfl
  · exact dep_int
  · exact dep_int
  · refine dep_tup.mpr fun d hd => ?_
    obtain ⟨s, _, rfl⟩ := List.mem_map.mp hd
    exact dep_tup.mpr fun d hd => by
      simp at hd
      rcases hd with rfl | rfl <;> exact dep_int
theorem eq_refL {st : Store} {es : List D} {m : Nat} {Q : D → Store → Prop} (h : st[m]? = some (.lst es)) (hd : Dep 64 (.lst es)) (q : Q (.bl es.isEmpty) st) : T (opEq false (.ref m) (.lst [])) st Q := by
  have e : T (dataOf (.ref m)) st (fun d s => d = .lst es ∧ s = st) := by
    show wpR (match st[m]? with | some (.lst es) => R.ok (D.lst es) st | _ => .stuck) _ _
    rw [h]
    exact ⟨rfl, rfl⟩
  have h0 : Dep 64 (.lst []) := dep_lst.mpr fun _ h => by cases h
  unfold opEq
  rw [t_bind]
  refine e.mono fun d s hd2 => ?_
  obtain ⟨rfl, rfl⟩ := hd2
  rw [t_bind, dataOf_ok h0.ok, t_pure, t_guard]
  refine ⟨by rw [hd.sh, h0.sh]; rfl, ?_⟩
  have : deq (.lst es) (.lst []) = es.isEmpty := by cases es <;> simp
  simp [this]
  exact q
theorem t_pop {st : Store} {es : List D} {y : D} {m : Nat} {Q : D → Store → Prop} (h : st[m]? = some (.lst (es ++ [y]))) : T (mPop (.ref m) []) st Q = Q y (st.set m (.lst es)) := by
  show wpR (match st[m]? with | some (.lst ds) => (match ds.getLast? with | some y => R.ok y (st.set m (.lst ds.dropLast)) | none => .stuck) | _ => .stuck) Q _ = _
  rw [h]
  simp only [List.getLast?_concat, List.dropLast_concat]
  rfl
theorem pull_undo {st : Store} {n : Nat} {p : Nat} {q pl q' pl' : Int} {ss ss' : List (Int × Int)} {r dr : D} {ps : List D} (hc : PuAt st n p r dr (nowD q pl ss) (ps ++ [nowD q' pl' ss'])) (hd : Dep 63 (.lst (ps ++ [nowD q' pl' ss']))) :
    T (p_Pull_undo [.ref n]) st (fun d s => d = .non ∧ s = puMoved st n p r dr (nowD q' pl' ss') ps) := by
  rw [p_Pull_undo, t_run, p_Pull_undo_b, t_ifs]
  simp -implicitDefEqProofs
  rw [pu_past hc.c]
  have hd2 : Dep 64 (.lst (ps ++ [nowD q' pl' ss'])) := hd.mono (by decide)
  refine eq_refL hc.l hd2 ?_
  simp -implicitDefEqProofs
  have hnp : p ≠ n := fun e => by have h1 := hc.l; rw [e, hc.c] at h1; cases h1
  rw [t_fset1]
  simp -implicitDefEqProofs
  rw [pu_past hc.c]
  simp -implicitDefEqProofs [hc.l]
  rw [t_pop hc.l]
  have hn2 : (st.set p (.lst ps))[n]? = some (puC r dr (nowD q pl ss) p) := by
    rw [List.getElem?_set_ne hnp]
    exact hc.c
  rw [t_setF hn2 (by simp), pu_n5, pu_d5]
/-! ### k24: pulls led pointer by pointer, and at once -/
abbrev SS := Int × Int × List (Int × Int)
abbrev nD (s : SS) : D := nowD s.1 s.2.1 s.2.2
def goodL (F : Int → Int → Int) (N : Nat) : Int → List Int → List Int
  | _, [] => []
  | pl, x :: xs => match restN (F x) (2 * N) pl with
    | none => goodL F N pl xs
    | some r => x :: goodL F N r xs
structure HAt (st : Store) (n p : Nat) (r dr : D) (h : List SS) (s : SS) : Prop where
  c : PuAt st n p r dr (nD s) (h.map nD)
theorem l_moved_ok {a b : D} {st : Store} {n p : Nat} {hs : List Int} {held grab hh : Int} {h : List SS} {s : SS} {x r : Int} (ha : IsCond a) (hb : IsCond b) (hd : Drg hs held grab hh) (hc : HAt st n p (.tup [a, b]) (dgD hs held grab) h s) (hq : Qb x) (h0 : 0 ≤ s.2.1) (h1 : s.2.1 < hs.length) (hl : s.2.2.length < 900) (hp : h.length < 1000)
    (e : restN (stepI a b hs held grab hh x) (2 * hs.length) s.2.1 = some r) :
    T (l_moved [.ref n, .int x]) st (fun d s' => d = .int r ∧ s'.length = st.length ∧ HAt s' n p (.tup [a, b]) (dgD hs held grab) (h ++ [s]) (x, r, s.2.2 ++ [(x, r)])) := by
  have k := pull_to ha hb hd hc.c hq h0 h1 hl (by simpa using hp) (q' := x) (pl' := r) (ss' := s.2.2 ++ [(x, r)]) (by simp [laterF, e])
  obtain ⟨d, s', e1, rfl, rfl⟩ := k.get
  have hb2 : (dRet (dMethC "Pull" "to" 2 p_Pull_to (dVar 0) (dCons (dVar 1) (dNil)))) [some (.ref n), some (.int x)] st = .ok (.rt (.int r)) (puMoved st n p (.tup [a, b]) (dgD hs held grab) (nowD x r (s.2.2 ++ [(x, r)])) (h.map nD ++ [nD s])) := by
    have kk : T ((dRet (dMethC "Pull" "to" 2 p_Pull_to (dVar 0) (dCons (dVar 1) (dNil)))) [some (.ref n), some (.int x)]) st (fun r' s' => r' = .rt (.int r) ∧ s' = (puMoved st n p (.tup [a, b]) (dgD hs held grab) (nowD x r (s.2.2 ++ [(x, r)])) (h.map nD ++ [nD s]))) := by
      rw [t_ret1, t_meth rfl hc.c.c (by decide +kernel)]
      simp -implicitDefEqProofs
      refine k.mono fun d s hd => ?_
      obtain ⟨rfl, rfl⟩ := hd
      simp
    obtain ⟨_, _, e, rfl, rfl⟩ := kk.get
    exact e
  have hl : l_moved [.ref n, .int x] st = .ok (.int r) (puMoved st n p (.tup [a, b]) (dgD hs held grab) (nowD x r (s.2.2 ++ [(x, r)])) (h.map nD ++ [nD s])) := by
    show (runDef 2 l_moved_b [.ref n, .int x]) st = _
    unfold runDef l_moved_b
    refine (x_bind2 (s := (puMoved st n p (.tup [a, b]) (dgD hs held grab) (nowD x r (s.2.2 ++ [(x, r)])) (h.map nD ++ [nD s]))) (a := Fl.rt (.int r)) ?_).trans rfl
    show dTryC _ _ _ _ [some (.ref n), some (.int x)] st = _
    unfold dTryC
    rw [hb2]
  show wpR _ _ _
  rw [hl]
  refine ⟨rfl, by simp, ?_⟩
  have := puM_now (now' := nowD x r (s.2.2 ++ [(x, r)])) (ps' := h.map nD ++ [nD s]) hc.c
  exact ⟨by simpa using this⟩
theorem l_moved_bad {a b : D} {st : Store} {n p : Nat} {hs : List Int} {held grab hh : Int} {h : List SS} {s : SS} {x : Int} (ha : IsCond a) (hb : IsCond b) (hd : Drg hs held grab hh) (hc : HAt st n p (.tup [a, b]) (dgD hs held grab) h s) (hq : Qb x) (h0 : 0 ≤ s.2.1) (h1 : s.2.1 < hs.length) (hl : s.2.2.length < 900)
    (e : restN (stepI a b hs held grab hh x) (2 * hs.length) s.2.1 = none) :
    T (l_moved [.ref n, .int x]) st (fun d s' => d = .non ∧ s' = st) := by
  have k := pull_tobad ha hb hd hc.c hq h0 h1 hl (by simp [laterF, e])
  have hb2 : (dRet (dMethC "Pull" "to" 2 p_Pull_to (dVar 0) (dCons (dVar 1) (dNil)))) [some (.ref n), some (.int x)] st = .exn ⟨"Flickers", none⟩ st := by
    exact x_bind1 (e_meth (es := [.int x]) rfl hc.c.c (by decide +kernel) rfl k)
  have hl : l_moved [.ref n, .int x] st = .ok .non st := by
    show (runDef 2 l_moved_b [.ref n, .int x]) st = _
    unfold runDef l_moved_b
    refine (x_bind2 (s := st) (a := Fl.rt .non) ?_).trans rfl
    show dTryC _ _ _ _ [some (.ref n), some (.int x)] st = _
    unfold dTryC
    rw [hb2]
    rfl
  show wpR _ _ _
  rw [hl]
  exact ⟨rfl, rfl⟩
theorem moved_list {a b : D} {n p : Nat} {hs : List Int} {held grab hh : Int} {f : Den} {ρ : MP.Env} (ha : IsCond a) (hb : IsCond b) (hd : Drg hs held grab hh) (hf : ∀ x : Int, ∃ ρ1, (Tg.nm 8).bind (.int x) ρ = some ρ1 ∧ f ρ1 = l_moved [.ref n, .int x]) :
    ∀ (xs : List Int) (st : Store) (h : List SS) (s : SS), HAt st n p (.tup [a, b]) (dgD hs held grab) h s → (∀ x ∈ xs, Qb x) → 0 ≤ s.2.1 → s.2.1 < hs.length → s.2.2.length + xs.length < 900 → h.length + xs.length < 1000 →
      T (lcL (.nm 8) bTrue f ρ (xs.map D.int)) st (fun r s' => r = wayL (fun q => stepI a b hs held grab hh q) hs.length s.2.1 xs ∧ s'.length = st.length ∧
        ∃ h' t more, HAt s' n p (.tup [a, b]) (dgD hs held grab) h' t ∧ laterF (fun q => stepI a b hs held grab hh q) hs.length s.1 s.2.1 s.2.2 (goodL (fun q => stepI a b hs held grab hh q) hs.length s.2.1 xs) = some t ∧
          h' ++ [t] = h ++ [s] ++ more ∧ more.length = (goodL (fun q => stepI a b hs held grab hh q) hs.length s.2.1 xs).length ∧ 0 ≤ t.2.1 ∧ t.2.1 < hs.length)
  | [], st, h, s, hc, _, h0, h1, _, _ => ⟨rfl, rfl, h, s, [], hc, rfl, by simp, rfl, h0, h1⟩
  | x :: xs, st, h, s, hc, hq, h0, h1, hl, hp => by
    obtain ⟨ρ1, e1, e2⟩ := hf x
    rw [List.map_cons]
    unfold lcL
    rw [e1]
    simp only [optB, t_bind, t_noX, bTrue, t_pure, cond_true, e2]
    simp at hl hp
    cases e : restN (stepI a b hs held grab hh x) (2 * hs.length) s.2.1 with
    | none =>
      refine (l_moved_bad ha hb hd hc (hq x List.mem_cons_self) h0 h1 (by omega) e).mono fun d s' hr => ?_
      obtain ⟨rfl, rfl⟩ := hr
      refine (moved_list ha hb hd hf xs s' h s hc (fun y hy => hq y (List.mem_cons_of_mem _ hy)) h0 h1 (by omega) (by omega)).mono fun r s2 hr => ?_
      obtain ⟨rfl, el, h', t, more, k1, k2, k3, k4, k5, k6⟩ := hr
      exact ⟨by simp [wayL, e, optD], el, h', t, more, k1, by simpa [goodL, e] using k2, k3, by simpa [goodL, e] using k4, k5, k6⟩
    | some r =>
      obtain ⟨r0, r1⟩ := restN_in _ _ _ h0 h1 e
      refine (l_moved_ok ha hb hd hc (hq x List.mem_cons_self) h0 h1 (by omega) (by omega) e).mono fun d s' hr => ?_
      obtain ⟨rfl, el0, hc'⟩ := hr
      refine (moved_list ha hb hd hf xs s' (h ++ [s]) (x, r, s.2.2 ++ [(x, r)]) hc' (fun y hy => hq y (List.mem_cons_of_mem _ hy)) r0 r1 (by simp; omega) (by simp; omega)).mono fun rr s2 hr => ?_
      obtain ⟨rfl, el, h', t, more, k1, k2, k3, k4, k5, k6⟩ := hr
      refine ⟨by simp [wayL, e, optD], el.trans el0, h', t, (x, r, s.2.2 ++ [(x, r)]) :: more, k1, by simpa [goodL, e, laterF] using k2, by simpa using k3, by simpa [goodL, e] using k4, k5, k6⟩
theorem good_lc {F : Int → Int → Int} {N : Nat} {c : DenB} {f : Den} {ρ : MP.Env} (hf : ∀ (x : Int) (y : D), ∃ ρ1, (Tg.tup [.nm 8, .nm 9]).bind (.tup [.int x, y]) ρ = some ρ1 ∧ c ρ1 = bVal (fun _ => opIsN true y .non) ρ1 ∧ f ρ1 = pure (.int x)) :
    ∀ (xs : List Int) (pl : Int), lcL (.tup [.nm 8, .nm 9]) c f ρ (((xs.map D.int).zip (wayL F N pl xs)).map fun p => D.tup [p.1, p.2]) = pure ((goodL F N pl xs).map D.int)
  | [], _ => rfl
  | x :: xs, pl => by
    obtain ⟨ρ1, e1, e2, e3⟩ := hf x (optD (restN (F x) (2 * N) pl))
    unfold wayL
    rw [List.map_cons, List.zip_cons_cons, List.map_cons]
    unfold lcL
    rw [e1]
    have ih := good_lc (F := F) (N := N) hf xs ((restN (F x) (2 * N) pl).getD pl)
    simp only [optB, e2, e3, ih]
    cases e : restN (F x) (2 * N) pl with
    | none =>
      have hb : bVal (fun _ => opIsN true (optD none) .non) ρ1 = pure false := rfl
      rw [hb]
      simp [goodL, e]
    | some r =>
      have hb : bVal (fun _ => opIsN true (optD (some r)) .non) ρ1 = pure true := rfl
      rw [hb]
      simp [goodL, e]
theorem zip_l {a b : List D} : zipL [.tup a, .lst b] = pure ((a.zip b).map fun p => D.tup [p.1, p.2]) := rfl
theorem rest_fix {F : Int → Int} : ∀ (m : Nat) (p x : Int), restN F m p = some x → F x = 0
  | 0, _, _, e => by cases e
  | m + 1, p, x, e => by
    unfold restN at e
    split at e
    · rename_i h
      cases e
      simpa using h
    · exact rest_fix m _ x e
theorem rest_at {F : Int → Int} {m : Nat} {x : Int} (h : F x = 0) : restN F (m + 1) x = some x := by
  unfold restN
  simp [h]
theorem later_fix {F : Int → Int → Int} {N : Nat} : ∀ (xs : List Int) (q pl : Int) (ss : List (Int × Int)) (t : SS), xs ≠ [] → laterF F N q pl ss xs = some t → F t.1 t.2.1 = 0
  | [], _, _, _, _, h, _ => absurd rfl h
  | x :: xs, q, pl, ss, t, _, e => by
    unfold laterF at e
    split at e
    · cases e
    · rename_i r hr
      cases xs with
      | nil =>
        simp [laterF] at e
        subst e
        exact rest_fix _ _ _ hr
      | cons y ys => exact later_fix (y :: ys) x r _ t (by simp) e
/-! tops -/
def preS (h : Int → Int) : Int → List Int → List Int
  | _, [] => []
  | acc, x :: xs => acc :: preS h (acc + h x) xs
theorem pre_eq {h : Int → Int} : ∀ (l p : List Int), (p ++ l).Nodup → l.map (fun i => (((p ++ l).take ((p ++ l).findIdx fun x => x == i)).map h).sum) = preS h (p.map h).sum l
  | [], _, _ => rfl
  | x :: l, p, hn => by
    have hx : ∀ y ∈ p, y ≠ x := fun y hy e => by
      have := (List.nodup_append.mp hn).2.2
      exact this y hy x List.mem_cons_self e
    have hi : (p ++ x :: l).findIdx (fun y => y == x) = p.length := by
      rw [List.findIdx_append]
      have : List.findIdx (fun y => y == x) p = p.length := List.findIdx_eq_length.mpr fun y hy => by simpa using hx y hy
      rw [this]
      simp [List.findIdx_cons]
    have ih := pre_eq (h := h) l (p ++ [x]) (by simpa using hn)
    simp only [List.append_assoc, List.singleton_append] at ih
    rw [List.map_cons, ih, hi, preS]
    simp
theorem pre_le {h : Int → Int} : ∀ (l : List Int) (acc : Int), (∀ x ∈ l, 0 ≤ h x) → ∀ y ∈ preS h acc l, acc ≤ y
  | [], _, _, y, hy => by cases hy
  | x :: l, acc, hh, y, hy => by
    rcases List.mem_cons.mp hy with rfl | hy
    · exact Int.le_refl _
    · have := pre_le l (acc + h x) (fun z hz => hh z (List.mem_cons_of_mem _ hz)) y hy
      have := hh x List.mem_cons_self
      omega
theorem pre_pw {h : Int → Int} : ∀ (l : List Int) (acc : Int), (∀ x ∈ l, 0 ≤ h x) → (preS h acc l).Pairwise (· ≤ ·)
  | [], _, _ => List.Pairwise.nil
  | x :: l, acc, hh => by
    refine List.Pairwise.cons (fun y hy => ?_) (pre_pw l _ fun z hz => hh z (List.mem_cons_of_mem _ hz))
    have := pre_le l (acc + h x) (fun z hz => hh z (List.mem_cons_of_mem _ hz)) y hy
    have := hh x List.mem_cons_self
    omega
theorem ints_nodup {n : Nat} : ((List.range n).map fun (k : Nat) => (k : Int)).Nodup :=
  List.Pairwise.map _ (fun a b h e => h (by exact_mod_cast e)) List.nodup_range
theorem ord_nodup {n : Nat} {held pl : Int} : (ordL n held pl).Nodup := by
  have h1 : (ixL n held).Nodup := List.Nodup.sublist List.filter_sublist ints_nodup
  have hp : (ordL n held pl).Perm (held :: ixL n held) := by
    unfold ordL
    rw [List.append_assoc]
    have := List.perm_middle (a := held) (l₁ := (ixL n held).take pl.toNat) (l₂ := (ixL n held).drop pl.toNat)
    rw [List.take_append_drop] at this
    exact this
  refine hp.nodup_iff.mpr (List.nodup_cons.mpr ⟨fun h => ?_, h1⟩)
  exact (ixL_mem.mp h).2 rfl
theorem ord_perm {n : Nat} {held pl : Int} (h0 : 0 ≤ held) (h1 : held < n) : (ordL n held pl).Perm ((List.range n).map fun (k : Nat) => (k : Int)) := by
  refine (List.perm_ext_iff_of_nodup ord_nodup ints_nodup).mpr fun i => ?_
  rw [ordL_mem h0 h1]
  simp only [List.mem_map, List.mem_range]
  exact ⟨fun h => ⟨i.toNat, by omega, by omega⟩, fun ⟨k, h, e⟩ => by omega⟩
theorem tops_sorted {hs : List Int} {held grab hh pl : Int} (hd : Drg hs held grab hh) : (ordL hs.length held pl).map (topOf hs held pl) = sortIn (((List.range hs.length).map fun (k : Nat) => (k : Int)).map (topOf hs held pl)) := by
  have hpre : (ordL hs.length held pl).map (topOf hs held pl) = preS (hgt hs) 0 (ordL hs.length held pl) := by
    have := pre_eq (h := hgt hs) (ordL hs.length held pl) [] (by simpa using ord_nodup)
    simp only [List.nil_append, List.map_nil, List.sum_nil] at this
    exact this
  refine sortIn_eq ((ord_perm hd.h0 hd.h1).map _) ?_
  rw [hpre]
  refine pre_pw _ _ fun x hx => ?_
  obtain ⟨x0, x1⟩ := (ordL_mem hd.h0 hd.h1).mp hx
  have e := hgt_at (hs := hs) x0 x1
  have hm : hgt hs x ∈ hs := by
    unfold hgt
    cases e2 : atI hs x with
    | none =>
      have : atI (hs.map D.int) x = (atI hs x).map D.int := by
        unfold atI
        simp
        rfl
      rw [this, e2] at e
      cases e
    | some y =>
      have e3 := e2
      unfold atI at e3
      obtain ⟨j, _, hj⟩ := Option.bind_eq_some_iff.mp e3
      exact List.mem_of_getElem? hj
  have := (hd.bd _ hm).1
  omega

abbrev K24_1_1 : DenS := dAsg (dCall (arity 2 l_source) (dCons (dVar 0) (dCons (dVar 1) (dNil)))) (gSet 2)
abbrev K24_1_2 : DenS := dAsg (dTup (dCons (dCall (arity 1 l_rule) (dCons (dVar 2) (dNil))) (dCons (dCall (arity 2 l_drag) (dCons (dVar 2) (dCons (dC (.int 6)) (dNil)))) (dNil)))) (gOf (.tup [.nm 3, .nm 4]))
abbrev K24_1_3 : DenS := dAsg (dCall (on1 biTuple) (dCons (dLc (iRange1 (dCons (dC (.int 8)) (dNil))) [14] (.nm 14) (bTrue) (dCall (arity 2 l_pointer) (dCons (dVar 2) (dCons (dVar 4) (dNil))))) (dNil))) (gSet 5)
abbrev K24_1_4 : DenS := dAsg (dTup (dCons (dCall (arity 2 fun ds => mkO "Pull" p_Pull_init ds) (dCons (dVar 3) (dCons (dVar 4) (dNil)))) (dCons (dCall (arity 3 p_way) (dCons (dVar 3) (dCons (dVar 4) (dCons (dVar 5) (dNil))))) (dNil)))) (gOf (.tup [.nm 6, .nm 7]))
abbrev K24_1_5 : DenS := dIfS (bVal (d2 (opEq true) (dLc (iVal (dVar 5)) [8] (.nm 8) (bTrue) (dCall (arity 2 l_moved) (dCons (dVar 6) (dCons (dVar 8) (dNil))))) (dVar 7))) (dRet (dC (.bl false))) (dSkip)
abbrev K24_1_6 : DenS := dAsg (dCall (on1 biTuple) (dCons (dLc (iZip (dCons (dVar 5) (dCons (dVar 7) (dNil)))) [8, 9] (.tup [.nm 8, .nm 9]) (bVal (d2 (opIsN true) (dVar 9) (dC .non))) (dVar 8)) (dNil))) (gSet 10)
abbrev K24_1_7 : DenS := dAsg (dCall (arity 2 fun ds => mkO "Pull" p_Pull_init ds) (dCons (dVar 3) (dCons (dVar 4) (dNil)))) (gSet 11)
abbrev K24_1_8 : DenS := dAug 11 (dVar 10) (iaddC "Pull" p_Pull_iadd)
abbrev K24_1_9 : DenS := dIfS (dBOr (dBNot (bVal (d2 (opC "Pull" p_Pull_eq) (dVar 6) (dVar 11)))) (dBOr (bVal (d2 (opEq true) (dListG "Pull" "log" p_Pull_log (dVar 6)) (dListG "Pull" "log" p_Pull_log (dVar 11)))) (dBOr (bVal (d2 (opCT "Pull" p_Pull_eq) (dVar 6) (dVar 4))) (bVal (d2 (opEq true) (dProp "Pull" p_Pull_order (dVar 6)) (dProp "Pull" p_Pull_order (dVar 11))))))) (dRet (dC (.bl false))) (dSkip)
abbrev K24_1_10 : DenS := dIfS (dBAnd (bVal (d2 (opEq true) (dVar 10) (dTup (dNil)))) (bVal (d2 (opEq true) (dCall (arity 4 p_settle) (dCons (dVar 3) (dCons (dVar 4) (dCons (dProp "Pull" p_Pull_pointer (dVar 6)) (dCons (dProp "Pull" p_Pull_place (dVar 6)) (dNil)))))) (dProp "Pull" p_Pull_place (dVar 6))))) (dRet (dC (.bl false))) (dSkip)
abbrev K24_1_11_1 : DenS := dIfS (bVal (d2 (opEq true) (d2 (inC false "Pull" p_Pull_contains) (dVar 9) (dVar 6)) (d2 (opEq false) (dCall (arity 4 p_goes) (dCons (dVar 3) (dCons (dVar 4) (dCons (dProp "Pull" p_Pull_pointer (dVar 6)) (dCons (dVar 9) (dNil)))))) (dC (.str "rests"))))) (dRet (dC (.bl false))) (dSkip)
abbrev K24_1_11t_1 : DenS := K24_1_11_1
abbrev K24_1_11 : DenS := dFor (iRange1 (dCons (dCall (on1 biLen) (dCons (d2 opIx (dVar 4) (dC (.int 0))) (dNil))) (dNil))) (gOf (.nm 9)) K24_1_11t_1
abbrev K24_1_12 : DenS := dAsg (dCall (on1 biSortI) (dCons (dLc (iRange1 (dCons (dCall (on1 biLen) (dCons (d2 opIx (dVar 4) (dC (.int 0))) (dNil))) (dNil))) [15] (.nm 15) (bTrue) (dCall (on1 biInt) (dCons (d2 (ixC "Pull" p_Pull_getitem) (dVar 6) (dVar 15)) (dNil)))) (dNil))) (gSet 12)
abbrev K24_1_13 : DenS := dIfS (dBOr (bVal (d2 (opEq true) (dLc (iVal (dProp "Pull" p_Pull_order (dVar 6))) [15] (.nm 15) (bTrue) (d2 (ixC "Pull" p_Pull_getitem) (dVar 6) (dVar 15))) (dVar 12))) (bVal (d2 (opEq true) (dProp "Pull" p_Pull_drawn (dVar 6)) (d2 opSub (dProp "Pull" p_Pull_pointer (dVar 6)) (d2 opIx (dVar 4) (dC (.int 2))))))) (dRet (dC (.bl false))) (dSkip)
abbrev K24_1_14_1 : DenS := dExpr (dMethC "Pull" "undo" 1 p_Pull_undo (dVar 6) dNil)
abbrev K24_1_14t_1 : DenS := K24_1_14_1
abbrev K24_1_14 : DenS := dFor (iVal (dVar 10)) (gOf (.nm 8)) K24_1_14t_1
abbrev K24_1_15 : DenS := dIfS (dBOr (dBNot (bVal (d2 (opC "Pull" p_Pull_eq) (dVar 6) (dCall (arity 2 fun ds => mkO "Pull" p_Pull_init ds) (dCons (dVar 3) (dCons (dVar 4) (dNil))))))) (dBOr (bVal (d2 (opEq true) (dProp "Pull" p_Pull_place (dVar 6)) (d2 opIx (dVar 4) (dC (.int 1))))) (bVal (dCall (boolC "Pull" p_Pull_bool) (dCons (dVar 6) (dNil)))))) (dRet (dC (.bl false))) (dSkip)
abbrev K24_1_16 : DenS := dAsg (d2 opAdd (dTup (dCons (dCall (on1 biTuple) (dCons (dLc (iVal (d2 opIx (dVar 4) (dC (.int 0)))) [16] (.nm 16) (bTrue) (d2 opAdd (dVar 16) (dC (.int 1)))) (dNil))) (dNil))) (dSl (dVar 4) (oSome (dC (.int 1))) (oNone))) (gSet 13)
abbrev K24_1_17 : DenS := dIfS (dBOr (bVal (d2 (opC "Pull" p_Pull_eq) (dVar 6) (dCall (arity 2 fun ds => mkO "Pull" p_Pull_init ds) (dCons (dVar 3) (dCons (dVar 13) (dNil)))))) (dBAnd (bVal (d2 (opC "Pull" p_Pull_eq) (dVar 6) (dCall (arity 2 fun ds => mkO "Pull" p_Pull_init ds) (dCons (dTup (dCons (d2 opIx (dVar 3) (dC (.int 1))) (dCons (d2 opIx (dVar 3) (dC (.int 0))) (dNil)))) (dCons (dVar 4) (dNil)))))) (bVal (d2 (opEq true) (d2 opIx (dVar 3) (dC (.int 0))) (d2 opIx (dVar 3) (dC (.int 1))))))) (dRet (dC (.bl false))) (dSkip)
abbrev K24_1t_17 : DenS := K24_1_17
abbrev K24_1t_16 : DenS := dSeq K24_1_16 K24_1t_17
abbrev K24_1t_15 : DenS := dSeq K24_1_15 K24_1t_16
abbrev K24_1t_14 : DenS := dSeq K24_1_14 K24_1t_15
abbrev K24_1t_13 : DenS := dSeq K24_1_13 K24_1t_14
abbrev K24_1t_12 : DenS := dSeq K24_1_12 K24_1t_13
abbrev K24_1t_11 : DenS := dSeq K24_1_11 K24_1t_12
abbrev K24_1t_10 : DenS := dSeq K24_1_10 K24_1t_11
abbrev K24_1t_9 : DenS := dSeq K24_1_9 K24_1t_10
abbrev K24_1t_8 : DenS := dSeq K24_1_8 K24_1t_9
abbrev K24_1t_7 : DenS := dSeq K24_1_7 K24_1t_8
abbrev K24_1t_6 : DenS := dSeq K24_1_6 K24_1t_7
abbrev K24_1t_5 : DenS := dSeq K24_1_5 K24_1t_6
abbrev K24_1t_4 : DenS := dSeq K24_1_4 K24_1t_5
abbrev K24_1t_3 : DenS := dSeq K24_1_3 K24_1t_4
abbrev K24_1t_2 : DenS := dSeq K24_1_2 K24_1t_3
abbrev K24_1t_1 : DenS := dSeq K24_1_1 K24_1t_2
abbrev K24_1 : DenS := dFor (iRange1 (dCons (d2 opAdd (dC (.int 1)) (dCall (on2 biMin) (dCons (dCall (on1 biLen) (dCons (dVar 0) (dNil))) (dCons (dC (.int 8)) (dNil))))) (dNil))) (gOf (.nm 1)) K24_1t_1
abbrev K24_2 : DenS := dRet (dC (.bl true))
abbrev K24t_2 : DenS := K24_2
abbrev K24t_1 : DenS := dSeq K24_1 K24t_2
abbrev CINV (ns : List Int) (r : Fl) : Prop := ∃ o1 o2 o3 o4 o5 o6 o7 o8 o9 o10 o11 o12 o13, r = .nx [some (.scr ns), o1, o2, o3, o4, o5, o6, o7, o8, o9, o10, o11, o12, o13, none, none, none]
theorem dep_dg {hs : List Int} {held grab : Int} : Dep 3 (dgD hs held grab) := by
  refine dep_tup.mpr fun d hd => ?_
  simp at hd
  rcases hd with rfl | rfl | rfl
  · refine dep_tup.mpr fun d hd => ?_
    obtain ⟨s, _, rfl⟩ := List.mem_map.mp hd
    exact dep_int
  · exact dep_int
  · exact dep_int
theorem eq_new {st : Store} {n p : Nat} {a b c d : D} {hs ht : List Int} {held grab hh h2 grab2 hh2 : Int} {s : SS} {h : List SS} {Q : D → Store → Prop} (hc : HAt st n p (.tup [a, b]) (dgD hs held grab) h s) (ha : IsCond a) (hb : IsCond b) (hcc : IsCond c) (hdd : IsCond d) (h1 : Drg hs held grab hh) (h2' : Drg ht h2 grab2 hh2)
    (k : Q (.bl (deq (.tup [a, b]) (.tup [c, d]) && (deq (dgD hs held grab) (dgD ht h2 grab2) && (s.1 == (ht.take h2.toNat).sum + grab2 && s.2.1 == h2)))) (st ++ [puC (.tup [c, d]) (dgD ht h2 grab2) (nowD ((ht.take h2.toNat).sum + grab2) h2 []) (st.length + 1), Cell.lst []])) :
    T (mkO "Pull" p_Pull_init [.tup [c, d], dgD ht h2 grab2]) st (fun y s => T (opC "Pull" p_Pull_eq (.ref n) y) s Q) := by
  refine (pull_new hcc hdd h2').mono fun y s2 hy => ?_
  obtain ⟨rfl, rfl⟩ := hy
  have hn : n < st.length := (List.getElem?_eq_some_iff.mp hc.c.c).1
  have e1 : (st ++ [puC (.tup [c, d]) (dgD ht h2 grab2) (nowD ((ht.take h2.toNat).sum + grab2) h2 []) (st.length + 1), Cell.lst []])[n]? = some (puC (.tup [a, b]) (dgD hs held grab) (nD s) p) := by
    rw [List.getElem?_append_left hn]
    exact hc.c.c
  have e2 : (st ++ [puC (.tup [c, d]) (dgD ht h2 grab2) (nowD ((ht.take h2.toNat).sum + grab2) h2 []) (st.length + 1), Cell.lst []])[st.length]? = some (puC (.tup [c, d]) (dgD ht h2 grab2) (nowD ((ht.take h2.toNat).sum + grab2) h2 []) (st.length + 1)) := by
    rw [List.getElem?_append_right (Nat.le_refl _)]
    simp
  rw [t_opC e1 e2]
  refine (pull_eq e1 e2 (rdep ha hb) (rdep hcc hdd) (dep_dg.mono (by decide)) (dep_dg.mono (by decide))).mono fun y s2 hy => ?_
  obtain ⟨rfl, rfl⟩ := hy
  exact k
theorem HAt.app {st : Store} {n p : Nat} {r dr : D} {h : List SS} {s : SS} {t : Store} (hc : HAt st n p r dr h s) : HAt (st ++ t) n p r dr h s := by
  have h1 : n < st.length := (List.getElem?_eq_some_iff.mp hc.c.c).1
  have h2 : p < st.length := (List.getElem?_eq_some_iff.mp hc.c.l).1
  exact ⟨⟨by rw [List.getElem?_append_left h1]; exact hc.c.c, by rw [List.getElem?_append_left h2]; exact hc.c.l⟩⟩
theorem drg_up {hs : List Int} {held grab hh : Int} (h : Drg hs held grab hh) (h40 : ∀ x ∈ hs, x ≤ 40) : Drg (hs.map (· + 1)) held grab (hh + 1) := by
  have hB := bb1
  refine ⟨by simpa using h.l2, by simpa using h.l6, fun x hx => ?_, h.h0, by simpa using h.h1, h.g0, ?_, by have := h.g1; omega, ?_⟩
  · obtain ⟨y, hy, rfl⟩ := List.mem_map.mp hx
    have := (h.bd y hy).1
    have := h40 y hy
    omega
  · have : atI (hs.map (· + 1)) held = (atI hs held).map (· + 1) := by
      unfold atI
      simp
      rfl
    rw [this, h.at_]
    rfl
  · exact List.mem_map.mpr ⟨hh, h.hh, rfl⟩
theorem K24_p16 {ns : List Int} {a b : D} {hs : List Int} {held grab hh q0 : Int} {st : Store} {n p : Nat} {o1 o2 o5 o7 o8 o9 o10 o11 o12 o13 : Option D} (ha : IsCond a) (hb : IsCond b) (hd : Drg hs held grab hh) (h40 : ∀ x ∈ hs, x ≤ 40)
    (hc : HAt st n p (.tup [a, b]) (dgD hs held grab) [] (q0, held, [])) :
    T (K24_1t_16 [some (.scr ns), o1, o2, some (.tup [a, b]), some (dgD hs held grab), o5, some (.ref n), o7, o8, o9, o10, o11, o12, o13, none, none, none]) st (fun r _ => CINV ns r) := by
  have cut : ∀ x y z : D, cutL [x, y, z] (some 1) none = [y, z] := fun _ _ _ => rfl
  have lc : lcL (.nm 16) bTrue (d2 opAdd (dVar 16) (dC (.int 1))) [some (.scr ns), o1, o2, some (.tup [a, b]), some (dgD hs held grab), o5, some (.ref n), o7, o8, o9, o10, o11, o12, o13, none, none, none] (hs.map D.int) = pure ((hs.map (· + 1)).map D.int) := by
    rw [lc_map (p := fun _ => true) (g := fun d => match d with | .int q => .int (q + 1) | d => d)]
    · rw [List.filter_eq_self.mpr (fun _ _ => rfl), List.map_map, List.map_map]
      rfl
    · intro d hd
      obtain ⟨q, hq, rfl⟩ := List.mem_map.mp hd
      exact ⟨_, rfl, rfl, fun _ => rfl⟩
  have hu := drg_up hd h40
  have ne : deq (dgD hs held grab) (dgD (hs.map (· + 1)) held grab) = false := by
    have := hd.l2
    match hs, this with
    | x :: xs, _ =>
      have : (x == x + 1) = false := by simp; omega
      simp [this]
  generalize (hs.map (· + 1)) = ht at lc hu ne
  rw [t_asg]
  simp -implicitDefEqProofs [cut, wipeE]
  have := hd.l6
  refine ⟨by omega, ?_⟩
  rw [lc]
  simp -implicitDefEqProofs
  rw [t_ifs1]
  simp -implicitDefEqProofs
  refine eq_new hc ha hb ha hb hd hu ?_
  rw [ne]
  simp -implicitDefEqProofs
  refine eq_new hc.app ha hb hb ha hd hd ?_
  generalize hx : (deq (.tup [a, b]) (.tup [b, a]) && _) = x
  simp -implicitDefEqProofs
  refine ⟨fun e => ?_, fun _ => ⟨_, _, _, _, _, _, _, _, _, _, _, _, _, rfl⟩⟩
  have e2 : deq a b = true := by
    rw [e] at hx
    have := (Bool.and_eq_true _ _ ▸ hx).1
    simp at this
    exact this.1
  rw [eq_of ((isCond_dep ha).mono (by decide)) ((isCond_dep hb).mono (by decide)), e2]
  simp -implicitDefEqProofs
  exact ⟨_, _, _, _, _, _, _, _, _, _, _, _, _, rfl⟩
theorem undo_loop {n p : Nat} {r dr : D} {f : D → MP.Env → M Fl} {o1 o2 o3 o4 o5 o7 o9 o10 o11 o12 o13 o14 o15 o16 o0 : Option D} (hf : ∀ d ρ, f d ρ = (dExpr (dMethC "Pull" "undo" 1 p_Pull_undo (dVar 6) dNil)) (ρ.set 8 (some d))) (s0 : SS) :
    ∀ (xs : List D) (st : Store) (h : List SS) (s : SS) (more : List SS) (o8 : Option D), HAt st n p r dr h s → h ++ [s] = s0 :: more → more.length = xs.length → more.length < 60 →
      T (forL f xs [o0, o1, o2, o3, o4, o5, some (.ref n), o7, o8, o9, o10, o11, o12, o13, o14, o15, o16]) st
        (fun r' s' => HAt s' n p r dr [] s0 ∧ ∃ o8, r' = .nx [o0, o1, o2, o3, o4, o5, some (.ref n), o7, o8, o9, o10, o11, o12, o13, o14, o15, o16])
  | [], st, h, s, more, o8, hc, e, el, _ => by
    have : more = [] := List.length_eq_zero_iff.mp el
    subst this
    have : h = [] ∧ s = s0 := by
      cases h with
      | nil => simpa using e
      | cons x xs => simp at e
    obtain ⟨rfl, rfl⟩ := this
    exact ⟨hc, _, rfl⟩
  | x :: xs, st, h, s, more, o8, hc, e, el, hl => by
    unfold forL
    rw [hf]
    simp only [List.set]
    rw [t_bind, t_exp1]
    have hne : h ≠ [] := by
      intro e2
      subst e2
      simp at e
      have := e.2
      subst this
      simp at el
    obtain ⟨g, t, rfl⟩ : ∃ g t, h = g ++ [t] := ⟨h.dropLast, h.getLast hne, (List.dropLast_concat_getLast hne).symm⟩
    have hc' := hc.c
    rw [List.map_append] at hc'
    have hdep : Dep 63 (.lst (g.map nD ++ [nD t])) := dep_lst.mpr fun d hd => by
      rcases List.mem_append.mp hd with hd | hd
      · obtain ⟨u, _, rfl⟩ := List.mem_map.mp hd
        exact dep_now.mono (by decide)
      · rw [List.mem_singleton.mp hd]
        exact dep_now.mono (by decide)
    rw [t_meth rfl hc'.c (by decide +kernel)]
    simp -implicitDefEqProofs
    refine (pull_undo hc' hdep).mono fun d s' hd => ?_
    obtain ⟨rfl, rfl⟩ := hd
    show T (forL f xs _) _ _
    obtain ⟨more', y, rfl⟩ : ∃ more' y, more = more' ++ [y] := by
      have : more ≠ [] := by intro e2; subst e2; simp at el
      exact ⟨more.dropLast, more.getLast this, (List.dropLast_concat_getLast this).symm⟩
    have e3 : g ++ [t] = s0 :: more' := by
      have e4 : (g ++ [t]) ++ [s] = (s0 :: more') ++ [y] := by simpa using e
      exact (List.append_inj' e4 rfl).1
    exact undo_loop hf s0 xs _ g t more' _ ⟨puM_now hc'⟩ e3 (by simp at el ⊢; omega) (by simp at hl; omega)
theorem t_propV {c : Str} {p : List D → M D} {f : Den} {ρ : MP.Env} {st : Store} {n : Nat} {fs : List Str} {ds : List D} {Q : D → Store → Prop} (hf : f ρ = pure (.ref n)) (hn : st[n]? = some (.ins c fs ds)) (h : T (p [.ref n]) st Q) : T (dProp c p f ρ) st Q :=
  t_prop (by rw [hf]; exact ⟨n, fs, ds, rfl, hn, h⟩)
theorem K24_p14 {ns : List Int} {a b : D} {hs : List Int} {held grab hh q0 : Int} {st : Store} {n p : Nat} {o1 o2 o5 o7 o8 o9 o11 o12 o13 : Option D} {good : List D} {h : List SS} {s : SS} {more : List SS} (ha : IsCond a) (hb : IsCond b) (hd : Drg hs held grab hh) (h40 : ∀ x ∈ hs, x ≤ 40)
    (hq0 : q0 = (hs.take held.toNat).sum + grab)
    (hc : HAt st n p (.tup [a, b]) (dgD hs held grab) h s) (hm : h ++ [s] = (q0, held, []) :: more) (hml : more.length = good.length) (hmk : more.length < 60) :
    T (K24_1t_14 [some (.scr ns), o1, o2, some (.tup [a, b]), some (dgD hs held grab), o5, some (.ref n), o7, o8, o9, some (.tup good), o11, o12, o13, none, none, none]) st (fun r _ => CINV ns r) := by
  rw [t_for]
  simp -implicitDefEqProofs
  refine (undo_loop (fun _ _ => rfl) (q0, held, []) good st h s more _ hc hm hml hmk).mono fun r s1 hr => ?_
  obtain ⟨hc1, o8', rfl⟩ := hr
  simp -implicitDefEqProofs
  rw [t_ifs]
  simp -implicitDefEqProofs [dBNot]
  refine eq_new hc1 ha hb ha hb hd hd ?_
  have e1 : deq (.tup [a, b]) (.tup [a, b]) = true := deq_self (rdep ha hb)
  have e2 : deq (dgD hs held grab) (dgD hs held grab) = true := deq_self (dep_dg.mono (by decide))
  rw [e1, e2, ← hq0]
  simp -implicitDefEqProofs
  have hc2 : HAt (s1 ++ [puC (D.tup [a, b]) (dgD hs held grab) (nowD q0 held []) (List.length s1 + 1), Cell.lst []]) n p (.tup [a, b]) (dgD hs held grab) [] (q0, held, []) := hc1.app
  refine t_propV rfl hc2.c.c ((pull_place hc2.c.c).mono fun d s2 hd => ?_)
  obtain ⟨rfl, rfl⟩ := hd
  rw [q_refl dep_int]
  simp -implicitDefEqProofs
  refine t_boolC hc2.c.c ((pull_bool hc2.c.c).mono fun d s2 hd => ?_)
  obtain ⟨rfl, rfl⟩ := hd
  refine ⟨_, rfl, ?_⟩
  simp -implicitDefEqProofs
  exact K24_p16 ha hb hd h40 hc2
theorem deq_ii {x : Int} : deq (.int x) (.int x) = true := deq_self dep_int
theorem go_rests {z : Int} (hv : z = 1 ∨ z = -1 ∨ z = 0) : opEq false (goW z) (.str "rests") = pure (.bl (z == 0)) := by
  have d1 : Dep 64 (.str "rests") := dep_str (by decide +kernel)
  have d3 : Dep 64 (.str "down") := dep_str (by decide +kernel)
  have d4 : Dep 64 (.str "up") := dep_str (by decide +kernel)
  rcases hv with rfl | rfl | rfl
  · show opEq false (.str "down") (.str "rests") = _
    rw [eq_of d3 d1]
    rfl
  · show opEq false (.str "up") (.str "rests") = _
    rw [eq_of d4 d1]
    rfl
  · show opEq false (.str "rests") (.str "rests") = _
    rw [eq_of d1 d1]
    rfl
theorem pl_loop {a b : D} {hs : List Int} {held grab hh : Int} {f : D → MP.Env → M Fl} {n p : Nat} {h : List SS} {s : SS} {st : Store} {o0 o1 o2 o5 o7 o8 o10 o11 o12 o13 o14 o15 o16 : Option D} (ha : IsCond a) (hb : IsCond b) (hd : Drg hs held grab hh) (hq : Qb s.1) (hc : HAt st n p (.tup [a, b]) (dgD hs held grab) h s)
    (hf : ∀ d ρ, f d ρ = (dIfS (bVal (d2 (opEq true) (d2 (inC false "Pull" p_Pull_contains) (dVar 9) (dVar 6)) (d2 (opEq false) (dCall (arity 4 p_goes) (dCons (dVar 3) (dCons (dVar 4) (dCons (dProp "Pull" p_Pull_pointer (dVar 6)) (dCons (dVar 9) (dNil)))))) (dC (.str "rests"))))) (dRet (dC (.bl false))) (dSkip)) (ρ.set 9 (some d))) :
    ∀ (xs : List Int) (o9 : Option D), (∀ x ∈ xs, 0 ≤ x ∧ x < hs.length) → T (forL f (xs.map D.int) [o0, o1, o2, some (.tup [a, b]), some (dgD hs held grab), o5, some (.ref n), o7, o8, o9, o10, o11, o12, o13, o14, o15, o16]) st
        (fun r' s' => s' = st ∧ ∃ o9, r' = .nx [o0, o1, o2, some (.tup [a, b]), some (dgD hs held grab), o5, some (.ref n), o7, o8, o9, o10, o11, o12, o13, o14, o15, o16])
  | [], o9, _ => ⟨rfl, _, rfl⟩
  | x :: xs, o9, hx => by
    obtain ⟨x0, x1⟩ := hx x List.mem_cons_self
    rw [List.map_cons]
    unfold forL
    rw [hf]
    simp only [List.set]
    rw [t_bind, t_ifs1]
    simp -implicitDefEqProofs
    refine t_inC hc.c.c ((pull_in ha hb hc.c.c hd hq x0 x1).mono fun d s2 hdd => ?_)
    obtain ⟨rfl, rfl⟩ := hdd
    refine ⟨_, rfl, ?_⟩
    simp -implicitDefEqProofs
    refine t_propV rfl hc.c.c ((pull_pointer hc.c.c).mono fun d s2 hdd => ?_)
    obtain ⟨rfl, rfl⟩ := hdd
    rw [goes_eq ha hb hd hq x0 x1]
    have hv := (step_bd (a := a) (b := b) (hs := hs) (held := held) (grab := grab) (hh := hh) (q := s.1) x0 x1).1
    rw [t_pure, go_rests hv]
    simp -implicitDefEqProofs
    exact pl_loop ha hb hd hq hc hf xs _ fun y hy => hx y (List.mem_cons_of_mem _ hy)
theorem tops_lc {a b : D} {hs : List Int} {held grab hh : Int} {n p : Nat} {h : List SS} {s : SS} {st : Store} {f : Den} {ρ : MP.Env} (hd : Drg hs held grab hh) (hc : HAt st n p (.tup [a, b]) (dgD hs held grab) h s) (s0 : 0 ≤ s.2.1) (s1 : s.2.1 < hs.length)
    (hf : ∀ x : Int, ∃ ρ1, (Tg.nm 15).bind (.int x) ρ = some ρ1 ∧ ∀ Q, T (f ρ1) st Q = T (p_Pull_getitem [.ref n, .int x]) st Q ∨ T (f ρ1) st Q = T (p_Pull_getitem [.ref n, .int x]) st (fun d s => T (biInt d) s Q)) {xs : List Int} (hx : ∀ x ∈ xs, 0 ≤ x ∧ x < hs.length) :
    T (lcL (.nm 15) bTrue f ρ (xs.map D.int)) st (fun r s' => r = (xs.map (topOf hs held s.2.1)).map D.int ∧ s' = st) := by
  refine (lc_T (p := fun _ => true) (g := fun d => match d with | .int x => .int (topOf hs held s.2.1 x) | d => d) fun d hd' => ?_).mono fun r s' hr => ?_
  · obtain ⟨x, hxx, rfl⟩ := List.mem_map.mp hd'
    obtain ⟨ρ1, e1, e2⟩ := hf x
    refine ⟨ρ1, e1, ⟨rfl, rfl⟩, fun _ => ?_⟩
    obtain ⟨x0, x1⟩ := hx x hxx
    have k := pull_getitem hc.c.c hd s0 s1 x0 x1
    rcases e2 (fun d s' => d = .int (topOf hs held s.2.1 x) ∧ s' = st) with e2 | e2
    · rw [e2]
      exact k
    · rw [e2]
      refine k.mono fun d s' hd => ?_
      obtain ⟨rfl, rfl⟩ := hd
      exact ⟨rfl, rfl⟩
  · obtain ⟨rfl, rfl⟩ := hr
    rw [List.filter_eq_self.mpr (fun _ _ => rfl), List.map_map, List.map_map]
    exact ⟨rfl, rfl⟩
@[irreducible] def TI {α : Type} (m : M α) (st : Store) (Q : α → Store → Prop) : Prop := T m st Q
theorem TI_eq {α : Type} {m : M α} {st : Store} {Q : α → Store → Prop} : T m st Q = TI m st Q := by
  unfold TI
  rfl
theorem K24_p12 {ns : List Int} {a b : D} {hs : List Int} {held grab hh q0 : Int} {st : Store} {n p : Nat} {o1 o2 o5 o7 o8 o9 o11 o12 o13 : Option D} {good : List D} {h : List SS} {s : SS} {more : List SS} (ha : IsCond a) (hb : IsCond b) (hd : Drg hs held grab hh) (h40 : ∀ x ∈ hs, x ≤ 40)
    (hq0 : q0 = (hs.take held.toNat).sum + grab) (s0 : 0 ≤ s.2.1) (s1 : s.2.1 < hs.length)
    (hc : HAt st n p (.tup [a, b]) (dgD hs held grab) h s) (hm : h ++ [s] = (q0, held, []) :: more) (hml : more.length = good.length) (hmk : more.length < 60)
    {ρ : MP.Env} (hρ : ρ = [some (.scr ns), o1, o2, some (.tup [a, b]), some (dgD hs held grab), o5, some (.ref n), o7, o8, o9, some (.tup good), o11, o12, o13, none, none, none]) :
    TI (K24_1t_12 ρ) st (fun r _ => CINV ns r) := by
  rw [← TI_eq]
  subst hρ
  have hl6 := hd.l6
  have e1 := tops_lc (f := (dCall (on1 biInt) (dCons (d2 (ixC "Pull" p_Pull_getitem) (dVar 6) (dVar 15)) (dNil)))) (ρ := [some (.scr ns), o1, o2, some (.tup [a, b]), some (dgD hs held grab), o5, some (.ref n), o7, o8, o9, some (.tup good), o11, o12, o13, none, none, none]) hd hc s0 s1
    (fun x => ⟨_, rfl, fun Q => .inr (by
      simp -implicitDefEqProofs
      rw [t_ixC hc.c.c])⟩) (xs := ((List.range hs.length).map fun (k : Nat) => (k : Int))) (fun x hx => by
      obtain ⟨k, hk, rfl⟩ := List.mem_map.mp hx
      have := List.mem_range.mp hk
      omega)
  rw [← rangeL_ints] at e1
  rw [t_asg]
  simp -implicitDefEqProofs [wipeE]
  refine ⟨fun _ => ⟨by rw [rangeL_len]; omega, ?_⟩, by omega⟩
  refine e1.mono fun r s' hr => ?_
  obtain ⟨rfl, rfl⟩ := hr
  rw [show biSortI (.lst ((((List.range hs.length).map fun (k : Nat) => (k : Int)).map (topOf hs held s.2.1)).map D.int)) = pure (.lst (((ordL hs.length held s.2.1).map (topOf hs held s.2.1)).map D.int)) from by
    rw [tops_sorted hd]
    unfold biSortI
    simp only [intsD_map]
    rw [show decide _ = true from decide_eq_true (by simp; omega)]
    rfl]
  generalize hT : (ordL hs.length held s.2.1).map (topOf hs held s.2.1) = tops
  simp -implicitDefEqProofs
  rw [t_ifs]
  simp -implicitDefEqProofs
  refine t_propV rfl hc.c.c ((pull_order hc.c.c hd s0 s1).mono fun d s2 hdd => ?_)
  obtain ⟨rfl, rfl⟩ := hdd
  have ol : (ordL hs.length held s.2.1).length = hs.length := ordL_len hd.h0 hd.h1
  have e2 := tops_lc (f := (d2 (ixC "Pull" p_Pull_getitem) (dVar 6) (dVar 15))) (ρ := [some (.scr ns), o1, o2, some (.tup [a, b]), some (dgD hs held grab), o5, some (.ref n), o7, o8, o9, some (.tup good), o11, some (.lst (tops.map D.int)), o13, none, none, none]) hd hc s0 s1
    (fun x => ⟨_, rfl, fun Q => .inl (by
      simp -implicitDefEqProofs
      rw [t_ixC hc.c.c])⟩) (xs := ordL hs.length held s.2.1) (fun x hx => (ordL_mem hd.h0 hd.h1).mp hx)
  rw [hT] at e2
  generalize ordL hs.length held s.2.1 = od at *
  have dt : Dep 64 (.lst (tops.map D.int)) := dep_lst.mpr fun d hd => by
    obtain ⟨x, _, rfl⟩ := List.mem_map.mp hd
    exact dep_int
  simp -implicitDefEqProofs [wipeE]
  refine ⟨by omega, ?_⟩
  refine e2.mono fun r s3 hr => ?_
  obtain ⟨rfl, rfl⟩ := hr
  rw [q_refl dt]
  simp -implicitDefEqProofs
  refine t_propV rfl hc.c.c ((pull_drawn hc.c.c).mono fun d s2 hdd => ?_)
  obtain ⟨rfl, rfl⟩ := hdd
  refine t_propV rfl hc.c.c ((pull_pointer hc.c.c).mono fun d s2 hdd => ?_)
  obtain ⟨rfl, rfl⟩ := hdd
  simp -implicitDefEqProofs
  exact K24_p14 ha hb hd h40 hq0 hc hm hml hmk
theorem later_bd {F : Int → Int → Int} {N : Nat} (hF : ∀ (x : Int) (m : Nat) (p r : Int), 0 ≤ p → p < N → restN (F x) m p = some r → 0 ≤ r ∧ r < N) : ∀ (xs : List Int) (q pl : Int) (ss : List (Int × Int)) (t : SS), 0 ≤ pl → pl < N → laterF F N q pl ss xs = some t →
    (t.1 = q ∨ t.1 ∈ xs) ∧ t.2.2.length ≤ ss.length + xs.length ∧ ∀ z ∈ t.2.2, z ∈ ss ∨ (z.1 ∈ xs ∧ 0 ≤ z.2 ∧ z.2 < N)
  | [], q, pl, ss, t, _, _, e => by
    simp [laterF] at e
    subst e
    simp
  | x :: xs, q, pl, ss, t, p0, p1, e => by
    unfold laterF at e
    split at e
    · cases e
    · rename_i r hr
      obtain ⟨r0, r1⟩ := hF _ _ _ _ p0 p1 hr
      obtain ⟨k1, k2, k3⟩ := later_bd hF xs x r _ t r0 r1 e
      refine ⟨.inr ?_, by simp at k2 ⊢; omega, fun z hz => ?_⟩
      · rcases k1 with k1 | k1
        · exact k1 ▸ List.mem_cons_self
        · exact List.mem_cons_of_mem _ k1
      · rcases k3 z hz with k | ⟨k, k'⟩
        · rcases List.mem_append.mp k with k | k
          · exact .inl k
          · rw [List.mem_singleton.mp k]
            exact .inr ⟨List.mem_cons_self, r0, r1⟩
        · exact .inr ⟨List.mem_cons_of_mem _ k, k'⟩
theorem good_sub {F : Int → Int → Int} {N : Nat} : ∀ (xs : List Int) (pl : Int), (∀ x ∈ goodL F N pl xs, x ∈ xs) ∧ (goodL F N pl xs).length ≤ xs.length
  | [], _ => by simp [goodL]
  | x :: xs, pl => by
    unfold goodL
    cases e : restN (F x) (2 * N) pl with
    | none =>
      obtain ⟨k1, k2⟩ := good_sub (F := F) (N := N) xs pl
      exact ⟨fun y hy => List.mem_cons_of_mem _ (k1 y hy), by simp; omega⟩
    | some r =>
      obtain ⟨k1, k2⟩ := good_sub (F := F) (N := N) xs r
      refine ⟨fun y hy => ?_, by simp; omega⟩
      rcases List.mem_cons.mp hy with rfl | hy
      · exact List.mem_cons_self
      · exact List.mem_cons_of_mem _ (k1 y hy)
theorem K24_p11 {ns : List Int} {a b : D} {hs : List Int} {held grab hh q0 : Int} {st : Store} {n p : Nat} {o1 o2 o5 o7 o8 o9 o11 o12 o13 : Option D} {good : List D} {h : List SS} {s : SS} {more : List SS} (ha : IsCond a) (hb : IsCond b) (hd : Drg hs held grab hh) (h40 : ∀ x ∈ hs, x ≤ 40)
    (hq0 : q0 = (hs.take held.toNat).sum + grab) (s0 : 0 ≤ s.2.1) (s1 : s.2.1 < hs.length) (hq : Qb s.1)
    (hc : HAt st n p (.tup [a, b]) (dgD hs held grab) h s) (hm : h ++ [s] = (q0, held, []) :: more) (hml : more.length = good.length) (hmk : more.length < 60)
    {ρ : MP.Env} (hρ : ρ = [some (.scr ns), o1, o2, some (.tup [a, b]), some (dgD hs held grab), o5, some (.ref n), o7, o8, o9, some (.tup good), o11, o12, o13, none, none, none]) :
    TI (K24_1t_11 ρ) st (fun r _ => CINV ns r) := by
  rw [← TI_eq]
  subst hρ
  have hl6 := hd.l6
  rw [t_for]
  simp -implicitDefEqProofs
  refine ⟨fun _ => ?_, by omega⟩
  rw [rangeL_ints]
  refine (pl_loop ha hb hd hq hc (fun _ _ => rfl) _ _ (fun x hx => by
    obtain ⟨k, hk, rfl⟩ := List.mem_map.mp hx
    have := List.mem_range.mp hk
    omega)).mono fun r s2 hr => ?_
  obtain ⟨rfl, o9', rfl⟩ := hr
  show T (K24_1t_12 _) _ _
  rw [TI_eq]
  exact K24_p12 ha hb hd h40 hq0 s0 s1 hc hm hml hmk rfl
theorem K24_p10 {ns : List Int} {a b : D} {hs : List Int} {held grab hh q0 : Int} {st : Store} {n p : Nat} {o1 o2 o5 o7 o8 o9 o11 o12 o13 : Option D} {good : List Int} {h : List SS} {s : SS} {more : List SS} (ha : IsCond a) (hb : IsCond b) (hd : Drg hs held grab hh) (h40 : ∀ x ∈ hs, x ≤ 40)
    (hq0 : q0 = (hs.take held.toNat).sum + grab) (s0 : 0 ≤ s.2.1) (s1 : s.2.1 < hs.length) (hq : Qb s.1)
    (hl : laterF (fun q => stepI a b hs held grab hh q) hs.length q0 held [] good = some s)
    (hc : HAt st n p (.tup [a, b]) (dgD hs held grab) h s) (hm : h ++ [s] = (q0, held, []) :: more) (hml : more.length = good.length) (hmk : more.length < 60)
    {ρ : MP.Env} (hρ : ρ = [some (.scr ns), o1, o2, some (.tup [a, b]), some (dgD hs held grab), o5, some (.ref n), o7, o8, o9, some (.tup (good.map D.int)), o11, o12, o13, none, none, none]) :
    TI (K24_1t_10 ρ) st (fun r _ => CINV ns r) := by
  rw [← TI_eq]
  subst hρ
  have rest : ∀ ρ o9, ρ = [some (.scr ns), o1, o2, some (.tup [a, b]), some (dgD hs held grab), o5, some (.ref n), o7, o8, o9, some (.tup (good.map D.int)), o11, o12, o13, none, none, none] → TI (K24_1t_11 ρ) st (fun r _ => CINV ns r) :=
    fun _ _ e => K24_p11 ha hb hd h40 hq0 s0 s1 hq hc hm (by simpa using hml) hmk e
  rw [t_ifs]
  have d0 : Dep 64 (.tup []) := dep_tup.mpr fun _ h => by cases h
  cases hg : good with
  | nil =>
    subst hg
    simp -implicitDefEqProofs
    rw [q_refl d0]
    simp -implicitDefEqProofs
    rw [TI_eq]
    exact rest _ _ rfl
  | cons x xs =>
    have hfix := later_fix good q0 held [] s (by simp [hg]) hl
    rw [← hg]
    have dg : Dep 64 (.tup (good.map D.int)) := dep_tup.mpr fun d hd => by
      obtain ⟨x, _, rfl⟩ := List.mem_map.mp hd
      exact dep_int
    have hne : opEq true (.tup (good.map D.int)) (.tup []) = pure (.bl true) := by
      rw [eq_of dg d0, hg]
      rfl
    generalize D.tup (good.map D.int) = gd at *
    simp -implicitDefEqProofs [hne]
    refine t_propV rfl hc.c.c ((pull_pointer hc.c.c).mono fun d s2 hdd => ?_)
    obtain ⟨rfl, rfl⟩ := hdd
    refine t_propV rfl hc.c.c ((pull_place hc.c.c).mono fun d s2 hdd => ?_)
    obtain ⟨rfl, rfl⟩ := hdd
    rw [settle_eq ha hb hd hq s0 s1]
    have hN : 2 * hs.length = (2 * hs.length - 1) + 1 := by have := hd.l2; omega
    rw [hN, rest_at hfix]
    rw [t_pure]
    refine t_propV rfl hc.c.c ((pull_place hc.c.c).mono fun d s2 hdd => ?_)
    obtain ⟨rfl, rfl⟩ := hdd
    rw [show optD (some s.2.1) = .int s.2.1 from rfl, q_refl dep_int]
    simp -implicitDefEqProofs
    rw [TI_eq]
    exact rest _ _ rfl
theorem ok_of (s : String) : PyData.strOk (Str.ofString s) = true := by
  rw [Str.ofString_eq_toList]
  unfold PyData.strOk
  simp
  intro c hc
  have := c.valid
  have h2 : c.toNat.isValidChar := c.valid
  unfold Nat.isValidChar at h2
  omega
theorem t_listG {c m : Str} {p : List D → M (List D)} {f : Den} {ρ : MP.Env} {st : Store} {n : Nat} {fs : List Str} {ds : List D} {Q : D → Store → Prop} (hf : f ρ = pure (.ref n)) (hn : st[n]? = some (.ins c fs ds)) (hc : fs.contains m = false) (k : T (p [.ref n]) st (fun es s => Q (.lst es) s)) : T (dListG c m p f ρ) st Q := by
  unfold dListG
  rw [t_bind, hf, t_pure, t_bind, t_insM hn hc, t_bind, t_noX]
  simp only [t_pure]
  exact k
theorem ok_step {s : Int × Int} : PyData.strOk (stepS s) = true := ok_app (ok_app (ok_app (by decide +kernel) (ok_of _)) (ok_of _)) (ok_of _)
theorem K24_p9 {ns : List Int} {a b : D} {hs : List Int} {held grab hh q0 : Int} {st : Store} {n p m p2 : Nat} {o1 o2 o5 o7 o8 o9 o12 o13 : Option D} {good : List Int} {h h' : List SS} {s : SS} {more : List SS} (ha : IsCond a) (hb : IsCond b) (hd : Drg hs held grab hh) (h40 : ∀ x ∈ hs, x ≤ 40)
    (hq0 : q0 = (hs.take held.toNat).sum + grab) (s0 : 0 ≤ s.2.1) (s1 : s.2.1 < hs.length) (hq : Qb s.1)
    (hl : laterF (fun q => stepI a b hs held grab hh q) hs.length q0 held [] good = some s)
    (hc : HAt st n p (.tup [a, b]) (dgD hs held grab) h s) (hm : h ++ [s] = (q0, held, []) :: more) (hml : more.length = good.length) (hmk : more.length < 60)
    (hc2 : HAt st m p2 (.tup [a, b]) (dgD hs held grab) h' s) (hz : s.2.2.length ≤ 900) (hzz : ∀ z ∈ s.2.2, (-(10 ^ 10) < z.1 ∧ z.1 < 10 ^ 10) ∧ (0 ≤ z.2 ∧ z.2 < 10))
    {ρ : MP.Env} (hρ : ρ = [some (.scr ns), o1, o2, some (.tup [a, b]), some (dgD hs held grab), o5, some (.ref n), o7, o8, o9, some (.tup (good.map D.int)), some (.ref m), o12, o13, none, none, none]) :
    TI (K24_1t_9 ρ) st (fun r _ => CINV ns r) := by
  rw [← TI_eq]
  have rest : TI (K24_1t_10 ρ) st (fun r _ => CINV ns r) := K24_p10 ha hb hd h40 hq0 s0 s1 hq hl hc hm hml hmk hρ
  subst hρ
  rw [t_ifs]
  have e1 : deq (.tup [a, b]) (.tup [a, b]) = true := deq_self (rdep ha hb)
  have e2 : deq (dgD hs held grab) (dgD hs held grab) = true := deq_self (dep_dg.mono (by decide))
  have dl : Dep 64 (.lst (s.2.2.map fun z => D.str (stepS z))) := dep_lst.mpr fun d hd => by
    obtain ⟨x, _, rfl⟩ := List.mem_map.mp hd
    exact dep_str ok_step
  simp -implicitDefEqProofs [dBNot]
  rw [t_opC hc.c.c hc2.c.c]
  refine (pull_eq hc.c.c hc2.c.c (rdep ha hb) (rdep ha hb) (dep_dg.mono (by decide)) (dep_dg.mono (by decide))).mono fun d s2 hdd => ?_
  obtain ⟨rfl, rfl⟩ := hdd
  rw [e1, e2]
  simp -implicitDefEqProofs
  refine t_listG rfl hc.c.c (by decide +kernel) ((pull_log hc.c.c (by omega) hzz).mono fun d s2 hdd => ?_)
  obtain ⟨rfl, rfl⟩ := hdd
  refine t_listG rfl hc2.c.c (by decide +kernel) ((pull_log hc2.c.c (by omega) hzz).mono fun d s2 hdd => ?_)
  obtain ⟨rfl, rfl⟩ := hdd
  rw [q_refl dl]
  simp -implicitDefEqProofs
  rw [t_opCT hc.c.c]
  refine pull_eqT.mono fun d s2 hdd => ?_
  obtain ⟨rfl, rfl⟩ := hdd
  simp -implicitDefEqProofs
  refine t_propV rfl hc.c.c ((pull_order hc.c.c hd s0 s1).mono fun d s2 hdd => ?_)
  obtain ⟨rfl, rfl⟩ := hdd
  refine t_propV rfl hc2.c.c ((pull_order hc2.c.c hd s0 s1).mono fun d s2 hdd => ?_)
  obtain ⟨rfl, rfl⟩ := hdd
  have dt : Dep 64 (.tup ((ordL hs.length held s.2.1).map D.int)) := dep_tup.mpr fun d hd => by
    obtain ⟨x, _, rfl⟩ := List.mem_map.mp hd
    exact dep_int
  rw [q_refl dt]
  simp -implicitDefEqProofs
  rw [TI_eq]
  exact rest
theorem t_iadd {c : Str} {p : List D → M D} {st : Store} {n : Nat} {fs : List Str} {ds : List D} {y : D} {Q : D → Store → Prop} (hn : st[n]? = some (.ins c fs ds)) (k : T (p [.ref n, y]) st Q) : T (iaddC c p (.ref n) y) st Q := by
  have hm : msAt [(c, p)] st (.ref n) = some (c, p) := msAt_ref hn
  unfold T iaddC at *
  rw [hm]
  exact k
theorem sum_bd : ∀ (hs : List Int), (∀ x ∈ hs, 1 ≤ x ∧ x ≤ 40) → 0 ≤ hs.sum ∧ hs.sum ≤ 40 * hs.length
  | [], _ => by simp
  | x :: xs, h => by
    have := sum_bd xs fun y hy => h y (List.mem_cons_of_mem _ hy)
    have := h x List.mem_cons_self
    simp
    omega
theorem t_aug {i : Nat} {f : Den} {op : D → D → M D} {g : DenS} {ρ : MP.Env} {st : Store} {Q : Fl → Store → Prop} : T (dSeq (dAug i f op) g ρ) st Q = T (dVar i ρ) st (fun x s => T (f ρ) s fun y s => T (op x y) s fun z s => T (g (ρ.set i (some z))) s Q) := by
  unfold dSeq dAug
  rw [t_bind, t_bind]
  simp only [t_bind, t_pure]
theorem K24_p5 {ns : List Int} {a b : D} {hs : List Int} {held grab hh q0 : Int} {st : Store} {n p : Nat} {o1 o2 o8 o9 o10 o11 o12 o13 : Option D} {qs : List Int} (ha : IsCond a) (hb : IsCond b) (hd : Drg hs held grab hh) (h40 : ∀ x ∈ hs, x ≤ 40)
    (hq0 : q0 = (hs.take held.toNat).sum + grab) (hqs : ∀ q ∈ qs, -1000 ≤ q ∧ q ≤ 1000) (hl : qs.length ≤ 8)
    (hc : HAt st n p (.tup [a, b]) (dgD hs held grab) [] (q0, held, []))
    {ρ : MP.Env} (hρ : ρ = [some (.scr ns), o1, o2, some (.tup [a, b]), some (dgD hs held grab), some (.tup (qs.map D.int)), some (.ref n), some (.lst (wayL (fun q => stepI a b hs held grab hh q) hs.length held qs)), o8, o9, o10, o11, o12, o13, none, none, none]) :
    TI (K24_1t_5 ρ) st (fun r _ => CINV ns r) := by
  rw [← TI_eq]
  have hgl := (good_sub (F := fun q => stepI a b hs held grab hh q) (N := hs.length) qs held)
  have dw : Dep 64 (.lst (wayL (fun q => stepI a b hs held grab hh q) hs.length held qs)) := way_dep qs held
  have hml := fun {f : Den} {ρ : MP.Env} hf => moved_list (n := n) (p := p) (f := f) (ρ := ρ) ha hb hd hf qs st [] (q0, held, []) hc (fun x hx => qb_of (hqs x hx).1 (hqs x hx).2) hd.h0 hd.h1 (by simp; omega) (by simp; omega)
  have hgz := fun {c : DenB} {f : Den} {ρ : MP.Env} hf => good_lc (F := fun q => stepI a b hs held grab hh q) (N := hs.length) (c := c) (f := f) (ρ := ρ) hf qs held
  simp only at hml
  generalize hW : wayL (fun q => stepI a b hs held grab hh q) hs.length held qs = W at *
  generalize hG : goodL (fun q => stepI a b hs held grab hh q) hs.length held qs = good at *
  subst hρ
  rw [t_ifs]
  simp -implicitDefEqProofs [wipeE]
  refine ⟨by omega, ?_⟩
  refine (hml (fun x => ⟨_, rfl, ?_⟩)).mono fun r s1 hr => ?_
  · rfl
  obtain ⟨rfl, el, h', t, more, k1, k2, k3, k4, k5, k6⟩ := hr
  rw [q_refl dw]
  simp -implicitDefEqProofs
  rw [t_asg]
  have hN : 2 ≤ hs.length := hd.l2
  have gl8 : good.length ≤ 8 := Nat.le_trans hgl.2 hl
  simp -implicitDefEqProofs [wipeE, zip_l]
  refine ⟨by omega, ?_⟩
  rw [hgz (fun x y => ⟨_, rfl, rfl, rfl⟩)]
  simp -implicitDefEqProofs
  rw [t_asg]
  simp -implicitDefEqProofs
  refine (pull_new ha hb hd).mono fun d s2 hdd => ?_
  obtain ⟨rfl, rfl⟩ := hdd
  rw [t_aug]
  simp -implicitDefEqProofs
  have hc1 := k1.app (t := [puC (.tup [a, b]) (dgD hs held grab) (nowD ((hs.take held.toNat).sum + grab) held []) (s1.length + 1), Cell.lst []])
  have hc2 : PuAt (s1 ++ [puC (.tup [a, b]) (dgD hs held grab) (nowD ((hs.take held.toNat).sum + grab) held []) (s1.length + 1), Cell.lst []]) s1.length (s1.length + 1) (.tup [a, b]) (dgD hs held grab) (nowD ((hs.take held.toNat).sum + grab) held []) [] := by
    refine ⟨?_, ?_⟩
    · rw [List.getElem?_append_right (Nat.le_refl _)]
      simp
    · rw [List.getElem?_append_right (Nat.le_succ _)]
      simp
  have hn1 : n < s1.length := (List.getElem?_eq_some_iff.mp k1.c.c).1
  have hp1 : p < s1.length := (List.getElem?_eq_some_iff.mp k1.c.l).1
  rw [← hq0] at hc1 hc2 ⊢
  generalize (s1 ++ [puC (.tup [a, b]) (dgD hs held grab) (nowD q0 held []) (s1.length + 1), Cell.lst []]) = s2 at *
  have hqg : ∀ x ∈ good, Qb x := fun x hx => qb_of (hqs x (hgl.1 x hx)).1 (hqs x (hgl.1 x hx)).2
  refine t_iadd hc2.c ((pull_iadd ha hb hd hc2 hqg (by omega) hd.h0 hd.h1 (by simp) (by simp) k2).mono fun d s3 hdd => ?_)
  obtain ⟨rfl, rfl⟩ := hdd
  simp -implicitDefEqProofs
  have hc3 := puM_now (now' := nD t) (ps' := [nowD q0 held []]) hc2
  have hc4 : HAt (puMoved s2 s1.length (s1.length + 1) (.tup [a, b]) (dgD hs held grab) (nD t) [nowD q0 held []]) n p (.tup [a, b]) (dgD hs held grab) h' t :=
    ⟨⟨by rw [puM_else (by omega) (by omega)]; exact hc1.c.c, by rw [puM_else (by omega) (by omega)]; exact hc1.c.l⟩⟩
  have hbd := later_bd (F := fun q => stepI a b hs held grab hh q) (N := hs.length) (fun x m p r p0 p1 e => restN_in _ _ _ p0 p1 e) good q0 held [] t hd.h0 hd.h1 k2
  have hsb := sum_bd (hs.take held.toNat) fun x hx => ⟨(hd.bd x (List.mem_of_mem_take hx)).1, h40 x (List.mem_of_mem_take hx)⟩
  have htl : (hs.take held.toNat).length ≤ 6 := Nat.le_trans (List.length_take_le' _ _) hd.l6
  have hgr : 0 ≤ grab ∧ grab ≤ 40 := ⟨hd.g0, Int.le_trans hd.g1 (h40 _ hd.hh)⟩
  have hqt : Qb t.1 := by
    rcases hbd.1 with e | e
    · rw [e]
      exact qb_of (by omega) (by omega)
    · exact hqg _ e
  rw [TI_eq]
  refine K24_p9 ha hb hd h40 hq0 k5 k6 hqt k2 hc4 (by simpa using k3) k4 (by omega) (h' := [(q0, held, [])]) ⟨hc3⟩ (by have := hbd.2.1; simp at this; omega) (fun z hz => ?_) rfl
  rcases hbd.2.2 z hz with h | ⟨h, h0, h1⟩
  · cases h
  · have := hqs _ (hgl.1 _ h)
    have := hd.l6
    exact ⟨by omega, by omega⟩
theorem K24_cell {ns : List Int} {k : Int} {st : Store} {o2 o3 o4 o5 o6 o7 o8 o9 o10 o11 o12 o13 : Option D} (h0 : 0 ≤ k) (h1 : k < 1000)
    {ρ : MP.Env} (hρ : ρ = [some (.scr ns), some (.int k), o2, o3, o4, o5, o6, o7, o8, o9, o10, o11, o12, o13, none, none, none]) :
    T (K24_1t_1 ρ) st (fun r _ => CINV ns r) := by
  subst hρ
  rw [t_asg]
  simp -implicitDefEqProofs
  refine (source_spec h0 h1).mono fun d s1 hd => ?_
  obtain ⟨n, rfl, s1'⟩ := hd
  rw [t_tg]
  simp -implicitDefEqProofs
  refine (rule_spec s1').mono fun d s2 hd => ?_
  obtain ⟨⟨a, b, ha, hb, rfl⟩, s2', _⟩ := hd
  refine (drag_lens (by decide) (by decide) s2').mono fun d s3 hd => ?_
  obtain ⟨⟨hs, held, grab, hh, hd, hm, h40, rfl, hdr⟩, s3', _⟩ := hd
  rw [t_asg]
  simp -implicitDefEqProofs [wipeE]
  refine ⟨by rw [rangeL_len]; omega, ?_⟩
  refine (lc_draw (P := fun d => ∃ v : Int, d = .int v ∧ (-1000 ≤ v ∧ v ≤ 1000)) s3' fun d hd => ⟨_, rfl, fun st hs => ?_⟩).mono fun ys s4 hq => ?_
  · simp -implicitDefEqProofs
    exact pointer_spec hdr hs
  obtain ⟨q1, q2, s4', f4⟩ := hq
  rw [rangeL_len] at q2
  obtain ⟨qs, rfl, hqs⟩ := ints_of q1
  have q2 : qs.length = 8 := by simpa using q2
  rw [t_tg]
  simp -implicitDefEqProofs
  refine (pull_new ha hb hd).mono fun d s5 hdd => ?_
  obtain ⟨rfl, rfl⟩ := hdd
  have hw := way_eq ha hb hd (qs := qs) (fun q hq => qb_of (hqs q hq).1 (hqs q hq).2) (by omega)
  rw [hw]
  simp -implicitDefEqProofs
  rw [TI_eq]
  refine K24_p5 ha hb hd h40 rfl hqs (by omega) (p := s4.length + 1) ⟨⟨?_, ?_⟩⟩ rfl
  · rw [List.getElem?_append_right (Nat.le_refl _)]
    simp
  · rw [List.getElem?_append_right (Nat.le_succ _)]
    simp
theorem holds (ns : List Int) (hn : ns.length ≤ 63) : ∃ st, p_law [.scr ns] [] = .ok (.bl true) st := by
  have key : T (p_law [.scr ns]) [] (fun d _ => d = .bl true) := by
    rw [p_law, t_run]
    show T (K24t_1 _) _ _
    rw [t_for]
    simp
    have hm : ∀ x : Int, x = 1 + (if (8 : Int) < ns.length then 8 else (ns.length : Int)) → 0 ≤ x ∧ x ≤ 64 := fun x hx => by split at hx <;> omega
    generalize hx : (1 + if (8 : Int) < ns.length then 8 else (ns.length : Int)) = x
    obtain ⟨x0, x1⟩ := hm x hx.symm
    refine ⟨fun _ _ => ?_, by omega, by omega⟩
    refine (forL_inv (I := fun ρ s => CINV ns (.nx ρ)) ⟨_, _, _, _, _, _, _, _, _, _, _, _, _, rfl⟩ fun d hd ρ s hI => ?_).mono fun r s hr => ?_
    · obtain ⟨o1, o2, o3, o4, o5, o6, o7, o8, o9, o10, o11, o12, o13, e⟩ := hI
      cases e
      obtain ⟨k, hk, rfl⟩ : ∃ k : Int, (0 ≤ k ∧ k < 1000) ∧ d = .int k := by
        unfold rangeL at hd
        obtain ⟨j, hj, rfl⟩ := List.mem_map.mp hd
        have := List.mem_range.mp hj
        exact ⟨_, by omega, rfl⟩
      simp only [List.set]
      refine (K24_cell hk.1 hk.2 rfl).mono fun r s hr => ?_
      obtain ⟨o1, o2, o3, o4, o5, o6, o7, o8, o9, o10, o11, o12, o13, rfl⟩ := hr
      exact ⟨_, rfl, _, _, _, _, _, _, _, _, _, _, _, _, _, rfl⟩
    · obtain ⟨ρ', rfl, o1, o2, o3, o4, o5, o6, o7, o8, o9, o10, o11, o12, o13, e⟩ := hr
      cases e
      simp
      rw [t_ret1]
      simp
  obtain ⟨a, st, e, rfl⟩ := key.get
  exact ⟨st, e⟩

end LW
set_option maxHeartbeats 2000000
namespace LW
open PySem L2 MP
open PySem.Spec PyProof.Rows
section
variable {P : Program} {w : World} {K : Frag} {mg : Str → Option Value} {base : Heap} {k : Nat}
abbrev N_p_is_among : List Str := ["words", "value"]
theorem nd_p_is_among : N_p_is_among.Nodup := by decide +kernel
theorem sc_p_is_among : FnScope N_p_is_among ["words", "value"] (defScope (top 14)) := ⟨rfl, rfl, rfl, nd_p_is_among, rfl, by decide +kernel, by decide +kernel⟩
theorem b_p_is_among {f : Addr} {cdv : Value} {A : Around} {outer : List PySem.Env} {s : Shared} {H : Hp} {E : XK} (hm_isinstance : mg "isinstance" = none) (hm_str : mg "str" = none)
    (c : Cok (CF P w K mg base N_p_is_among "is_among" (defScope (top 14)) f cdv A outer s H E) E k) : PDSs (CF P w K mg base N_p_is_among "is_among" (defScope (top 14)) f cdv A outer s H E) E (defBody (top 14)) p_is_among_b :=
  ds_one (dp_ret (pd_and (pd_isi (gl_ (by kernel_rfl)) hm_isinstance bb_isinstance (gl_ (by kernel_rfl)) hm_str bb_str (pv_ (by kernel_rfl)) (by decide) rfl (by decide) rfl (fun _ => rfl)) (pe_one (pd_cmp (od_in c.units5) (pv_ (by kernel_rfl)) (pv_ (by kernel_rfl)) rfl))))
theorem c_p_is_among (hm_isinstance : mg "isinstance" = none) (hm_str : mg "str" = none) (dn : Dn K mg "is_among" "is_among" (defArgs (top 14)) (defBody (top 14)) (defScope (top 14)) ["words", "value"]) : Cal P w K mg base (k + 1) "is_among" 2 (runDef 2 p_is_among_b) :=
  dn.cal sc_p_is_among rfl fun f cdv A outer s H E c => b_p_is_among hm_isinstance hm_str c
abbrev N_p_is_number : List Str := ["value"]
theorem nd_p_is_number : N_p_is_number.Nodup := by decide +kernel
theorem sc_p_is_number : FnScope N_p_is_number ["value"] (defScope (top 13)) := ⟨rfl, rfl, rfl, nd_p_is_number, rfl, by decide +kernel, by decide +kernel⟩
theorem b_p_is_number {f : Addr} {cdv : Value} {A : Around} {outer : List PySem.Env} {s : Shared} {H : Hp} {E : XK} (hm_isinstance : mg "isinstance" = none) (hm_bool : mg "bool" = none) (hm_int : mg "int" = none)
    (c : Cok (CF P w K mg base N_p_is_number "is_number" (defScope (top 13)) f cdv A outer s H E) E k) : PDSs (CF P w K mg base N_p_is_number "is_number" (defScope (top 13)) f cdv A outer s H E) E (defBody (top 13)) p_is_number_b :=
  ds_one (dp_ret (pd_and (pd_isi (gl_ (by kernel_rfl)) hm_isinstance bb_isinstance (gl_ (by kernel_rfl)) hm_int bb_int (pv_ (by kernel_rfl)) (by decide) rfl (by decide) rfl (fun _ => rfl)) (pe_one (pd_not (pd_isi (gl_ (by kernel_rfl)) hm_isinstance bb_isinstance (gl_ (by kernel_rfl)) hm_bool bb_bool (pv_ (by kernel_rfl)) (by decide) rfl (by decide) rfl (fun _ => rfl))))))
theorem c_p_is_number (hm_isinstance : mg "isinstance" = none) (hm_bool : mg "bool" = none) (hm_int : mg "int" = none) (dn : Dn K mg "is_number" "is_number" (defArgs (top 13)) (defBody (top 13)) (defScope (top 13)) ["value"]) : Cal P w K mg base (k + 1) "is_number" 1 (runDef 1 p_is_number_b) :=
  dn.cal sc_p_is_number rfl fun f cdv A outer s H E c => b_p_is_number hm_isinstance hm_bool hm_int c
abbrev N_p_is_point : List Str := ["value"]
theorem nd_p_is_point : N_p_is_point.Nodup := by decide +kernel
theorem sc_p_is_point : FnScope N_p_is_point ["value"] (defScope (top 15)) := ⟨rfl, rfl, rfl, nd_p_is_point, rfl, by decide +kernel, by decide +kernel⟩
theorem b_p_is_point {f : Addr} {cdv : Value} {A : Around} {outer : List PySem.Env} {s : Shared} {H : Hp} {E : XK} (hm_len : mg "len" = none) (hm_isinstance : mg "isinstance" = none) (hm_tuple : mg "tuple" = none) (gc_THINGS : GCon K mg "THINGS" g_THINGS) (h_p_is_number : Cal P w K mg base k "is_number" 1 p_is_number) (h_p_is_among : Cal P w K mg base k "is_among" 2 p_is_among)
    (c : Cok (CF P w K mg base N_p_is_point "is_point" (defScope (top 15)) f cdv A outer s H E) E k) : PDSs (CF P w K mg base N_p_is_point "is_point" (defScope (top 15)) f cdv A outer s H E) E (defBody (top 15)) p_is_point_b :=
  ds_cons (dp_if (PW.pt (pwb_or (pb_not (pb_val (pd_isi (gl_ (by kernel_rfl)) hm_isinstance bb_isinstance (gl_ (by kernel_rfl)) hm_tuple bb_tuple (pv_ (by kernel_rfl)) (by decide) rfl (by decide) rfl (fun _ => rfl)) (fun _ => rfl))) (pw_or1 (pb_cmp (od_eq c.units) (pv_ (by kernel_rfl)) (pd_tup (pl_nil)) rfl)))) (ds_one (dp_ret (pd_bl))) (ds_nil)) <|
  ds_cons (dp_if (pb_cmp (od_eq c.units) (pd_ix (id_ix c.units1) (pv_ (by kernel_rfl)) (pd_int) (fun _ _ => rfl)) (pd_str) rfl) (ds_one (dp_ret (pd_cmp (od_eq c.units) (pd_callB cd_len (gl_ (by kernel_rfl)) hm_len bb_len (pl_cons (pv_ (by kernel_rfl)) (pl_nil) rfl) (by decide) rfl rfl rfl) (pd_int) rfl))) (ds_nil)) <|
  ds_one (dp_ret (pd_and (pd_cmp (od_eq c.units) (pd_callB cd_len (gl_ (by kernel_rfl)) hm_len bb_len (pl_cons (pv_ (by kernel_rfl)) (pl_nil) rfl) (by decide) rfl rfl rfl) (pd_int) rfl) (pd_and (pd_callU c h_p_is_among (Nat.le_refl _) (gl_ (by kernel_rfl)) (pl_cons (pd_glob (gl_ (by kernel_rfl)) (gc_THINGS)) (pl_cons (pd_ix (id_ix c.units1) (pv_ (by kernel_rfl)) (pd_int) (fun _ _ => rfl)) (pl_nil) rfl) rfl) rfl rfl rfl) (pd_and (pd_callU c h_p_is_number (Nat.le_refl _) (gl_ (by kernel_rfl)) (pl_cons (pd_ix (id_ix c.units1) (pv_ (by kernel_rfl)) (pd_int) (fun _ _ => rfl)) (pl_nil) rfl) rfl rfl rfl) (pe_one (pd_chain od_le od_le (pd_int) (pd_ix (id_ix c.units1) (pv_ (by kernel_rfl)) (pd_int) (fun _ _ => rfl)) (pd_int) rfl))))))
theorem c_p_is_point (hm_len : mg "len" = none) (hm_isinstance : mg "isinstance" = none) (hm_tuple : mg "tuple" = none) (gc_THINGS : GCon K mg "THINGS" g_THINGS) (h_p_is_number : Cal P w K mg base k "is_number" 1 p_is_number) (h_p_is_among : Cal P w K mg base k "is_among" 2 p_is_among) (dn : Dn K mg "is_point" "is_point" (defArgs (top 15)) (defBody (top 15)) (defScope (top 15)) ["value"]) : Cal P w K mg base (k + 1) "is_point" 1 (runDef 1 p_is_point_b) :=
  dn.cal sc_p_is_point rfl fun f cdv A outer s H E c => b_p_is_point hm_len hm_isinstance hm_tuple gc_THINGS h_p_is_number h_p_is_among c
abbrev N_p_is_comparison : List Str := ["value"]
theorem nd_p_is_comparison : N_p_is_comparison.Nodup := by decide +kernel
theorem sc_p_is_comparison : FnScope N_p_is_comparison ["value"] (defScope (top 16)) := ⟨rfl, rfl, rfl, nd_p_is_comparison, rfl, by decide +kernel, by decide +kernel⟩
theorem b_p_is_comparison {f : Addr} {cdv : Value} {A : Around} {outer : List PySem.Env} {s : Shared} {H : Hp} {E : XK} (hm_list : mg "list" = none) (hm_len : mg "len" = none) (hm_isinstance : mg "isinstance" = none) (hm_tuple : mg "tuple" = none) (gc_TURNED : KDs P w K mg "TURNED" g_TURNED) (h_p_is_point : Cal P w K mg base k "is_point" 1 p_is_point) (h_p_is_among : Cal P w K mg base k "is_among" 2 p_is_among)
    (c : Cok (CF P w K mg base N_p_is_comparison "is_comparison" (defScope (top 16)) f cdv A outer s H E) E k) : PDSs (CF P w K mg base N_p_is_comparison "is_comparison" (defScope (top 16)) f cdv A outer s H E) E (defBody (top 16)) p_is_comparison_b :=
  ds_cons (dp_if (PW.pt (pwb_or (pb_not (pb_val (pd_isi (gl_ (by kernel_rfl)) hm_isinstance bb_isinstance (gl_ (by kernel_rfl)) hm_tuple bb_tuple (pv_ (by kernel_rfl)) (by decide) rfl (by decide) rfl (fun _ => rfl)) (fun _ => rfl))) (pwb_or (pb_cmp (od_ne c.units) (pd_callB cd_len (gl_ (by kernel_rfl)) hm_len bb_len (pl_cons (pv_ (by kernel_rfl)) (pl_nil) rfl) (by decide) rfl rfl rfl) (pd_int) rfl) (pw_or1 (pb_not (pb_val (pd_callU c h_p_is_among (Nat.le_refl _) (gl_ (by kernel_rfl)) (pl_cons (pd_Klist (gl_ (by kernel_rfl)) hm_list bb_list rfl (gl_ (by kernel_rfl)) gc_TURNED (by decide) rfl rfl) (pl_cons (pd_ix (id_ix c.units1) (pv_ (by kernel_rfl)) (pd_int) (fun _ _ => rfl)) (pl_nil) rfl) rfl) rfl rfl rfl) (fun _ => rfl))))))) (ds_one (dp_ret (pd_bl))) (ds_nil)) <|
  ds_one (dp_ret (pd_and (pd_callU c h_p_is_point (Nat.le_refl _) (gl_ (by kernel_rfl)) (pl_cons (pd_ix (id_ix c.units1) (pv_ (by kernel_rfl)) (pd_int) (fun _ _ => rfl)) (pl_nil) rfl) rfl rfl rfl) (pe_one (pd_callU c h_p_is_point (Nat.le_refl _) (gl_ (by kernel_rfl)) (pl_cons (pd_ix (id_ix c.units1) (pv_ (by kernel_rfl)) (pd_int) (fun _ _ => rfl)) (pl_nil) rfl) rfl rfl rfl))))
theorem c_p_is_comparison (hm_list : mg "list" = none) (hm_len : mg "len" = none) (hm_isinstance : mg "isinstance" = none) (hm_tuple : mg "tuple" = none) (gc_TURNED : KDs P w K mg "TURNED" g_TURNED) (h_p_is_point : Cal P w K mg base k "is_point" 1 p_is_point) (h_p_is_among : Cal P w K mg base k "is_among" 2 p_is_among) (dn : Dn K mg "is_comparison" "is_comparison" (defArgs (top 16)) (defBody (top 16)) (defScope (top 16)) ["value"]) : Cal P w K mg base (k + 1) "is_comparison" 1 (runDef 1 p_is_comparison_b) :=
  dn.cal sc_p_is_comparison rfl fun f cdv A outer s H E c => b_p_is_comparison hm_list hm_len hm_isinstance hm_tuple gc_TURNED h_p_is_point h_p_is_among c
abbrev N_p_is_good_condition : List Str := ["value", "part"]
theorem nd_p_is_good_condition : N_p_is_good_condition.Nodup := by decide +kernel
theorem sc_p_is_good_condition : FnScope N_p_is_good_condition ["value"] (defScope (top 17)) := ⟨rfl, rfl, rfl, nd_p_is_good_condition, rfl, by decide +kernel, by decide +kernel⟩
theorem b_p_is_good_condition {f : Addr} {cdv : Value} {A : Around} {outer : List PySem.Env} {s : Shared} {H : Hp} {E : XK} (hm_all : mg "all" = none) (hm_len : mg "len" = none) (hm_isinstance : mg "isinstance" = none) (hm_tuple : mg "tuple" = none) (gc_JOINTS : GCon K mg "JOINTS" g_JOINTS) (h_p_is_comparison : Cal P w K mg base k "is_comparison" 1 p_is_comparison) (h_p_is_among : Cal P w K mg base k "is_among" 2 p_is_among)
    (c : Cok (CF P w K mg base N_p_is_good_condition "is_good_condition" (defScope (top 17)) f cdv A outer s H E) E k) : PDSs (CF P w K mg base N_p_is_good_condition "is_good_condition" (defScope (top 17)) f cdv A outer s H E) E (defBody (top 17)) p_is_good_condition_b :=
  ds_cons (dp_if (PW.pt (pwb_or (pb_not (pb_val (pd_isi (gl_ (by kernel_rfl)) hm_isinstance bb_isinstance (gl_ (by kernel_rfl)) hm_tuple bb_tuple (pv_ (by kernel_rfl)) (by decide) rfl (by decide) rfl (fun _ => rfl)) (fun _ => rfl))) (pw_or1 (pb_cmp (od_notIn c.units5) (pd_callB cd_len (gl_ (by kernel_rfl)) hm_len bb_len (pl_cons (pv_ (by kernel_rfl)) (pl_nil) rfl) (by decide) rfl rfl rfl) (pd_tup (pl_cons (pd_int) (pl_cons (pd_int) (pl_nil) rfl) rfl)) rfl)))) (ds_one (dp_ret (pd_bl))) (ds_nil)) <|
  ds_cons (dp_if (pb_val (pd_callU c h_p_is_among (Nat.le_refl _) (gl_ (by kernel_rfl)) (pl_cons (pd_glob (gl_ (by kernel_rfl)) (gc_JOINTS)) (pl_cons (pd_ix (id_ix c.units1) (pv_ (by kernel_rfl)) (pd_int) (fun _ _ => rfl)) (pl_nil) rfl) rfl) rfl rfl rfl) (fun _ => rfl)) (ds_one (dp_ret (pd_callB (cd_all rfl) (gl_ (by kernel_rfl)) hm_all bb_all (pl_cons (pd_lc (own := [(("part" : Str), 1)]) (t := .nm 1) rfl nd_p_is_good_condition (di_val (pd_slice (pv_ (by kernel_rfl)) (pdo_some (pd_int)) (pdo_none))) (blkOk_by (by kernel_rfl)) (fun _ _ _ _ _ => tg_name nd_p_is_good_condition (by kernel_rfl) (.inl (by kernel_rfl)) (.inr (by kernel_rfl))) (fun _ _ _ _ _ => pts_nilD) (fun _ _ _ _ _ => pd_callU c.blk h_p_is_comparison (Nat.le_refl _) (gl_ (by kernel_rfl)) (pl_cons (pv_ (by kernel_rfl)) (pl_nil) rfl) rfl rfl rfl) (fun _ => rfl) (by decide)) (pl_nil) rfl) (by decide) rfl rfl rfl))) (ds_nil)) <|
  ds_one (dp_ret (pd_callU c h_p_is_comparison (Nat.le_refl _) (gl_ (by kernel_rfl)) (pl_cons (pv_ (by kernel_rfl)) (pl_nil) rfl) rfl rfl rfl))
theorem c_p_is_good_condition (hm_all : mg "all" = none) (hm_len : mg "len" = none) (hm_isinstance : mg "isinstance" = none) (hm_tuple : mg "tuple" = none) (gc_JOINTS : GCon K mg "JOINTS" g_JOINTS) (h_p_is_comparison : Cal P w K mg base k "is_comparison" 1 p_is_comparison) (h_p_is_among : Cal P w K mg base k "is_among" 2 p_is_among) (dn : Dn K mg "is_good_condition" "is_good_condition" (defArgs (top 17)) (defBody (top 17)) (defScope (top 17)) ["value"]) : Cal P w K mg base (k + 1) "is_good_condition" 1 (runDef 2 p_is_good_condition_b) :=
  dn.cal sc_p_is_good_condition rfl fun f cdv A outer s H E c => b_p_is_good_condition hm_all hm_len hm_isinstance hm_tuple gc_JOINTS h_p_is_comparison h_p_is_among c
abbrev N_p_is_good_rule : List Str := ["value", "part"]
theorem nd_p_is_good_rule : N_p_is_good_rule.Nodup := by decide +kernel
theorem sc_p_is_good_rule : FnScope N_p_is_good_rule ["value"] (defScope (top 18)) := ⟨rfl, rfl, rfl, nd_p_is_good_rule, rfl, by decide +kernel, by decide +kernel⟩
theorem b_p_is_good_rule {f : Addr} {cdv : Value} {A : Around} {outer : List PySem.Env} {s : Shared} {H : Hp} {E : XK} (hm_all : mg "all" = none) (hm_len : mg "len" = none) (hm_isinstance : mg "isinstance" = none) (hm_tuple : mg "tuple" = none) (h_p_is_good_condition : Cal P w K mg base k "is_good_condition" 1 p_is_good_condition)
    (c : Cok (CF P w K mg base N_p_is_good_rule "is_good_rule" (defScope (top 18)) f cdv A outer s H E) E k) : PDSs (CF P w K mg base N_p_is_good_rule "is_good_rule" (defScope (top 18)) f cdv A outer s H E) E (defBody (top 18)) p_is_good_rule_b :=
  ds_one (dp_ret (pd_and (pd_isi (gl_ (by kernel_rfl)) hm_isinstance bb_isinstance (gl_ (by kernel_rfl)) hm_tuple bb_tuple (pv_ (by kernel_rfl)) (by decide) rfl (by decide) rfl (fun _ => rfl)) (pd_and (pd_cmp (od_eq c.units) (pd_callB cd_len (gl_ (by kernel_rfl)) hm_len bb_len (pl_cons (pv_ (by kernel_rfl)) (pl_nil) rfl) (by decide) rfl rfl rfl) (pd_int) rfl) (pe_one (pd_callB (cd_all rfl) (gl_ (by kernel_rfl)) hm_all bb_all (pl_cons (pd_lc (own := [(("part" : Str), 1)]) (t := .nm 1) rfl nd_p_is_good_rule (di_val (pv_ (by kernel_rfl))) (blkOk_by (by kernel_rfl)) (fun _ _ _ _ _ => tg_name nd_p_is_good_rule (by kernel_rfl) (.inl (by kernel_rfl)) (.inr (by kernel_rfl))) (fun _ _ _ _ _ => pts_nilD) (fun _ _ _ _ _ => pd_callU c.blk h_p_is_good_condition (Nat.le_refl _) (gl_ (by kernel_rfl)) (pl_cons (pv_ (by kernel_rfl)) (pl_nil) rfl) rfl rfl rfl) (fun _ => rfl) (by decide)) (pl_nil) rfl) (by decide) rfl rfl rfl)))))
theorem c_p_is_good_rule (hm_all : mg "all" = none) (hm_len : mg "len" = none) (hm_isinstance : mg "isinstance" = none) (hm_tuple : mg "tuple" = none) (h_p_is_good_condition : Cal P w K mg base k "is_good_condition" 1 p_is_good_condition) (dn : Dn K mg "is_good_rule" "is_good_rule" (defArgs (top 18)) (defBody (top 18)) (defScope (top 18)) ["value"]) : Cal P w K mg base (k + 1) "is_good_rule" 1 (runDef 2 p_is_good_rule_b) :=
  dn.cal sc_p_is_good_rule rfl fun f cdv A outer s H E c => b_p_is_good_rule hm_all hm_len hm_isinstance hm_tuple h_p_is_good_condition c
abbrev N_p_need_rule : List Str := ["value"]
theorem nd_p_need_rule : N_p_need_rule.Nodup := by decide +kernel
theorem sc_p_need_rule : FnScope N_p_need_rule ["value"] (defScope (top 20)) := ⟨rfl, rfl, rfl, nd_p_need_rule, rfl, by decide +kernel, by decide +kernel⟩
theorem b_p_need_rule {j : Nat} {f : Addr} {cdv : Value} {A : Around} {outer : List PySem.Env} {s : Shared} {H : Hp} {E : XK} (hj : j + 3 ≤ k) (hX_InvalidRule : ExF K mg "InvalidRule") (h_p_is_good_rule : Cal P w K mg base k "is_good_rule" 1 p_is_good_rule)
    (c : Cok (CF P w K mg base N_p_need_rule "need_rule" (defScope (top 20)) f cdv A outer s H E) E k) : PDSs (CF P w K mg base N_p_need_rule "need_rule" (defScope (top 20)) f cdv A outer s H E) E (defBody (top 20)) p_need_rule_b :=
  ds_one (dp_if (pb_not (pb_val (pd_callU c h_p_is_good_rule (Nat.le_refl _) (gl_ (by kernel_rfl)) (pl_cons (pv_ (by kernel_rfl)) (pl_nil) rfl) rfl rfl rfl) (fun _ => rfl))) (ds_one (pds_raise rfl c hX_InvalidRule (gl_ (by kernel_rfl)))) (ds_nil))
theorem c_p_need_rule {j : Nat} (hj : j + 3 ≤ k) (hX_InvalidRule : ExF K mg "InvalidRule") (h_p_is_good_rule : Cal P w K mg base k "is_good_rule" 1 p_is_good_rule) (dn : Dn K mg "need_rule" "need_rule" (defArgs (top 20)) (defBody (top 20)) (defScope (top 20)) ["value"]) : Cal P w K mg base (k + 1) "need_rule" 1 (runDef 1 p_need_rule_b) :=
  dn.cal sc_p_need_rule rfl fun f cdv A outer s H E c => b_p_need_rule hj hX_InvalidRule h_p_is_good_rule c
abbrev N_p_is_good_drag : List Str := ["value", "heights", "held", "grab", "height"]
theorem nd_p_is_good_drag : N_p_is_good_drag.Nodup := by decide +kernel
theorem sc_p_is_good_drag : FnScope N_p_is_good_drag ["value"] (defScope (top 19)) := ⟨rfl, rfl, rfl, nd_p_is_good_drag, rfl, by decide +kernel, by decide +kernel⟩
theorem b_p_is_good_drag {f : Addr} {cdv : Value} {A : Around} {outer : List PySem.Env} {s : Shared} {H : Hp} {E : XK} (hm_len : mg "len" = none) (hm_all : mg "all" = none) (hm_isinstance : mg "isinstance" = none) (hm_tuple : mg "tuple" = none) (h_p_is_number : Cal P w K mg base k "is_number" 1 p_is_number)
    (c : Cok (CF P w K mg base N_p_is_good_drag "is_good_drag" (defScope (top 19)) f cdv A outer s H E) E k) : PDSs (CF P w K mg base N_p_is_good_drag "is_good_drag" (defScope (top 19)) f cdv A outer s H E) E (defBody (top 19)) p_is_good_drag_b :=
  ds_cons (dp_if (PW.pt (pwb_or (pb_not (pb_val (pd_isi (gl_ (by kernel_rfl)) hm_isinstance bb_isinstance (gl_ (by kernel_rfl)) hm_tuple bb_tuple (pv_ (by kernel_rfl)) (by decide) rfl (by decide) rfl (fun _ => rfl)) (fun _ => rfl))) (pwb_or (pb_cmp (od_ne c.units) (pd_callB cd_len (gl_ (by kernel_rfl)) hm_len bb_len (pl_cons (pv_ (by kernel_rfl)) (pl_nil) rfl) (by decide) rfl rfl rfl) (pd_int) rfl) (pw_or1 (pb_not (pb_val (pd_isi (gl_ (by kernel_rfl)) hm_isinstance bb_isinstance (gl_ (by kernel_rfl)) hm_tuple bb_tuple (pd_ix (id_ix c.units1) (pv_ (by kernel_rfl)) (pd_int) (fun _ _ => rfl)) (by decide) rfl (by decide) rfl (fun _ => rfl)) (fun _ => rfl))))))) (ds_one (dp_ret (pd_bl))) (ds_nil)) <|
  ds_cons (dp_asg (pv_ (by kernel_rfl)) (dg_of (tg_tup rfl (tgs_cons (tg_name nd_p_is_good_drag (by kernel_rfl) (.inl (by kernel_rfl)) (.inr (by kernel_rfl))) (tgs_cons (tg_name nd_p_is_good_drag (by kernel_rfl) (.inl (by kernel_rfl)) (.inr (by kernel_rfl))) (tgs_cons (tg_name nd_p_is_good_drag (by kernel_rfl) (.inl (by kernel_rfl)) (.inr (by kernel_rfl))) (tgs_nil) (by kernel_rfl)) (by kernel_rfl)) (by kernel_rfl)) (by kernel_rfl) (by kernel_rfl))) rfl rfl rfl) <|
  ds_cons (dp_if (PW.pt (pwb_or (pb_not (pb_chain od_le od_le (pd_int) (pd_callB cd_len (gl_ (by kernel_rfl)) hm_len bb_len (pl_cons (pv_ (by kernel_rfl)) (pl_nil) rfl) (by decide) rfl rfl rfl) (pd_int) rfl)) (pw_or1 (pb_not (pb_val (pd_callB (cd_all rfl) (gl_ (by kernel_rfl)) hm_all bb_all (pl_cons (pd_lc (own := [(("height" : Str), 4)]) (t := .nm 4) rfl nd_p_is_good_drag (di_val (pv_ (by kernel_rfl))) (blkOk_by (by kernel_rfl)) (fun _ _ _ _ _ => tg_name nd_p_is_good_drag (by kernel_rfl) (.inl (by kernel_rfl)) (.inr (by kernel_rfl))) (fun _ _ _ _ _ => pts_nilD) (fun _ _ _ _ _ => pd_and (pd_callU c.blk h_p_is_number (Nat.le_refl _) (gl_ (by kernel_rfl)) (pl_cons (pv_ (by kernel_rfl)) (pl_nil) rfl) rfl rfl rfl) (pe_one (pd_cmp od_gt (pv_ (by kernel_rfl)) (pd_int) rfl))) (fun _ => rfl) (by decide)) (pl_nil) rfl) (by decide) rfl rfl rfl) (fun _ => rfl)))))) (ds_one (dp_ret (pd_bl))) (ds_nil)) <|
  ds_one (dp_ret (pd_and (pd_callU c h_p_is_number (Nat.le_refl _) (gl_ (by kernel_rfl)) (pl_cons (pv_ (by kernel_rfl)) (pl_nil) rfl) rfl rfl rfl) (pd_and (pd_chain od_le od_lt (pd_int) (pv_ (by kernel_rfl)) (pd_callB cd_len (gl_ (by kernel_rfl)) hm_len bb_len (pl_cons (pv_ (by kernel_rfl)) (pl_nil) rfl) (by decide) rfl rfl rfl) rfl) (pd_and (pd_callU c h_p_is_number (Nat.le_refl _) (gl_ (by kernel_rfl)) (pl_cons (pv_ (by kernel_rfl)) (pl_nil) rfl) rfl rfl rfl) (pe_one (pd_chain od_le od_le (pd_int) (pv_ (by kernel_rfl)) (pd_ix (id_ix c.units1) (pv_ (by kernel_rfl)) (pv_ (by kernel_rfl)) (fun _ _ => rfl)) rfl))))))
theorem c_p_is_good_drag (hm_len : mg "len" = none) (hm_all : mg "all" = none) (hm_isinstance : mg "isinstance" = none) (hm_tuple : mg "tuple" = none) (h_p_is_number : Cal P w K mg base k "is_number" 1 p_is_number) (dn : Dn K mg "is_good_drag" "is_good_drag" (defArgs (top 19)) (defBody (top 19)) (defScope (top 19)) ["value"]) : Cal P w K mg base (k + 1) "is_good_drag" 1 (runDef 5 p_is_good_drag_b) :=
  dn.cal sc_p_is_good_drag rfl fun f cdv A outer s H E c => b_p_is_good_drag hm_len hm_all hm_isinstance hm_tuple h_p_is_number c
abbrev N_p_need_drag : List Str := ["value"]
theorem nd_p_need_drag : N_p_need_drag.Nodup := by decide +kernel
theorem sc_p_need_drag : FnScope N_p_need_drag ["value"] (defScope (top 21)) := ⟨rfl, rfl, rfl, nd_p_need_drag, rfl, by decide +kernel, by decide +kernel⟩
theorem b_p_need_drag {j : Nat} {f : Addr} {cdv : Value} {A : Around} {outer : List PySem.Env} {s : Shared} {H : Hp} {E : XK} (hj : j + 3 ≤ k) (hX_InvalidDrag : ExF K mg "InvalidDrag") (h_p_is_good_drag : Cal P w K mg base k "is_good_drag" 1 p_is_good_drag)
    (c : Cok (CF P w K mg base N_p_need_drag "need_drag" (defScope (top 21)) f cdv A outer s H E) E k) : PDSs (CF P w K mg base N_p_need_drag "need_drag" (defScope (top 21)) f cdv A outer s H E) E (defBody (top 21)) p_need_drag_b :=
  ds_one (dp_if (pb_not (pb_val (pd_callU c h_p_is_good_drag (Nat.le_refl _) (gl_ (by kernel_rfl)) (pl_cons (pv_ (by kernel_rfl)) (pl_nil) rfl) rfl rfl rfl) (fun _ => rfl))) (ds_one (pds_raise rfl c hX_InvalidDrag (gl_ (by kernel_rfl)))) (ds_nil))
theorem c_p_need_drag {j : Nat} (hj : j + 3 ≤ k) (hX_InvalidDrag : ExF K mg "InvalidDrag") (h_p_is_good_drag : Cal P w K mg base k "is_good_drag" 1 p_is_good_drag) (dn : Dn K mg "need_drag" "need_drag" (defArgs (top 21)) (defBody (top 21)) (defScope (top 21)) ["value"]) : Cal P w K mg base (k + 1) "need_drag" 1 (runDef 1 p_need_drag_b) :=
  dn.cal sc_p_need_drag rfl fun f cdv A outer s H E c => b_p_need_drag hj hX_InvalidDrag h_p_is_good_drag c
abbrev N_p_Pull_init : List Str := ["self", "rule", "drag", "heights", "held", "grab"]
theorem nd_p_Pull_init : N_p_Pull_init.Nodup := by decide +kernel
theorem sc_p_Pull_init : FnScope N_p_Pull_init ["self", "rule", "drag"] (defScope (memS (top 42) 0)) := ⟨rfl, rfl, rfl, nd_p_Pull_init, rfl, by decide +kernel, by decide +kernel⟩
theorem b_p_Pull_init {j : Nat} {f : Addr} {cdv : Value} {A : Around} {outer : List PySem.Env} {s : Shared} {H : Hp} {E : XK} (hj : j + 3 ≤ k) (hF_Pull : ClsF K "Pull") (hN_Pull_past : NoA K "Pull" "past") (hN_Pull_now : NoA K "Pull" "now") (hN_Pull_drag : NoA K "Pull" "drag") (hN_Pull_rule : NoA K "Pull" "rule") (hm_sum : mg "sum" = none) (h_p_need_drag : Cal P w K mg base k "need_drag" 1 p_need_drag) (h_p_need_rule : Cal P w K mg base k "need_rule" 1 p_need_rule)
    (c : Cok (CF P w K mg base N_p_Pull_init "Pull.__init__" (defScope (memS (top 42) 0)) f cdv A outer s H E) E k) : PDSs (CF P w K mg base N_p_Pull_init "Pull.__init__" (defScope (memS (top 42) 0)) f cdv A outer s H E) E (defBody (memS (top 42) 0)) p_Pull_init_b :=
  ds_cons (dp_expr (pd_callU c h_p_need_rule (Nat.le_refl _) (gl_ (by kernel_rfl)) (pl_cons (pv_ (by kernel_rfl)) (pl_nil) rfl) rfl rfl rfl) rfl) <|
  ds_cons (dp_expr (pd_callU c h_p_need_drag (Nat.le_refl _) (gl_ (by kernel_rfl)) (pl_cons (pv_ (by kernel_rfl)) (pl_nil) rfl) rfl rfl rfl) rfl) <|
  ds_cons (dp_asg (pv_ (by kernel_rfl)) (dg_of (tg_tup rfl (tgs_cons (tg_name nd_p_Pull_init (by kernel_rfl) (.inl (by kernel_rfl)) (.inr (by kernel_rfl))) (tgs_cons (tg_name nd_p_Pull_init (by kernel_rfl) (.inl (by kernel_rfl)) (.inr (by kernel_rfl))) (tgs_cons (tg_name nd_p_Pull_init (by kernel_rfl) (.inl (by kernel_rfl)) (.inr (by kernel_rfl))) (tgs_nil) (by kernel_rfl)) (by kernel_rfl)) (by kernel_rfl)) (by kernel_rfl) (by kernel_rfl))) rfl rfl rfl) <|
  ds_cons (dp_fld hF_Pull hN_Pull_rule (pv_ (by kernel_rfl)) (pv_ (by kernel_rfl)) rfl) <|
  ds_cons (dp_fld hF_Pull hN_Pull_drag (pv_ (by kernel_rfl)) (pv_ (by kernel_rfl)) rfl) <|
  ds_cons (dp_fld hF_Pull hN_Pull_now (pv_ (by kernel_rfl)) (pd_tup (pl_cons (pd_bin od_add (pd_callB (cd_sum rfl) (gl_ (by kernel_rfl)) hm_sum bb_sum (pl_cons (pd_slice (pv_ (by kernel_rfl)) (pdo_none) (pdo_some (pv_ (by kernel_rfl)))) (pl_nil) rfl) (by decide) rfl rfl rfl) (pv_ (by kernel_rfl))) (pl_cons (pv_ (by kernel_rfl)) (pl_cons (pd_tup (pl_nil)) (pl_nil) rfl) rfl) rfl)) rfl) <|
  ds_one (dp_fld hF_Pull hN_Pull_past (pv_ (by kernel_rfl)) (pd_own (pl_nil)) rfl)
theorem c_p_Pull_init {j : Nat} {f : Addr} (hj : j + 3 ≤ k) (hF_Pull : ClsF K "Pull") (hN_Pull_past : NoA K "Pull" "past") (hN_Pull_now : NoA K "Pull" "now") (hN_Pull_drag : NoA K "Pull" "drag") (hN_Pull_rule : NoA K "Pull" "rule") (hm_sum : mg "sum" = none) (h_p_need_drag : Cal P w K mg base k "need_drag" 1 p_need_drag) (h_p_need_rule : Cal P w K mg base k "need_rule" 1 p_need_rule) (dn : DnA K f "__init__" "Pull.__init__" (defArgs (memS (top 42) 0)) (defBody (memS (top 42) 0)) (defScope (memS (top 42) 0)) ["self", "rule", "drag"]) : FnR P w K mg base (L2.CX P w) (k + 1) f (spD K 3 (runDef 6 p_Pull_init_b)) :=
  dn.fnR sc_p_Pull_init rfl fun f cdv A outer s H E c => b_p_Pull_init hj hF_Pull hN_Pull_past hN_Pull_now hN_Pull_drag hN_Pull_rule hm_sum h_p_need_drag h_p_need_rule c
abbrev N_p_Pull_pointer : List Str := ["self"]
theorem nd_p_Pull_pointer : N_p_Pull_pointer.Nodup := by decide +kernel
theorem sc_p_Pull_pointer : FnScope N_p_Pull_pointer ["self"] (defScope (memS (top 42) 1)) := ⟨rfl, rfl, rfl, nd_p_Pull_pointer, rfl, by decide +kernel, by decide +kernel⟩
theorem b_p_Pull_pointer {j : Nat} {f : Addr} {cdv : Value} {A : Around} {outer : List PySem.Env} {s : Shared} {H : Hp} {E : XK} (hj : j + 3 ≤ k) (hF_Pull : ClsF K "Pull") (hN_Pull_now : NoA K "Pull" "now")
    (c : Cok (CF P w K mg base N_p_Pull_pointer "Pull.pointer" (defScope (memS (top 42) 1)) f cdv A outer s H E) E k) : PDSs (CF P w K mg base N_p_Pull_pointer "Pull.pointer" (defScope (memS (top 42) 1)) f cdv A outer s H E) E (defBody (memS (top 42) 1)) p_Pull_pointer_b :=
  ds_one (dp_ret (pd_ix (id_ix c.units1) (pd_fld hF_Pull hN_Pull_now (pv_ (by kernel_rfl)) rfl) (pd_int) (fun _ _ => rfl)))
theorem c_p_Pull_pointer {j : Nat} {f : Addr} (hj : j + 3 ≤ k) (hF_Pull : ClsF K "Pull") (hN_Pull_now : NoA K "Pull" "now") (dn : DnA K f "pointer" "Pull.pointer" (defArgs (memS (top 42) 1)) (defBody (memS (top 42) 1)) (defScope (memS (top 42) 1)) ["self"]) : FnR P w K mg base (L2.CX P w) (k + 1) f (spD K 1 (runDef 1 p_Pull_pointer_b)) :=
  dn.fnR sc_p_Pull_pointer rfl fun f cdv A outer s H E c => b_p_Pull_pointer hj hF_Pull hN_Pull_now c
abbrev N_p_Pull_place : List Str := ["self"]
theorem nd_p_Pull_place : N_p_Pull_place.Nodup := by decide +kernel
theorem sc_p_Pull_place : FnScope N_p_Pull_place ["self"] (defScope (memS (top 42) 2)) := ⟨rfl, rfl, rfl, nd_p_Pull_place, rfl, by decide +kernel, by decide +kernel⟩
theorem b_p_Pull_place {j : Nat} {f : Addr} {cdv : Value} {A : Around} {outer : List PySem.Env} {s : Shared} {H : Hp} {E : XK} (hj : j + 3 ≤ k) (hF_Pull : ClsF K "Pull") (hN_Pull_now : NoA K "Pull" "now")
    (c : Cok (CF P w K mg base N_p_Pull_place "Pull.place" (defScope (memS (top 42) 2)) f cdv A outer s H E) E k) : PDSs (CF P w K mg base N_p_Pull_place "Pull.place" (defScope (memS (top 42) 2)) f cdv A outer s H E) E (defBody (memS (top 42) 2)) p_Pull_place_b :=
  ds_one (dp_ret (pd_ix (id_ix c.units1) (pd_fld hF_Pull hN_Pull_now (pv_ (by kernel_rfl)) rfl) (pd_int) (fun _ _ => rfl)))
theorem c_p_Pull_place {j : Nat} {f : Addr} (hj : j + 3 ≤ k) (hF_Pull : ClsF K "Pull") (hN_Pull_now : NoA K "Pull" "now") (dn : DnA K f "place" "Pull.place" (defArgs (memS (top 42) 2)) (defBody (memS (top 42) 2)) (defScope (memS (top 42) 2)) ["self"]) : FnR P w K mg base (L2.CX P w) (k + 1) f (spD K 1 (runDef 1 p_Pull_place_b)) :=
  dn.fnR sc_p_Pull_place rfl fun f cdv A outer s H E c => b_p_Pull_place hj hF_Pull hN_Pull_now c
abbrev N_p_Pull_order : List Str := ["self", "held", "others", "index"]
theorem nd_p_Pull_order : N_p_Pull_order.Nodup := by decide +kernel
theorem sc_p_Pull_order : FnScope N_p_Pull_order ["self"] (defScope (memS (top 42) 3)) := ⟨rfl, rfl, rfl, nd_p_Pull_order, rfl, by decide +kernel, by decide +kernel⟩
theorem b_p_Pull_order {j : Nat} {f : Addr} {cdv : Value} {A : Around} {outer : List PySem.Env} {s : Shared} {H : Hp} {E : XK} (hj : j + 3 ≤ k) (hF_Pull : ClsF K "Pull") (hN_Pull_now : NoA K "Pull" "now") (hN_Pull_drag : NoA K "Pull" "drag") (hm_tuple : mg "tuple" = none) (hm_range : mg "range" = none) (hm_len : mg "len" = none)
    (c : Cok (CF P w K mg base N_p_Pull_order "Pull.order" (defScope (memS (top 42) 3)) f cdv A outer s H E) E k) : PDSs (CF P w K mg base N_p_Pull_order "Pull.order" (defScope (memS (top 42) 3)) f cdv A outer s H E) E (defBody (memS (top 42) 3)) p_Pull_order_b :=
  ds_cons (dp_set nd_p_Pull_order (by kernel_rfl) (.inr (by kernel_rfl)) (pd_ix (id_ix c.units1) (pd_fld hF_Pull hN_Pull_drag (pv_ (by kernel_rfl)) rfl) (pd_int) (fun _ _ => rfl)) rfl (.inl rfl)) <|
  ds_cons (dp_set nd_p_Pull_order (by kernel_rfl) (.inl (by kernel_rfl)) (pd_callTy cd_tuple (gl_ (by kernel_rfl)) hm_tuple bb_tuple (pl_cons (pd_lc (own := [(("index" : Str), 3)]) (t := .nm 3) rfl nd_p_Pull_order (di_range1 (gl_ (by kernel_rfl)) hm_range (pl_cons (pd_callB cd_len (gl_ (by kernel_rfl)) hm_len bb_len (pl_cons (pd_ix (id_ix c.units1) (pd_fld hF_Pull hN_Pull_drag (pv_ (by kernel_rfl)) rfl) (pd_int) (fun _ _ => rfl)) (pl_nil) rfl) (by decide) rfl rfl rfl) (pl_nil) rfl) rfl) (blkOk_by (by kernel_rfl)) (fun _ _ _ _ _ => tg_name nd_p_Pull_order (by kernel_rfl) (.inl (by kernel_rfl)) (.inr (by kernel_rfl))) (fun _ _ _ _ _ => pts_one (pb_cmp (od_ne c.blk.units) (pv_ (by kernel_rfl)) (pv_ (by kernel_rfl)) rfl)) (fun _ _ _ _ _ => pv_ (by kernel_rfl)) (fun _ => rfl) (by decide)) (pl_nil) rfl) (by decide) rfl rfl rfl) rfl (.inl rfl)) <|
  ds_one (dp_ret (pd_bin od_add (pd_bin od_add (pd_slice (pv_ (by kernel_rfl)) (pdo_none) (pdo_some (pd_ix (id_ix c.units1) (pd_fld hF_Pull hN_Pull_now (pv_ (by kernel_rfl)) rfl) (pd_int) (fun _ _ => rfl)))) (pd_tup (pl_cons (pv_ (by kernel_rfl)) (pl_nil) rfl))) (pd_slice (pv_ (by kernel_rfl)) (pdo_some (pd_ix (id_ix c.units1) (pd_fld hF_Pull hN_Pull_now (pv_ (by kernel_rfl)) rfl) (pd_int) (fun _ _ => rfl))) (pdo_none))))
theorem c_p_Pull_order {j : Nat} {f : Addr} (hj : j + 3 ≤ k) (hF_Pull : ClsF K "Pull") (hN_Pull_now : NoA K "Pull" "now") (hN_Pull_drag : NoA K "Pull" "drag") (hm_tuple : mg "tuple" = none) (hm_range : mg "range" = none) (hm_len : mg "len" = none) (dn : DnA K f "order" "Pull.order" (defArgs (memS (top 42) 3)) (defBody (memS (top 42) 3)) (defScope (memS (top 42) 3)) ["self"]) : FnR P w K mg base (L2.CX P w) (k + 1) f (spD K 1 (runDef 4 p_Pull_order_b)) :=
  dn.fnR sc_p_Pull_order rfl fun f cdv A outer s H E c => b_p_Pull_order hj hF_Pull hN_Pull_now hN_Pull_drag hm_tuple hm_range hm_len c
abbrev N_p_Pull_orderN : List Str := ["self", "held", "others", "index"]
theorem nd_p_Pull_orderN : N_p_Pull_orderN.Nodup := by decide +kernel
theorem sc_p_Pull_orderN : FnScope N_p_Pull_orderN ["self"] (defScope (memS (top 42) 3)) := ⟨rfl, rfl, rfl, nd_p_Pull_orderN, rfl, by decide +kernel, by decide +kernel⟩
theorem b_p_Pull_orderN {j : Nat} {f : Addr} {cdv : Value} {A : Around} {outer : List PySem.Env} {s : Shared} {H : Hp} {E : XK} (hj : j + 3 ≤ k) (hF_Pull : ClsF K "Pull") (hN_Pull_now : NoA K "Pull" "now") (hN_Pull_drag : NoA K "Pull" "drag") (hm_tuple : mg "tuple" = none) (hm_range : mg "range" = none) (hm_len : mg "len" = none)
    (c : Cok (CF P w K mg base N_p_Pull_orderN "Pull.order" (defScope (memS (top 42) 3)) f cdv A outer s H E) E k) : PDSs (CF P w K mg base N_p_Pull_orderN "Pull.order" (defScope (memS (top 42) 3)) f cdv A outer s H E) E (defBody (memS (top 42) 3)) p_Pull_orderN_b :=
  ds_cons (dp_set nd_p_Pull_orderN (by kernel_rfl) (.inr (by kernel_rfl)) (pd_ix (id_ix c.units1) (pd_fld hF_Pull hN_Pull_drag (pv_ (by kernel_rfl)) rfl) (pd_int) (fun _ _ => rfl)) rfl (.inl rfl)) <|
  ds_cons (dp_set nd_p_Pull_orderN (by kernel_rfl) (.inl (by kernel_rfl)) (pd_callTy cd_tuple (gl_ (by kernel_rfl)) hm_tuple bb_tuple (pl_cons (pd_lc (own := [(("index" : Str), 3)]) (t := .nm 3) rfl nd_p_Pull_orderN (di_range1 (gl_ (by kernel_rfl)) hm_range (pl_cons (pd_callB cd_len (gl_ (by kernel_rfl)) hm_len bb_len (pl_cons (pd_ix (id_ix c.units1) (pd_fld hF_Pull hN_Pull_drag (pv_ (by kernel_rfl)) rfl) (pd_int) (fun _ _ => rfl)) (pl_nil) rfl) (by decide) rfl rfl rfl) (pl_nil) rfl) rfl) (blkOk_by (by kernel_rfl)) (fun _ _ _ _ _ => tg_name nd_p_Pull_orderN (by kernel_rfl) (.inl (by kernel_rfl)) (.inr (by kernel_rfl))) (fun _ _ _ _ _ => pts_one (pb_cmp (od_ne c.blk.units) (pv_ (by kernel_rfl)) (pv_ (by kernel_rfl)) rfl)) (fun _ _ _ _ _ => pv_ (by kernel_rfl)) (fun _ => rfl) (by decide)) (pl_nil) rfl) (by decide) rfl rfl rfl) rfl (.inl rfl)) <|
  ds_one (dp_ret (pd_bin od_addN (pd_bin od_addN (pd_slice (pv_ (by kernel_rfl)) (pdo_none) (pdo_some (pd_ix (id_ix c.units1) (pd_fld hF_Pull hN_Pull_now (pv_ (by kernel_rfl)) rfl) (pd_int) (fun _ _ => rfl)))) (pd_tupN (pl_cons (pv_ (by kernel_rfl)) (pl_nil) rfl))) (pd_slice (pv_ (by kernel_rfl)) (pdo_some (pd_ix (id_ix c.units1) (pd_fld hF_Pull hN_Pull_now (pv_ (by kernel_rfl)) rfl) (pd_int) (fun _ _ => rfl))) (pdo_none))))
theorem c_p_Pull_orderN {j : Nat} {f : Addr} (hj : j + 3 ≤ k) (hF_Pull : ClsF K "Pull") (hN_Pull_now : NoA K "Pull" "now") (hN_Pull_drag : NoA K "Pull" "drag") (hm_tuple : mg "tuple" = none) (hm_range : mg "range" = none) (hm_len : mg "len" = none) (dn : DnA K f "order" "Pull.order" (defArgs (memS (top 42) 3)) (defBody (memS (top 42) 3)) (defScope (memS (top 42) 3)) ["self"]) : FnR P w K mg base (L2.CX P w) (k + 1) f (spD K 1 (runDef 4 p_Pull_orderN_b)) :=
  dn.fnR sc_p_Pull_orderN rfl fun f cdv A outer s H E c => b_p_Pull_orderN hj hF_Pull hN_Pull_now hN_Pull_drag hm_tuple hm_range hm_len c
abbrev N_p_Pull_drawn : List Str := ["self"]
theorem nd_p_Pull_drawn : N_p_Pull_drawn.Nodup := by decide +kernel
theorem sc_p_Pull_drawn : FnScope N_p_Pull_drawn ["self"] (defScope (memS (top 42) 4)) := ⟨rfl, rfl, rfl, nd_p_Pull_drawn, rfl, by decide +kernel, by decide +kernel⟩
theorem b_p_Pull_drawn {j : Nat} {f : Addr} {cdv : Value} {A : Around} {outer : List PySem.Env} {s : Shared} {H : Hp} {E : XK} (hj : j + 3 ≤ k) (hF_Pull : ClsF K "Pull") (hN_Pull_now : NoA K "Pull" "now") (hN_Pull_drag : NoA K "Pull" "drag")
    (c : Cok (CF P w K mg base N_p_Pull_drawn "Pull.drawn" (defScope (memS (top 42) 4)) f cdv A outer s H E) E k) : PDSs (CF P w K mg base N_p_Pull_drawn "Pull.drawn" (defScope (memS (top 42) 4)) f cdv A outer s H E) E (defBody (memS (top 42) 4)) p_Pull_drawn_b :=
  ds_one (dp_ret (pd_bin od_sub (pd_ix (id_ix c.units1) (pd_fld hF_Pull hN_Pull_now (pv_ (by kernel_rfl)) rfl) (pd_int) (fun _ _ => rfl)) (pd_ix (id_ix c.units1) (pd_fld hF_Pull hN_Pull_drag (pv_ (by kernel_rfl)) rfl) (pd_int) (fun _ _ => rfl))))
theorem c_p_Pull_drawn {j : Nat} {f : Addr} (hj : j + 3 ≤ k) (hF_Pull : ClsF K "Pull") (hN_Pull_now : NoA K "Pull" "now") (hN_Pull_drag : NoA K "Pull" "drag") (dn : DnA K f "drawn" "Pull.drawn" (defArgs (memS (top 42) 4)) (defBody (memS (top 42) 4)) (defScope (memS (top 42) 4)) ["self"]) : FnR P w K mg base (L2.CX P w) (k + 1) f (spD K 1 (runDef 1 p_Pull_drawn_b)) :=
  dn.fnR sc_p_Pull_drawn rfl fun f cdv A outer s H E c => b_p_Pull_drawn hj hF_Pull hN_Pull_now hN_Pull_drag c
abbrev N_p_point_at : List Str := ["point", "spans", "top", "height"]
theorem nd_p_point_at : N_p_point_at.Nodup := by decide +kernel
theorem sc_p_point_at : FnScope N_p_point_at ["point", "spans"] (defScope (top 27)) := ⟨rfl, rfl, rfl, nd_p_point_at, rfl, by decide +kernel, by decide +kernel⟩
theorem b_p_point_at {f : Addr} {cdv : Value} {A : Around} {outer : List PySem.Env} {s : Shared} {H : Hp} {E : XK} 
    (c : Cok (CF P w K mg base N_p_point_at "point_at" (defScope (top 27)) f cdv A outer s H E) E k) : PDSs (CF P w K mg base N_p_point_at "point_at" (defScope (top 27)) f cdv A outer s H E) E (defBody (top 27)) p_point_at_b :=
  ds_cons (dp_if (pb_cmp (od_eq c.units) (pd_ix (id_ix c.units1) (pv_ (by kernel_rfl)) (pd_int) (fun _ _ => rfl)) (pd_str) rfl) (ds_one (dp_ret (pd_bin od_mul (pd_int) (pd_ix (id_ix c.units1) (pv_ (by kernel_rfl)) (pd_str) (fun _ _ => rfl))))) (ds_nil)) <|
  ds_cons (dp_asg (pd_ix (id_ix c.units1) (pv_ (by kernel_rfl)) (pd_ix (id_ix c.units1) (pv_ (by kernel_rfl)) (pd_int) (fun _ _ => rfl)) (fun _ _ => rfl)) (dg_of (tg_tup rfl (tgs_cons (tg_name nd_p_point_at (by kernel_rfl) (.inl (by kernel_rfl)) (.inr (by kernel_rfl))) (tgs_cons (tg_name nd_p_point_at (by kernel_rfl) (.inl (by kernel_rfl)) (.inr (by kernel_rfl))) (tgs_nil) (by kernel_rfl)) (by kernel_rfl)) (by kernel_rfl) (by kernel_rfl))) rfl rfl rfl) <|
  ds_one (dp_ret (pd_bin od_add (pd_bin od_mul (pd_int) (pv_ (by kernel_rfl))) (pd_bin od_mul (pd_ix (id_ix c.units1) (pv_ (by kernel_rfl)) (pd_int) (fun _ _ => rfl)) (pv_ (by kernel_rfl)))))
theorem c_p_point_at  (dn : Dn K mg "point_at" "point_at" (defArgs (top 27)) (defBody (top 27)) (defScope (top 27)) ["point", "spans"]) : Cal P w K mg base (k + 1) "point_at" 2 (runDef 4 p_point_at_b) :=
  dn.cal sc_p_point_at rfl fun f cdv A outer s H E c => b_p_point_at  c
abbrev N_p_is_so : List Str := ["comparison", "spans", "word", "one", "other", "left", "right"]
theorem nd_p_is_so : N_p_is_so.Nodup := by decide +kernel
theorem sc_p_is_so : FnScope N_p_is_so ["comparison", "spans"] (defScope (top 28)) := ⟨rfl, rfl, rfl, nd_p_is_so, rfl, by decide +kernel, by decide +kernel⟩
theorem b_p_is_so {f : Addr} {cdv : Value} {A : Around} {outer : List PySem.Env} {s : Shared} {H : Hp} {E : XK} (h_p_point_at : Cal P w K mg base k "point_at" 2 p_point_at)
    (c : Cok (CF P w K mg base N_p_is_so "is_so" (defScope (top 28)) f cdv A outer s H E) E k) : PDSs (CF P w K mg base N_p_is_so "is_so" (defScope (top 28)) f cdv A outer s H E) E (defBody (top 28)) p_is_so_b :=
  ds_cons (dp_asg (pv_ (by kernel_rfl)) (dg_of (tg_tup rfl (tgs_cons (tg_name nd_p_is_so (by kernel_rfl) (.inl (by kernel_rfl)) (.inr (by kernel_rfl))) (tgs_cons (tg_name nd_p_is_so (by kernel_rfl) (.inl (by kernel_rfl)) (.inr (by kernel_rfl))) (tgs_cons (tg_name nd_p_is_so (by kernel_rfl) (.inl (by kernel_rfl)) (.inr (by kernel_rfl))) (tgs_nil) (by kernel_rfl)) (by kernel_rfl)) (by kernel_rfl)) (by kernel_rfl) (by kernel_rfl))) rfl rfl rfl) <|
  ds_cons (dp_par2 rfl nd_p_is_so (by kernel_rfl) (by kernel_rfl) (by decide) (by kernel_rfl) (by kernel_rfl) (pl_cons (pd_callU c h_p_point_at (Nat.le_refl _) (gl_ (by kernel_rfl)) (pl_cons (pv_ (by kernel_rfl)) (pl_cons (pv_ (by kernel_rfl)) (pl_nil) rfl) rfl) rfl rfl rfl) (pl_cons (pd_callU c h_p_point_at (Nat.le_refl _) (gl_ (by kernel_rfl)) (pl_cons (pv_ (by kernel_rfl)) (pl_cons (pv_ (by kernel_rfl)) (pl_nil) rfl) rfl) rfl rfl rfl) (pl_nil) rfl) rfl) rfl rfl) <|
  ds_cons (dp_if (pb_cmp (od_in c.units5) (pv_ (by kernel_rfl)) (pd_tup (pl_cons (pd_str) (pl_cons (pd_str) (pl_nil) rfl) rfl)) rfl) (ds_one (dp_ret (pd_cmp (od_eq c.units) (pd_cmp od_gt (pv_ (by kernel_rfl)) (pv_ (by kernel_rfl)) rfl) (pd_cmp (od_eq c.units) (pv_ (by kernel_rfl)) (pd_str) rfl) rfl))) (ds_nil)) <|
  ds_one (dp_ret (pd_cmp (od_eq c.units) (pd_cmp od_lt (pv_ (by kernel_rfl)) (pv_ (by kernel_rfl)) rfl) (pd_cmp (od_eq c.units) (pv_ (by kernel_rfl)) (pd_str) rfl) rfl))
theorem c_p_is_so (h_p_point_at : Cal P w K mg base k "point_at" 2 p_point_at) (dn : Dn K mg "is_so" "is_so" (defArgs (top 28)) (defBody (top 28)) (defScope (top 28)) ["comparison", "spans"]) : Cal P w K mg base (k + 1) "is_so" 2 (runDef 7 p_is_so_b) :=
  dn.cal sc_p_is_so rfl fun f cdv A outer s H E c => b_p_is_so h_p_point_at c
abbrev N_p_parts_of : List Str := ["condition"]
theorem nd_p_parts_of : N_p_parts_of.Nodup := by decide +kernel
theorem sc_p_parts_of : FnScope N_p_parts_of ["condition"] (defScope (top 24)) := ⟨rfl, rfl, rfl, nd_p_parts_of, rfl, by decide +kernel, by decide +kernel⟩
theorem b_p_parts_of {f : Addr} {cdv : Value} {A : Around} {outer : List PySem.Env} {s : Shared} {H : Hp} {E : XK} (hm_list : mg "list" = none) (gc_JOINTS : GCon K mg "JOINTS" g_JOINTS)
    (c : Cok (CF P w K mg base N_p_parts_of "parts_of" (defScope (top 24)) f cdv A outer s H E) E k) : PDSs (CF P w K mg base N_p_parts_of "parts_of" (defScope (top 24)) f cdv A outer s H E) E (defBody (top 24)) p_parts_of_b :=
  ds_one (dp_ret (pd_if (pb_cmp (od_in c.units5) (pd_ix (id_ix c.units1) (pv_ (by kernel_rfl)) (pd_int) (fun _ _ => rfl)) (pd_glob (gl_ (by kernel_rfl)) (gc_JOINTS)) rfl) (pd_callTy cd_list (gl_ (by kernel_rfl)) hm_list bb_list (pl_cons (pd_slice (pv_ (by kernel_rfl)) (pdo_some (pd_int)) (pdo_none)) (pl_nil) rfl) (by decide) rfl rfl rfl) (pd_lst (pl_cons (pv_ (by kernel_rfl)) (pl_nil) rfl))))
theorem c_p_parts_of (hm_list : mg "list" = none) (gc_JOINTS : GCon K mg "JOINTS" g_JOINTS) (dn : Dn K mg "parts_of" "parts_of" (defArgs (top 24)) (defBody (top 24)) (defScope (top 24)) ["condition"]) : Cal P w K mg base (k + 1) "parts_of" 1 (runDef 1 p_parts_of_b) :=
  dn.cal sc_p_parts_of rfl fun f cdv A outer s H E c => b_p_parts_of hm_list gc_JOINTS c
abbrev N_p_holds : List Str := ["condition", "spans", "told", "part"]
theorem nd_p_holds : N_p_holds.Nodup := by decide +kernel
theorem sc_p_holds : FnScope N_p_holds ["condition", "spans"] (defScope (top 29)) := ⟨rfl, rfl, rfl, nd_p_holds, rfl, by decide +kernel, by decide +kernel⟩
theorem b_p_holds {f : Addr} {cdv : Value} {A : Around} {outer : List PySem.Env} {s : Shared} {H : Hp} {E : XK} (hm_any : mg "any" = none) (hm_all : mg "all" = none) (h_p_parts_of : Cal P w K mg base k "parts_of" 1 p_parts_of) (h_p_is_so : Cal P w K mg base k "is_so" 2 p_is_so)
    (c : Cok (CF P w K mg base N_p_holds "holds" (defScope (top 29)) f cdv A outer s H E) E k) : PDSs (CF P w K mg base N_p_holds "holds" (defScope (top 29)) f cdv A outer s H E) E (defBody (top 29)) p_holds_b :=
  ds_cons (dp_setLc (own := [(("part" : Str), 3)]) (t := .nm 3) rfl nd_p_holds (by kernel_rfl) (by kernel_rfl) (by kernel_rfl) (di_val (pd_callU c h_p_parts_of (Nat.le_refl _) (gl_ (by kernel_rfl)) (pl_cons (pv_ (by kernel_rfl)) (pl_nil) rfl) rfl rfl rfl)) (blkOk_by (by kernel_rfl)) (fun _ _ _ _ _ => tg_name nd_p_holds (by kernel_rfl) (.inl (by kernel_rfl)) (.inr (by kernel_rfl))) (fun _ _ _ _ _ => pts_nilD) (fun _ _ _ _ _ => pd_callU c.blk h_p_is_so (Nat.le_refl _) (gl_ (by kernel_rfl)) (pl_cons (pv_ (by kernel_rfl)) (pl_cons (pv_ (by kernel_rfl)) (pl_nil) rfl) rfl) rfl rfl rfl) (fun _ => rfl) (by decide)) <|
  ds_one (dp_ret (pd_if (pb_cmp (od_eq c.units) (pd_ix (id_ix c.units1) (pv_ (by kernel_rfl)) (pd_int) (fun _ _ => rfl)) (pd_str) rfl) (pd_callB (cd_any rfl) (gl_ (by kernel_rfl)) hm_any bb_any (pl_cons (pv_ (by kernel_rfl)) (pl_nil) rfl) (by decide) rfl rfl rfl) (pd_callB (cd_all rfl) (gl_ (by kernel_rfl)) hm_all bb_all (pl_cons (pv_ (by kernel_rfl)) (pl_nil) rfl) (by decide) rfl rfl rfl)))
theorem c_p_holds (hm_any : mg "any" = none) (hm_all : mg "all" = none) (h_p_parts_of : Cal P w K mg base k "parts_of" 1 p_parts_of) (h_p_is_so : Cal P w K mg base k "is_so" 2 p_is_so) (dn : Dn K mg "holds" "holds" (defArgs (top 29)) (defBody (top 29)) (defScope (top 29)) ["condition", "spans"]) : Cal P w K mg base (k + 1) "holds" 2 (runDef 4 p_holds_b) :=
  dn.cal sc_p_holds rfl fun f cdv A outer s H E c => b_p_holds hm_any hm_all h_p_parts_of h_p_is_so c
abbrev N_p_others_of : List Str := ["drag", "heights", "held", "grab"]
theorem nd_p_others_of : N_p_others_of.Nodup := by decide +kernel
theorem sc_p_others_of : FnScope N_p_others_of ["drag"] (defScope (top 30)) := ⟨rfl, rfl, rfl, nd_p_others_of, rfl, by decide +kernel, by decide +kernel⟩
theorem b_p_others_of {f : Addr} {cdv : Value} {A : Around} {outer : List PySem.Env} {s : Shared} {H : Hp} {E : XK} 
    (c : Cok (CF P w K mg base N_p_others_of "others_of" (defScope (top 30)) f cdv A outer s H E) E k) : PDSs (CF P w K mg base N_p_others_of "others_of" (defScope (top 30)) f cdv A outer s H E) E (defBody (top 30)) p_others_of_b :=
  ds_cons (dp_asg (pv_ (by kernel_rfl)) (dg_of (tg_tup rfl (tgs_cons (tg_name nd_p_others_of (by kernel_rfl) (.inl (by kernel_rfl)) (.inr (by kernel_rfl))) (tgs_cons (tg_name nd_p_others_of (by kernel_rfl) (.inl (by kernel_rfl)) (.inr (by kernel_rfl))) (tgs_cons (tg_name nd_p_others_of (by kernel_rfl) (.inl (by kernel_rfl)) (.inr (by kernel_rfl))) (tgs_nil) (by kernel_rfl)) (by kernel_rfl)) (by kernel_rfl)) (by kernel_rfl) (by kernel_rfl))) rfl rfl rfl) <|
  ds_one (dp_ret (pd_bin od_add (pd_slice (pv_ (by kernel_rfl)) (pdo_none) (pdo_some (pv_ (by kernel_rfl)))) (pd_slice (pv_ (by kernel_rfl)) (pdo_some (pd_bin od_add (pv_ (by kernel_rfl)) (pd_int))) (pdo_none))))
theorem c_p_others_of  (dn : Dn K mg "others_of" "others_of" (defArgs (top 30)) (defBody (top 30)) (defScope (top 30)) ["drag"]) : Cal P w K mg base (k + 1) "others_of" 1 (runDef 4 p_others_of_b) :=
  dn.cal sc_p_others_of rfl fun f cdv A outer s H E c => b_p_others_of  c
abbrev N_p_spans_at : List Str := ["drag", "pointer", "place", "side", "heights", "held", "grab", "others", "own", "top", "height"]
theorem nd_p_spans_at : N_p_spans_at.Nodup := by decide +kernel
theorem sc_p_spans_at : FnScope N_p_spans_at ["drag", "pointer", "place", "side"] (defScope (top 31)) := ⟨rfl, rfl, rfl, nd_p_spans_at, rfl, by decide +kernel, by decide +kernel⟩
theorem b_p_spans_at {f : Addr} {cdv : Value} {A : Around} {outer : List PySem.Env} {s : Shared} {H : Hp} {E : XK} (hm_sum : mg "sum" = none) (h_p_others_of : Cal P w K mg base k "others_of" 1 p_others_of)
    (c : Cok (CF P w K mg base N_p_spans_at "spans_at" (defScope (top 31)) f cdv A outer s H E) E k) : PDSs (CF P w K mg base N_p_spans_at "spans_at" (defScope (top 31)) f cdv A outer s H E) E (defBody (top 31)) p_spans_at_b :=
  ds_cons (dp_asg (pv_ (by kernel_rfl)) (dg_of (tg_tup rfl (tgs_cons (tg_name nd_p_spans_at (by kernel_rfl) (.inl (by kernel_rfl)) (.inr (by kernel_rfl))) (tgs_cons (tg_name nd_p_spans_at (by kernel_rfl) (.inl (by kernel_rfl)) (.inr (by kernel_rfl))) (tgs_cons (tg_name nd_p_spans_at (by kernel_rfl) (.inl (by kernel_rfl)) (.inr (by kernel_rfl))) (tgs_nil) (by kernel_rfl)) (by kernel_rfl)) (by kernel_rfl)) (by kernel_rfl) (by kernel_rfl))) rfl rfl rfl) <|
  ds_cons (dp_par2 rfl nd_p_spans_at (by kernel_rfl) (by kernel_rfl) (by decide) (by kernel_rfl) (by kernel_rfl) (pl_cons (pd_callU c h_p_others_of (Nat.le_refl _) (gl_ (by kernel_rfl)) (pl_cons (pv_ (by kernel_rfl)) (pl_nil) rfl) rfl rfl rfl) (pl_cons (pd_ix (id_ix c.units1) (pv_ (by kernel_rfl)) (pv_ (by kernel_rfl)) (fun _ _ => rfl)) (pl_nil) rfl) rfl) rfl rfl) <|
  ds_cons (dp_set nd_p_spans_at (by kernel_rfl) (.inl (by kernel_rfl)) (pd_callB (cd_sum rfl) (gl_ (by kernel_rfl)) hm_sum bb_sum (pl_cons (pd_slice (pv_ (by kernel_rfl)) (pdo_none) (pdo_some (pv_ (by kernel_rfl)))) (pl_nil) rfl) (by decide) rfl rfl rfl) rfl (.inl rfl)) <|
  ds_cons (dp_set nd_p_spans_at (by kernel_rfl) (.inl (by kernel_rfl)) (pd_ix (id_ix c.units1) (pv_ (by kernel_rfl)) (pd_bin od_add (pv_ (by kernel_rfl)) (pv_ (by kernel_rfl))) (fun _ _ => rfl)) rfl (.inl rfl)) <|
  ds_one (dp_ret (pd_dic (pp_cons (pd_str) (pv_ (by kernel_rfl)) (pp_cons (pd_str) (pd_tup (pl_cons (pd_bin od_sub (pv_ (by kernel_rfl)) (pv_ (by kernel_rfl))) (pl_cons (pv_ (by kernel_rfl)) (pl_nil) rfl) rfl)) (pp_cons (pd_str) (pd_tup (pl_cons (pv_ (by kernel_rfl)) (pl_cons (pv_ (by kernel_rfl)) (pl_nil) rfl) rfl)) (pp_cons (pd_str) (pd_tup (pl_cons (pd_if (pb_cmp (od_eq c.units) (pv_ (by kernel_rfl)) (pd_int) rfl) (pd_bin od_add (pv_ (by kernel_rfl)) (pv_ (by kernel_rfl))) (pd_bin od_sub (pv_ (by kernel_rfl)) (pv_ (by kernel_rfl)))) (pl_cons (pv_ (by kernel_rfl)) (pl_nil) rfl) rfl)) (pp_nil))))) rfl rfl (by decide) (by decide)))
theorem c_p_spans_at (hm_sum : mg "sum" = none) (h_p_others_of : Cal P w K mg base k "others_of" 1 p_others_of) (dn : Dn K mg "spans_at" "spans_at" (defArgs (top 31)) (defBody (top 31)) (defScope (top 31)) ["drag", "pointer", "place", "side"]) : Cal P w K mg base (k + 1) "spans_at" 4 (runDef 11 p_spans_at_b) :=
  dn.cal sc_p_spans_at rfl fun f cdv A outer s H E c => b_p_spans_at hm_sum h_p_others_of c
abbrev N_p_turn_of : List Str := ["rule", "drag", "pointer", "place"]
theorem nd_p_turn_of : N_p_turn_of.Nodup := by decide +kernel
theorem sc_p_turn_of : FnScope N_p_turn_of ["rule", "drag", "pointer", "place"] (defScope (top 32)) := ⟨rfl, rfl, rfl, nd_p_turn_of, rfl, by decide +kernel, by decide +kernel⟩
theorem b_p_turn_of {f : Addr} {cdv : Value} {A : Around} {outer : List PySem.Env} {s : Shared} {H : Hp} {E : XK} (hm_len : mg "len" = none) (h_p_holds : Cal P w K mg base k "holds" 2 p_holds) (h_p_spans_at : Cal P w K mg base k "spans_at" 4 p_spans_at)
    (c : Cok (CF P w K mg base N_p_turn_of "turn_of" (defScope (top 32)) f cdv A outer s H E) E k) : PDSs (CF P w K mg base N_p_turn_of "turn_of" (defScope (top 32)) f cdv A outer s H E) E (defBody (top 32)) p_turn_of_b :=
  ds_cons (dp_if (PW.pt (pwb_and (pb_cmp od_lt (pv_ (by kernel_rfl)) (pd_bin od_sub (pd_callB cd_len (gl_ (by kernel_rfl)) hm_len bb_len (pl_cons (pd_ix (id_ix c.units1) (pv_ (by kernel_rfl)) (pd_int) (fun _ _ => rfl)) (pl_nil) rfl) (by decide) rfl rfl rfl) (pd_int)) rfl) (pw_and1 (pb_val (pd_callU c h_p_holds (Nat.le_refl _) (gl_ (by kernel_rfl)) (pl_cons (pd_ix (id_ix c.units1) (pv_ (by kernel_rfl)) (pd_int) (fun _ _ => rfl)) (pl_cons (pd_callU c h_p_spans_at (Nat.le_refl _) (gl_ (by kernel_rfl)) (pl_cons (pv_ (by kernel_rfl)) (pl_cons (pv_ (by kernel_rfl)) (pl_cons (pv_ (by kernel_rfl)) (pl_cons (pd_int) (pl_nil) rfl) rfl) rfl) rfl) rfl rfl rfl) (pl_nil) rfl) rfl) rfl rfl rfl) (fun _ => rfl))))) (ds_one (dp_ret (pd_int))) (ds_nil)) <|
  ds_cons (dp_if (PW.pt (pwb_and (pb_cmp od_gt (pv_ (by kernel_rfl)) (pd_int) rfl) (pw_and1 (pb_val (pd_callU c h_p_holds (Nat.le_refl _) (gl_ (by kernel_rfl)) (pl_cons (pd_ix (id_ix c.units1) (pv_ (by kernel_rfl)) (pd_int) (fun _ _ => rfl)) (pl_cons (pd_callU c h_p_spans_at (Nat.le_refl _) (gl_ (by kernel_rfl)) (pl_cons (pv_ (by kernel_rfl)) (pl_cons (pv_ (by kernel_rfl)) (pl_cons (pv_ (by kernel_rfl)) (pl_cons (pd_un ud_neg (pd_int)) (pl_nil) rfl) rfl) rfl) rfl) rfl rfl rfl) (pl_nil) rfl) rfl) rfl rfl rfl) (fun _ => rfl))))) (ds_one (dp_ret (pd_un ud_neg (pd_int)))) (ds_nil)) <|
  ds_one (dp_ret (pd_int))
theorem c_p_turn_of (hm_len : mg "len" = none) (h_p_holds : Cal P w K mg base k "holds" 2 p_holds) (h_p_spans_at : Cal P w K mg base k "spans_at" 4 p_spans_at) (dn : Dn K mg "turn_of" "turn_of" (defArgs (top 32)) (defBody (top 32)) (defScope (top 32)) ["rule", "drag", "pointer", "place"]) : Cal P w K mg base (k + 1) "turn_of" 4 (runDef 4 p_turn_of_b) :=
  dn.cal sc_p_turn_of rfl fun f cdv A outer s H E c => b_p_turn_of hm_len h_p_holds h_p_spans_at c
abbrev N_p_rest_of : List Str := ["rule", "drag", "pointer", "place", "turn", "step"]
theorem nd_p_rest_of : N_p_rest_of.Nodup := by decide +kernel
theorem sc_p_rest_of : FnScope N_p_rest_of ["rule", "drag", "pointer", "place"] (defScope (top 33)) := ⟨rfl, rfl, rfl, nd_p_rest_of, rfl, by decide +kernel, by decide +kernel⟩
theorem b_p_rest_of {f : Addr} {cdv : Value} {A : Around} {outer : List PySem.Env} {s : Shared} {H : Hp} {E : XK} (hm_range : mg "range" = none) (hm_len : mg "len" = none) (h_p_turn_of : Cal P w K mg base k "turn_of" 4 p_turn_of)
    (c : Cok (CF P w K mg base N_p_rest_of "rest_of" (defScope (top 33)) f cdv A outer s H E) E k) : PDSs (CF P w K mg base N_p_rest_of "rest_of" (defScope (top 33)) f cdv A outer s H E) E (defBody (top 33)) p_rest_of_b :=
  ds_cons (dp_for own_cf rfl (di_range1 (gl_ (by kernel_rfl)) hm_range (pl_cons (pd_bin od_mul (pd_int) (pd_callB cd_len (gl_ (by kernel_rfl)) hm_len bb_len (pl_cons (pd_ix (id_ix c.units1) (pv_ (by kernel_rfl)) (pd_int) (fun _ _ => rfl)) (pl_nil) rfl) (by decide) rfl rfl rfl)) (pl_nil) rfl) rfl) (dg_of (tg_name nd_p_rest_of (by kernel_rfl) (.inl (by kernel_rfl)) (.inr (by kernel_rfl)))) (ds_cons (dp_set nd_p_rest_of (by kernel_rfl) (.inl (by kernel_rfl)) (pd_callU c h_p_turn_of (Nat.le_refl _) (gl_ (by kernel_rfl)) (pl_cons (pv_ (by kernel_rfl)) (pl_cons (pv_ (by kernel_rfl)) (pl_cons (pv_ (by kernel_rfl)) (pl_cons (pv_ (by kernel_rfl)) (pl_nil) rfl) rfl) rfl) rfl) rfl rfl rfl) rfl (.inl rfl)) <|
  ds_cons (dp_if (pb_cmp (od_eq c.units) (pv_ (by kernel_rfl)) (pd_int) rfl) (ds_one (dp_ret (pv_ (by kernel_rfl)))) (ds_nil)) <|
  ds_one (dp_set nd_p_rest_of (by kernel_rfl) (.inl (by kernel_rfl)) (pd_bin od_add (pv_ (by kernel_rfl)) (pv_ (by kernel_rfl))) rfl (.inl rfl))) (fun _ => rfl)) <|
  ds_one (dp_ret (pd_non))
theorem c_p_rest_of (hm_range : mg "range" = none) (hm_len : mg "len" = none) (h_p_turn_of : Cal P w K mg base k "turn_of" 4 p_turn_of) (dn : Dn K mg "rest_of" "rest_of" (defArgs (top 33)) (defBody (top 33)) (defScope (top 33)) ["rule", "drag", "pointer", "place"]) : Cal P w K mg base (k + 1) "rest_of" 4 (runDef 6 p_rest_of_b) :=
  dn.cal sc_p_rest_of rfl fun f cdv A outer s H E c => b_p_rest_of hm_range hm_len h_p_turn_of c
abbrev N_p_Pull_go_on : List Str := ["self", "pointers", "now", "pointer", "rest"]
theorem nd_p_Pull_go_on : N_p_Pull_go_on.Nodup := by decide +kernel
theorem sc_p_Pull_go_on : FnScope N_p_Pull_go_on ["self", "pointers"] (defScope (memS (top 42) 5)) := ⟨rfl, rfl, rfl, nd_p_Pull_go_on, rfl, by decide +kernel, by decide +kernel⟩
theorem b_p_Pull_go_on {j : Nat} {f : Addr} {cdv : Value} {A : Around} {outer : List PySem.Env} {s : Shared} {H : Hp} {E : XK} (hj : j + 3 ≤ k) (hF_Pull : ClsF K "Pull") (hX_Flickers : ExF K mg "Flickers") (hN_Pull_now : NoA K "Pull" "now") (hN_Pull_past : NoA K "Pull" "past") (hN_Pull_drag : NoA K "Pull" "drag") (hN_Pull_rule : NoA K "Pull" "rule") (h_p_rest_of : Cal P w K mg base k "rest_of" 4 p_rest_of)
    (c : Cok (CF P w K mg base N_p_Pull_go_on "Pull.go_on" (defScope (memS (top 42) 5)) f cdv A outer s H E) E k) : PDSs (CF P w K mg base N_p_Pull_go_on "Pull.go_on" (defScope (memS (top 42) 5)) f cdv A outer s H E) E (defBody (memS (top 42) 5)) p_Pull_go_on_b :=
  ds_cons (dp_set nd_p_Pull_go_on (by kernel_rfl) (.inl (by kernel_rfl)) (pd_fld hF_Pull hN_Pull_now (pv_ (by kernel_rfl)) rfl) rfl (.inl rfl)) <|
  ds_cons (dp_for own_cf rfl (di_val (pv_ (by kernel_rfl))) (dg_of (tg_name nd_p_Pull_go_on (by kernel_rfl) (.inl (by kernel_rfl)) (.inr (by kernel_rfl)))) (ds_cons (dp_set nd_p_Pull_go_on (by kernel_rfl) (.inl (by kernel_rfl)) (pd_callU c h_p_rest_of (Nat.le_refl _) (gl_ (by kernel_rfl)) (pl_cons (pd_fld hF_Pull hN_Pull_rule (pv_ (by kernel_rfl)) rfl) (pl_cons (pd_fld hF_Pull hN_Pull_drag (pv_ (by kernel_rfl)) rfl) (pl_cons (pv_ (by kernel_rfl)) (pl_cons (pd_ix (id_ix c.units1) (pv_ (by kernel_rfl)) (pd_int) (fun _ _ => rfl)) (pl_nil) rfl) rfl) rfl) rfl) rfl rfl rfl) rfl (.inl rfl)) <|
  ds_cons (dp_if (pb_cmp od_isN (pv_ (by kernel_rfl)) (pd_non) rfl) (ds_one (pds_raise rfl c hX_Flickers (gl_ (by kernel_rfl)))) (ds_nil)) <|
  ds_one (dp_set nd_p_Pull_go_on (by kernel_rfl) (.inl (by kernel_rfl)) (pd_tup (pl_cons (pv_ (by kernel_rfl)) (pl_cons (pv_ (by kernel_rfl)) (pl_cons (pd_bin od_add (pd_ix (id_ix c.units1) (pv_ (by kernel_rfl)) (pd_int) (fun _ _ => rfl)) (pd_tup (pl_cons (pd_tup (pl_cons (pv_ (by kernel_rfl)) (pl_cons (pv_ (by kernel_rfl)) (pl_nil) rfl) rfl)) (pl_nil) rfl))) (pl_nil) rfl) rfl) rfl)) rfl (.inl rfl))) (fun _ => rfl)) <|
  ds_cons (dp_expr (pd_meth plain_list slot_append ty_append md_append (pd_fld hF_Pull hN_Pull_past (pv_ (by kernel_rfl)) rfl) (pl_cons (pd_fld hF_Pull hN_Pull_now (pv_ (by kernel_rfl)) rfl) (pl_nil) rfl) rfl rfl rfl rfl rfl) rfl) <|
  ds_one (dp_fld hF_Pull hN_Pull_now (pv_ (by kernel_rfl)) (pv_ (by kernel_rfl)) rfl)
theorem c_p_Pull_go_on {j : Nat} {f : Addr} (hj : j + 3 ≤ k) (hF_Pull : ClsF K "Pull") (hX_Flickers : ExF K mg "Flickers") (hN_Pull_now : NoA K "Pull" "now") (hN_Pull_past : NoA K "Pull" "past") (hN_Pull_drag : NoA K "Pull" "drag") (hN_Pull_rule : NoA K "Pull" "rule") (h_p_rest_of : Cal P w K mg base k "rest_of" 4 p_rest_of) (dn : DnA K f "go_on" "Pull.go_on" (defArgs (memS (top 42) 5)) (defBody (memS (top 42) 5)) (defScope (memS (top 42) 5)) ["self", "pointers"]) : FnR P w K mg base (L2.CX P w) (k + 1) f (spD K 2 (runDef 5 p_Pull_go_on_b)) :=
  dn.fnR sc_p_Pull_go_on rfl fun f cdv A outer s H E c => b_p_Pull_go_on hj hF_Pull hX_Flickers hN_Pull_now hN_Pull_past hN_Pull_drag hN_Pull_rule h_p_rest_of c
abbrev N_p_need_pointer : List Str := ["value"]
theorem nd_p_need_pointer : N_p_need_pointer.Nodup := by decide +kernel
theorem sc_p_need_pointer : FnScope N_p_need_pointer ["value"] (defScope (top 22)) := ⟨rfl, rfl, rfl, nd_p_need_pointer, rfl, by decide +kernel, by decide +kernel⟩
theorem b_p_need_pointer {j : Nat} {f : Addr} {cdv : Value} {A : Around} {outer : List PySem.Env} {s : Shared} {H : Hp} {E : XK} (hj : j + 3 ≤ k) (hX_InvalidPointer : ExF K mg "InvalidPointer") (h_p_is_number : Cal P w K mg base k "is_number" 1 p_is_number)
    (c : Cok (CF P w K mg base N_p_need_pointer "need_pointer" (defScope (top 22)) f cdv A outer s H E) E k) : PDSs (CF P w K mg base N_p_need_pointer "need_pointer" (defScope (top 22)) f cdv A outer s H E) E (defBody (top 22)) p_need_pointer_b :=
  ds_one (dp_if (pb_not (pb_val (pd_callU c h_p_is_number (Nat.le_refl _) (gl_ (by kernel_rfl)) (pl_cons (pv_ (by kernel_rfl)) (pl_nil) rfl) rfl rfl rfl) (fun _ => rfl))) (ds_one (pds_raise rfl c hX_InvalidPointer (gl_ (by kernel_rfl)))) (ds_nil))
theorem c_p_need_pointer {j : Nat} (hj : j + 3 ≤ k) (hX_InvalidPointer : ExF K mg "InvalidPointer") (h_p_is_number : Cal P w K mg base k "is_number" 1 p_is_number) (dn : Dn K mg "need_pointer" "need_pointer" (defArgs (top 22)) (defBody (top 22)) (defScope (top 22)) ["value"]) : Cal P w K mg base (k + 1) "need_pointer" 1 (runDef 1 p_need_pointer_b) :=
  dn.cal sc_p_need_pointer rfl fun f cdv A outer s H E c => b_p_need_pointer hj hX_InvalidPointer h_p_is_number c
abbrev N_p_Pull_to : List Str := ["self", "pointer"]
theorem nd_p_Pull_to : N_p_Pull_to.Nodup := by decide +kernel
theorem sc_p_Pull_to : FnScope N_p_Pull_to ["self", "pointer"] (defScope (memS (top 42) 6)) := ⟨rfl, rfl, rfl, nd_p_Pull_to, rfl, by decide +kernel, by decide +kernel⟩
theorem b_p_Pull_to {j : Nat} {f : Addr} {cdv : Value} {A : Around} {outer : List PySem.Env} {s : Shared} {H : Hp} {E : XK} (hj : j + 3 ≤ k) (hF_Pull : ClsF K "Pull") (hN_Pull_now : NoA K "Pull" "now") (hM_Pull_go_on : CalM P w K mg base j "Pull" "go_on" 2 p_Pull_go_on) (h_p_need_pointer : Cal P w K mg base k "need_pointer" 1 p_need_pointer)
    (c : Cok (CF P w K mg base N_p_Pull_to "Pull.to" (defScope (memS (top 42) 6)) f cdv A outer s H E) E k) : PDSs (CF P w K mg base N_p_Pull_to "Pull.to" (defScope (memS (top 42) 6)) f cdv A outer s H E) E (defBody (memS (top 42) 6)) p_Pull_to_b :=
  ds_cons (dp_expr (pd_callU c h_p_need_pointer (Nat.le_refl _) (gl_ (by kernel_rfl)) (pl_cons (pv_ (by kernel_rfl)) (pl_nil) rfl) rfl rfl rfl) rfl) <|
  ds_cons (dp_expr (pd_meth1 c hF_Pull hM_Pull_go_on (by omega) (pv_ (by kernel_rfl)) (pl_cons (pd_tup (pl_cons (pv_ (by kernel_rfl)) (pl_nil) rfl)) (pl_nil) rfl) rfl rfl rfl) rfl) <|
  ds_one (dp_ret (pd_ix (id_ix c.units1) (pd_fld hF_Pull hN_Pull_now (pv_ (by kernel_rfl)) rfl) (pd_int) (fun _ _ => rfl)))
theorem c_p_Pull_to {j : Nat} {f : Addr} (hj : j + 3 ≤ k) (hF_Pull : ClsF K "Pull") (hN_Pull_now : NoA K "Pull" "now") (hM_Pull_go_on : CalM P w K mg base j "Pull" "go_on" 2 p_Pull_go_on) (h_p_need_pointer : Cal P w K mg base k "need_pointer" 1 p_need_pointer) (dn : DnA K f "to" "Pull.to" (defArgs (memS (top 42) 6)) (defBody (memS (top 42) 6)) (defScope (memS (top 42) 6)) ["self", "pointer"]) : FnR P w K mg base (L2.CX P w) (k + 1) f (spD K 2 (runDef 2 p_Pull_to_b)) :=
  dn.fnR sc_p_Pull_to rfl fun f cdv A outer s H E c => b_p_Pull_to hj hF_Pull hN_Pull_now hM_Pull_go_on h_p_need_pointer c
abbrev N_p_are_pointers : List Str := ["value", "pointer"]
theorem nd_p_are_pointers : N_p_are_pointers.Nodup := by decide +kernel
theorem sc_p_are_pointers : FnScope N_p_are_pointers ["value"] (defScope (top 35)) := ⟨rfl, rfl, rfl, nd_p_are_pointers, rfl, by decide +kernel, by decide +kernel⟩
theorem b_p_are_pointers {f : Addr} {cdv : Value} {A : Around} {outer : List PySem.Env} {s : Shared} {H : Hp} {E : XK} (hm_all : mg "all" = none) (hm_len : mg "len" = none) (hm_isinstance : mg "isinstance" = none) (hm_tuple : mg "tuple" = none) (gc_MOST_POINTERS : GCon K mg "MOST_POINTERS" g_MOST_POINTERS) (h_p_is_number : Cal P w K mg base k "is_number" 1 p_is_number)
    (c : Cok (CF P w K mg base N_p_are_pointers "are_pointers" (defScope (top 35)) f cdv A outer s H E) E k) : PDSs (CF P w K mg base N_p_are_pointers "are_pointers" (defScope (top 35)) f cdv A outer s H E) E (defBody (top 35)) p_are_pointers_b :=
  ds_one (dp_ret (pd_and (pd_isi (gl_ (by kernel_rfl)) hm_isinstance bb_isinstance (gl_ (by kernel_rfl)) hm_tuple bb_tuple (pv_ (by kernel_rfl)) (by decide) rfl (by decide) rfl (fun _ => rfl)) (pd_and (pd_cmp od_le (pd_callB cd_len (gl_ (by kernel_rfl)) hm_len bb_len (pl_cons (pv_ (by kernel_rfl)) (pl_nil) rfl) (by decide) rfl rfl rfl) (pd_glob (gl_ (by kernel_rfl)) (gc_MOST_POINTERS)) rfl) (pe_one (pd_callB (cd_all rfl) (gl_ (by kernel_rfl)) hm_all bb_all (pl_cons (pd_lc (own := [(("pointer" : Str), 1)]) (t := .nm 1) rfl nd_p_are_pointers (di_val (pv_ (by kernel_rfl))) (blkOk_by (by kernel_rfl)) (fun _ _ _ _ _ => tg_name nd_p_are_pointers (by kernel_rfl) (.inl (by kernel_rfl)) (.inr (by kernel_rfl))) (fun _ _ _ _ _ => pts_nilD) (fun _ _ _ _ _ => pd_callU c.blk h_p_is_number (Nat.le_refl _) (gl_ (by kernel_rfl)) (pl_cons (pv_ (by kernel_rfl)) (pl_nil) rfl) rfl rfl rfl) (fun _ => rfl) (by decide)) (pl_nil) rfl) (by decide) rfl rfl rfl)))))
theorem c_p_are_pointers (hm_all : mg "all" = none) (hm_len : mg "len" = none) (hm_isinstance : mg "isinstance" = none) (hm_tuple : mg "tuple" = none) (gc_MOST_POINTERS : GCon K mg "MOST_POINTERS" g_MOST_POINTERS) (h_p_is_number : Cal P w K mg base k "is_number" 1 p_is_number) (dn : Dn K mg "are_pointers" "are_pointers" (defArgs (top 35)) (defBody (top 35)) (defScope (top 35)) ["value"]) : Cal P w K mg base (k + 1) "are_pointers" 1 (runDef 2 p_are_pointers_b) :=
  dn.cal sc_p_are_pointers rfl fun f cdv A outer s H E c => b_p_are_pointers hm_all hm_len hm_isinstance hm_tuple gc_MOST_POINTERS h_p_is_number c
abbrev N_p_need_pointers : List Str := ["value"]
theorem nd_p_need_pointers : N_p_need_pointers.Nodup := by decide +kernel
theorem sc_p_need_pointers : FnScope N_p_need_pointers ["value"] (defScope (top 36)) := ⟨rfl, rfl, rfl, nd_p_need_pointers, rfl, by decide +kernel, by decide +kernel⟩
theorem b_p_need_pointers {j : Nat} {f : Addr} {cdv : Value} {A : Around} {outer : List PySem.Env} {s : Shared} {H : Hp} {E : XK} (hj : j + 3 ≤ k) (hX_InvalidPointer : ExF K mg "InvalidPointer") (h_p_are_pointers : Cal P w K mg base k "are_pointers" 1 p_are_pointers)
    (c : Cok (CF P w K mg base N_p_need_pointers "need_pointers" (defScope (top 36)) f cdv A outer s H E) E k) : PDSs (CF P w K mg base N_p_need_pointers "need_pointers" (defScope (top 36)) f cdv A outer s H E) E (defBody (top 36)) p_need_pointers_b :=
  ds_one (dp_if (pb_not (pb_val (pd_callU c h_p_are_pointers (Nat.le_refl _) (gl_ (by kernel_rfl)) (pl_cons (pv_ (by kernel_rfl)) (pl_nil) rfl) rfl rfl rfl) (fun _ => rfl))) (ds_one (pds_raise rfl c hX_InvalidPointer (gl_ (by kernel_rfl)))) (ds_nil))
theorem c_p_need_pointers {j : Nat} (hj : j + 3 ≤ k) (hX_InvalidPointer : ExF K mg "InvalidPointer") (h_p_are_pointers : Cal P w K mg base k "are_pointers" 1 p_are_pointers) (dn : Dn K mg "need_pointers" "need_pointers" (defArgs (top 36)) (defBody (top 36)) (defScope (top 36)) ["value"]) : Cal P w K mg base (k + 1) "need_pointers" 1 (runDef 1 p_need_pointers_b) :=
  dn.cal sc_p_need_pointers rfl fun f cdv A outer s H E c => b_p_need_pointers hj hX_InvalidPointer h_p_are_pointers c
abbrev N_p_Pull_iadd : List Str := ["self", "pointers"]
theorem nd_p_Pull_iadd : N_p_Pull_iadd.Nodup := by decide +kernel
theorem sc_p_Pull_iadd : FnScope N_p_Pull_iadd ["self", "pointers"] (defScope (memS (top 42) 7)) := ⟨rfl, rfl, rfl, nd_p_Pull_iadd, rfl, by decide +kernel, by decide +kernel⟩
theorem b_p_Pull_iadd {j : Nat} {f : Addr} {cdv : Value} {A : Around} {outer : List PySem.Env} {s : Shared} {H : Hp} {E : XK} (hj : j + 3 ≤ k) (hF_Pull : ClsF K "Pull") (hM_Pull_go_on : CalM P w K mg base j "Pull" "go_on" 2 p_Pull_go_on) (h_p_need_pointers : Cal P w K mg base k "need_pointers" 1 p_need_pointers)
    (c : Cok (CF P w K mg base N_p_Pull_iadd "Pull.__iadd__" (defScope (memS (top 42) 7)) f cdv A outer s H E) E k) : PDSs (CF P w K mg base N_p_Pull_iadd "Pull.__iadd__" (defScope (memS (top 42) 7)) f cdv A outer s H E) E (defBody (memS (top 42) 7)) p_Pull_iadd_b :=
  ds_cons (dp_expr (pd_callU c h_p_need_pointers (Nat.le_refl _) (gl_ (by kernel_rfl)) (pl_cons (pv_ (by kernel_rfl)) (pl_nil) rfl) rfl rfl rfl) rfl) <|
  ds_cons (dp_expr (pd_meth1 c hF_Pull hM_Pull_go_on (by omega) (pv_ (by kernel_rfl)) (pl_cons (pv_ (by kernel_rfl)) (pl_nil) rfl) rfl rfl rfl) rfl) <|
  ds_one (dp_ret (pv_ (by kernel_rfl)))
theorem c_p_Pull_iadd {j : Nat} {f : Addr} (hj : j + 3 ≤ k) (hF_Pull : ClsF K "Pull") (hM_Pull_go_on : CalM P w K mg base j "Pull" "go_on" 2 p_Pull_go_on) (h_p_need_pointers : Cal P w K mg base k "need_pointers" 1 p_need_pointers) (dn : DnA K f "__iadd__" "Pull.__iadd__" (defArgs (memS (top 42) 7)) (defBody (memS (top 42) 7)) (defScope (memS (top 42) 7)) ["self", "pointers"]) : FnR P w K mg base (L2.CX P w) (k + 1) f (spD K 2 (runDef 2 p_Pull_iadd_b)) :=
  dn.fnR sc_p_Pull_iadd rfl fun f cdv A outer s H E c => b_p_Pull_iadd hj hF_Pull hM_Pull_go_on h_p_need_pointers c
abbrev N_p_Pull_undo : List Str := ["self"]
theorem nd_p_Pull_undo : N_p_Pull_undo.Nodup := by decide +kernel
theorem sc_p_Pull_undo : FnScope N_p_Pull_undo ["self"] (defScope (memS (top 42) 8)) := ⟨rfl, rfl, rfl, nd_p_Pull_undo, rfl, by decide +kernel, by decide +kernel⟩
theorem b_p_Pull_undo {j : Nat} {f : Addr} {cdv : Value} {A : Around} {outer : List PySem.Env} {s : Shared} {H : Hp} {E : XK} (hj : j + 3 ≤ k) (hF_Pull : ClsF K "Pull") (hX_NothingToUndo : ExF K mg "NothingToUndo") (hN_Pull_now : NoA K "Pull" "now") (hN_Pull_past : NoA K "Pull" "past")
    (c : Cok (CF P w K mg base N_p_Pull_undo "Pull.undo" (defScope (memS (top 42) 8)) f cdv A outer s H E) E k) : PDSs (CF P w K mg base N_p_Pull_undo "Pull.undo" (defScope (memS (top 42) 8)) f cdv A outer s H E) E (defBody (memS (top 42) 8)) p_Pull_undo_b :=
  ds_cons (dp_if (pb_cmp (od_eq c.units) (pd_fld hF_Pull hN_Pull_past (pv_ (by kernel_rfl)) rfl) (pd_lst (pl_nil)) rfl) (ds_one (pds_raise rfl c hX_NothingToUndo (gl_ (by kernel_rfl)))) (ds_nil)) <|
  ds_one (dp_fld hF_Pull hN_Pull_now (pv_ (by kernel_rfl)) (pd_methZ plain_list slot_pop ty_pop md_pop (pd_fld hF_Pull hN_Pull_past (pv_ (by kernel_rfl)) rfl) rfl rfl) rfl)
theorem c_p_Pull_undo {j : Nat} {f : Addr} (hj : j + 3 ≤ k) (hF_Pull : ClsF K "Pull") (hX_NothingToUndo : ExF K mg "NothingToUndo") (hN_Pull_now : NoA K "Pull" "now") (hN_Pull_past : NoA K "Pull" "past") (dn : DnA K f "undo" "Pull.undo" (defArgs (memS (top 42) 8)) (defBody (memS (top 42) 8)) (defScope (memS (top 42) 8)) ["self"]) : FnR P w K mg base (L2.CX P w) (k + 1) f (spD K 1 (runDef 1 p_Pull_undo_b)) :=
  dn.fnR sc_p_Pull_undo rfl fun f cdv A outer s H E c => b_p_Pull_undo hj hF_Pull hX_NothingToUndo hN_Pull_now hN_Pull_past c
abbrev N_p_Pull_getitem : List Str := ["self", "index", "heights", "order", "row"]
theorem nd_p_Pull_getitem : N_p_Pull_getitem.Nodup := by decide +kernel
theorem sc_p_Pull_getitem : FnScope N_p_Pull_getitem ["self", "index"] (defScope (memS (top 42) 10)) := ⟨rfl, rfl, rfl, nd_p_Pull_getitem, rfl, by decide +kernel, by decide +kernel⟩
theorem b_p_Pull_getitem {j : Nat} {f : Addr} {cdv : Value} {A : Around} {outer : List PySem.Env} {s : Shared} {H : Hp} {E : XK} (hj : j + 3 ≤ k) (hF_Pull : ClsF K "Pull") (hX_InvalidPlace : ExF K mg "InvalidPlace") (hN_Pull_drag : NoA K "Pull" "drag") (hP_Pull_orderN : CalP P w K mg base j "Pull" "order" p_Pull_orderN) (hm_sum : mg "sum" = none) (hm_len : mg "len" = none) (h_p_is_number : Cal P w K mg base k "is_number" 1 p_is_number)
    (c : Cok (CF P w K mg base N_p_Pull_getitem "Pull.__getitem__" (defScope (memS (top 42) 10)) f cdv A outer s H E) E k) : PDSs (CF P w K mg base N_p_Pull_getitem "Pull.__getitem__" (defScope (memS (top 42) 10)) f cdv A outer s H E) E (defBody (memS (top 42) 10)) p_Pull_getitem_b :=
  ds_cons (dp_set nd_p_Pull_getitem (by kernel_rfl) (.inr (by kernel_rfl)) (pd_ix (id_ix c.units1) (pd_fld hF_Pull hN_Pull_drag (pv_ (by kernel_rfl)) rfl) (pd_int) (fun _ _ => rfl)) rfl (.inl rfl)) <|
  ds_cons (dp_if (PW.pt (pwb_or (pb_not (pb_val (pd_callU c h_p_is_number (Nat.le_refl _) (gl_ (by kernel_rfl)) (pl_cons (pv_ (by kernel_rfl)) (pl_nil) rfl) rfl rfl rfl) (fun _ => rfl))) (pw_or1 (pb_not (pb_chain od_le od_lt (pd_int) (pv_ (by kernel_rfl)) (pd_callB cd_len (gl_ (by kernel_rfl)) hm_len bb_len (pl_cons (pv_ (by kernel_rfl)) (pl_nil) rfl) (by decide) rfl rfl rfl) rfl))))) (ds_one (pds_raise rfl c hX_InvalidPlace (gl_ (by kernel_rfl)))) (ds_nil)) <|
  ds_cons (dp_set nd_p_Pull_getitem (by kernel_rfl) (.inl (by kernel_rfl)) (pd_prop c hF_Pull hP_Pull_orderN (by omega) (pv_ (by kernel_rfl)) rfl) rfl (.inl rfl)) <|
  ds_one (dp_ret (pd_callB (cd_sum rfl) (gl_ (by kernel_rfl)) hm_sum bb_sum (pl_cons (pd_lc (own := [(("row" : Str), 4)]) (t := .nm 4) rfl nd_p_Pull_getitem (di_val (pd_slice (pv_ (by kernel_rfl)) (pdo_none) (pdo_some (pd_indexN (pv_ (by kernel_rfl)) (pv_ (by kernel_rfl)) rfl rfl rfl rfl rfl)))) (blkOk_by (by kernel_rfl)) (fun _ _ _ _ _ => tg_name nd_p_Pull_getitem (by kernel_rfl) (.inl (by kernel_rfl)) (.inr (by kernel_rfl))) (fun _ _ _ _ _ => pts_nilD) (fun _ _ _ _ _ => pd_ix (id_ix c.blk.units1) (pv_ (by kernel_rfl)) (pv_ (by kernel_rfl)) (fun _ _ => rfl)) (fun _ => rfl) (by decide)) (pl_nil) rfl) (by decide) rfl rfl rfl))
theorem c_p_Pull_getitem {j : Nat} {f : Addr} (hj : j + 3 ≤ k) (hF_Pull : ClsF K "Pull") (hX_InvalidPlace : ExF K mg "InvalidPlace") (hN_Pull_drag : NoA K "Pull" "drag") (hP_Pull_orderN : CalP P w K mg base j "Pull" "order" p_Pull_orderN) (hm_sum : mg "sum" = none) (hm_len : mg "len" = none) (h_p_is_number : Cal P w K mg base k "is_number" 1 p_is_number) (dn : DnA K f "__getitem__" "Pull.__getitem__" (defArgs (memS (top 42) 10)) (defBody (memS (top 42) 10)) (defScope (memS (top 42) 10)) ["self", "index"]) : FnR P w K mg base (L2.CX P w) (k + 1) f (spD K 2 (runDef 5 p_Pull_getitem_b)) :=
  dn.fnR sc_p_Pull_getitem rfl fun f cdv A outer s H E c => b_p_Pull_getitem hj hF_Pull hX_InvalidPlace hN_Pull_drag hP_Pull_orderN hm_sum hm_len h_p_is_number c
abbrev N_p_Pull_contains : List Str := ["self", "value"]
theorem nd_p_Pull_contains : N_p_Pull_contains.Nodup := by decide +kernel
theorem sc_p_Pull_contains : FnScope N_p_Pull_contains ["self", "value"] (defScope (memS (top 42) 12)) := ⟨rfl, rfl, rfl, nd_p_Pull_contains, rfl, by decide +kernel, by decide +kernel⟩
theorem b_p_Pull_contains {j : Nat} {f : Addr} {cdv : Value} {A : Around} {outer : List PySem.Env} {s : Shared} {H : Hp} {E : XK} (hj : j + 3 ≤ k) (hF_Pull : ClsF K "Pull") (hN_Pull_now : NoA K "Pull" "now") (hN_Pull_drag : NoA K "Pull" "drag") (hN_Pull_rule : NoA K "Pull" "rule") (hm_len : mg "len" = none) (h_p_turn_of : Cal P w K mg base k "turn_of" 4 p_turn_of) (h_p_is_number : Cal P w K mg base k "is_number" 1 p_is_number)
    (c : Cok (CF P w K mg base N_p_Pull_contains "Pull.__contains__" (defScope (memS (top 42) 12)) f cdv A outer s H E) E k) : PDSs (CF P w K mg base N_p_Pull_contains "Pull.__contains__" (defScope (memS (top 42) 12)) f cdv A outer s H E) E (defBody (memS (top 42) 12)) p_Pull_contains_b :=
  ds_cons (dp_if (PW.pt (pwb_or (pb_not (pb_val (pd_callU c h_p_is_number (Nat.le_refl _) (gl_ (by kernel_rfl)) (pl_cons (pv_ (by kernel_rfl)) (pl_nil) rfl) rfl rfl rfl) (fun _ => rfl))) (pw_or1 (pb_not (pb_chain od_le od_lt (pd_int) (pv_ (by kernel_rfl)) (pd_callB cd_len (gl_ (by kernel_rfl)) hm_len bb_len (pl_cons (pd_ix (id_ix c.units1) (pd_fld hF_Pull hN_Pull_drag (pv_ (by kernel_rfl)) rfl) (pd_int) (fun _ _ => rfl)) (pl_nil) rfl) (by decide) rfl rfl rfl) rfl))))) (ds_one (dp_ret (pd_bl))) (ds_nil)) <|
  ds_one (dp_ret (pd_cmp (od_eq c.units) (pd_callU c h_p_turn_of (Nat.le_refl _) (gl_ (by kernel_rfl)) (pl_cons (pd_fld hF_Pull hN_Pull_rule (pv_ (by kernel_rfl)) rfl) (pl_cons (pd_fld hF_Pull hN_Pull_drag (pv_ (by kernel_rfl)) rfl) (pl_cons (pd_ix (id_ix c.units1) (pd_fld hF_Pull hN_Pull_now (pv_ (by kernel_rfl)) rfl) (pd_int) (fun _ _ => rfl)) (pl_cons (pv_ (by kernel_rfl)) (pl_nil) rfl) rfl) rfl) rfl) rfl rfl rfl) (pd_int) rfl))
theorem c_p_Pull_contains {j : Nat} {f : Addr} (hj : j + 3 ≤ k) (hF_Pull : ClsF K "Pull") (hN_Pull_now : NoA K "Pull" "now") (hN_Pull_drag : NoA K "Pull" "drag") (hN_Pull_rule : NoA K "Pull" "rule") (hm_len : mg "len" = none) (h_p_turn_of : Cal P w K mg base k "turn_of" 4 p_turn_of) (h_p_is_number : Cal P w K mg base k "is_number" 1 p_is_number) (dn : DnA K f "__contains__" "Pull.__contains__" (defArgs (memS (top 42) 12)) (defBody (memS (top 42) 12)) (defScope (memS (top 42) 12)) ["self", "value"]) : FnR P w K mg base (L2.CX P w) (k + 1) f (spD K 2 (runDef 2 p_Pull_contains_b)) :=
  dn.fnR sc_p_Pull_contains rfl fun f cdv A outer s H E c => b_p_Pull_contains hj hF_Pull hN_Pull_now hN_Pull_drag hN_Pull_rule hm_len h_p_turn_of h_p_is_number c
abbrev N_p_Pull_bool : List Str := ["self"]
theorem nd_p_Pull_bool : N_p_Pull_bool.Nodup := by decide +kernel
theorem sc_p_Pull_bool : FnScope N_p_Pull_bool ["self"] (defScope (memS (top 42) 13)) := ⟨rfl, rfl, rfl, nd_p_Pull_bool, rfl, by decide +kernel, by decide +kernel⟩
theorem b_p_Pull_bool {j : Nat} {f : Addr} {cdv : Value} {A : Around} {outer : List PySem.Env} {s : Shared} {H : Hp} {E : XK} (hj : j + 3 ≤ k) (hF_Pull : ClsF K "Pull") (hN_Pull_now : NoA K "Pull" "now") (hN_Pull_drag : NoA K "Pull" "drag") (hm_bool : mg "bool" = none)
    (c : Cok (CF P w K mg base N_p_Pull_bool "Pull.__bool__" (defScope (memS (top 42) 13)) f cdv A outer s H E) E k) : PDSs (CF P w K mg base N_p_Pull_bool "Pull.__bool__" (defScope (memS (top 42) 13)) f cdv A outer s H E) E (defBody (memS (top 42) 13)) p_Pull_bool_b :=
  ds_one (dp_ret (pd_callTy cd_bool (gl_ (by kernel_rfl)) hm_bool bb_bool (pl_cons (pd_cmp (od_ne c.units) (pd_ix (id_ix c.units1) (pd_fld hF_Pull hN_Pull_now (pv_ (by kernel_rfl)) rfl) (pd_int) (fun _ _ => rfl)) (pd_ix (id_ix c.units1) (pd_fld hF_Pull hN_Pull_drag (pv_ (by kernel_rfl)) rfl) (pd_int) (fun _ _ => rfl)) rfl) (pl_nil) rfl) (by decide) rfl rfl rfl))
theorem c_p_Pull_bool {j : Nat} {f : Addr} (hj : j + 3 ≤ k) (hF_Pull : ClsF K "Pull") (hN_Pull_now : NoA K "Pull" "now") (hN_Pull_drag : NoA K "Pull" "drag") (hm_bool : mg "bool" = none) (dn : DnA K f "__bool__" "Pull.__bool__" (defArgs (memS (top 42) 13)) (defBody (memS (top 42) 13)) (defScope (memS (top 42) 13)) ["self"]) : FnR P w K mg base (L2.CX P w) (k + 1) f (spD K 1 (runDef 1 p_Pull_bool_b)) :=
  dn.fnR sc_p_Pull_bool rfl fun f cdv A outer s H E c => b_p_Pull_bool hj hF_Pull hN_Pull_now hN_Pull_drag hm_bool c
abbrev N_p_Pull_eq : List Str := ["self", "other"]
theorem nd_p_Pull_eq : N_p_Pull_eq.Nodup := by decide +kernel
theorem sc_p_Pull_eq : FnScope N_p_Pull_eq ["self", "other"] (defScope (memS (top 42) 15)) := ⟨rfl, rfl, rfl, nd_p_Pull_eq, rfl, by decide +kernel, by decide +kernel⟩
theorem b_p_Pull_eq {j : Nat} {f : Addr} {cdv : Value} {A : Around} {outer : List PySem.Env} {s : Shared} {H : Hp} {E : XK} (hj : j + 3 ≤ k) (hF_Pull : ClsF K "Pull") (hN_Pull_now : NoA K "Pull" "now") (hN_Pull_drag : NoA K "Pull" "drag") (hN_Pull_rule : NoA K "Pull" "rule") (hG_Pull : mg "Pull" = some (.ref (He.ga K "Pull"))) (hm_isinstance : mg "isinstance" = none)
    (c : Cok (CF P w K mg base N_p_Pull_eq "Pull.__eq__" (defScope (memS (top 42) 15)) f cdv A outer s H E) E k) : PDSs (CF P w K mg base N_p_Pull_eq "Pull.__eq__" (defScope (memS (top 42) 15)) f cdv A outer s H E) E (defBody (memS (top 42) 15)) p_Pull_eq_b :=
  ds_cons (dp_if (PW.pt (pwb_or (pb_not (pb_val (pd_isC hF_Pull (gl_ (by kernel_rfl)) hm_isinstance bb_isinstance (gl_ (by kernel_rfl)) hG_Pull (pv_ (by kernel_rfl)) (by decide) rfl rfl (fun _ => rfl)) (fun _ => rfl))) (pwb_or (pb_cmp (od_ne c.units) (pd_fld hF_Pull hN_Pull_rule (pv_ (by kernel_rfl)) rfl) (pd_fld hF_Pull hN_Pull_rule (pv_ (by kernel_rfl)) rfl) rfl) (pw_or1 (pb_cmp (od_ne c.units) (pd_fld hF_Pull hN_Pull_drag (pv_ (by kernel_rfl)) rfl) (pd_fld hF_Pull hN_Pull_drag (pv_ (by kernel_rfl)) rfl) rfl))))) (ds_one (dp_ret (pd_bl))) (ds_nil)) <|
  ds_one (dp_ret (pd_cmp (od_eq c.units) (pd_slice (pd_fld hF_Pull hN_Pull_now (pv_ (by kernel_rfl)) rfl) (pdo_none) (pdo_some (pd_int))) (pd_slice (pd_fld hF_Pull hN_Pull_now (pv_ (by kernel_rfl)) rfl) (pdo_none) (pdo_some (pd_int))) rfl))
theorem c_p_Pull_eq {j : Nat} {f : Addr} (hj : j + 3 ≤ k) (hF_Pull : ClsF K "Pull") (hN_Pull_now : NoA K "Pull" "now") (hN_Pull_drag : NoA K "Pull" "drag") (hN_Pull_rule : NoA K "Pull" "rule") (hG_Pull : mg "Pull" = some (.ref (He.ga K "Pull"))) (hm_isinstance : mg "isinstance" = none) (dn : DnA K f "__eq__" "Pull.__eq__" (defArgs (memS (top 42) 15)) (defBody (memS (top 42) 15)) (defScope (memS (top 42) 15)) ["self", "other"]) : FnR P w K mg base (L2.CX P w) (k + 1) f (spD K 2 (runDef 2 p_Pull_eq_b)) :=
  dn.fnR sc_p_Pull_eq rfl fun f cdv A outer s H E c => b_p_Pull_eq hj hF_Pull hN_Pull_now hN_Pull_drag hN_Pull_rule hG_Pull hm_isinstance c
abbrev N_p_Pull_log : List Str := ["self", "pointer", "place"]
theorem nd_p_Pull_log : N_p_Pull_log.Nodup := by decide +kernel
theorem gsc_p_Pull_log : GScope N_p_Pull_log ["self"] (defScope (memS (top 42) 16)) := ⟨rfl, rfl, rfl, nd_p_Pull_log, rfl, by decide +kernel, by decide +kernel⟩
theorem c_p_Pull_log {j : Nat} {f : Addr} (hj : j + 3 ≤ k) (hF_Pull : ClsF K "Pull") (hN_Pull_now : NoA K "Pull" "now") (dn : DnA K f "log" "Pull.log" (defArgs (memS (top 42) 16)) (defBody (memS (top 42) 16)) (defScope (memS (top 42) 16)) ["self"]) : ∃ fd, GFn P w K mg base (k + 1) f fd ["self"] (spDG K 1 p_Pull_log) ∧ Binds K fd ["self"] [] := by
  obtain ⟨fd, F, b⟩ := dn.ex
  exact ⟨fd, gfn_ok F gsc_p_Pull_log rfl (fun _ _ _ _ _ _ c => ⟨di_val (pd_ix (id_ix c.units1) (pd_fld hF_Pull hN_Pull_now (pv_ (by kernel_rfl)) rfl) (pd_int) (fun _ _ => rfl)), dg_of (tg_tup rfl (tgs_cons (tg_name nd_p_Pull_log (by kernel_rfl) (.inl (by kernel_rfl)) (.inr (by kernel_rfl))) (tgs_cons (tg_name nd_p_Pull_log (by kernel_rfl) (.inl (by kernel_rfl)) (.inr (by kernel_rfl))) (tgs_nil) (by kernel_rfl)) (by kernel_rfl)) (by kernel_rfl) (by kernel_rfl)), pd_fs (pj_consD (pd_fmt (pv_ (by kernel_rfl))) (pj_consD (pd_str) (pj_consD (pd_fmt (pv_ (by kernel_rfl))) (pj_nilD))))⟩) rfl (fun _ _ _ _ _ _ => rfl) (fun _ _ _ _ _ _ _ => rfl), b⟩
abbrev N_l_source : List Str := ["_law_script", "_law_k", "_law_cell"]
theorem nd_l_source : N_l_source.Nodup := by decide +kernel
theorem sc_l_source : FnScope N_l_source ["_law_script", "_law_k"] (defScope (top 44)) := ⟨rfl, rfl, rfl, nd_l_source, rfl, by decide +kernel, by decide +kernel⟩
theorem b_l_source {f : Addr} {cdv : Value} {A : Around} {outer : List PySem.Env} {s : Shared} {H : Hp} {E : XK} (hm_int : mg "int" = none) (hm_len : mg "len" = none) (hm_abs : mg "abs" = none)
    (c : Cok (CF P w K mg base N_l_source "_law_source" (defScope (top 44)) f cdv A outer s H E) E k) : PDSs (CF P w K mg base N_l_source "_law_source" (defScope (top 44)) f cdv A outer s H E) E (defBody (top 44)) l_source_b :=
  ds_cons (dp_set nd_l_source (by kernel_rfl) (.inl (by kernel_rfl)) (pd_int) rfl (.inl rfl)) <|
  ds_cons (dp_if (pb_cmp od_lt (pv_ (by kernel_rfl)) (pd_callB cd_len (gl_ (by kernel_rfl)) hm_len bb_len (pl_cons (pv_ (by kernel_rfl)) (pl_nil) rfl) (by decide) rfl rfl rfl) rfl) (ds_one (dp_set nd_l_source (by kernel_rfl) (.inl (by kernel_rfl)) (pd_callB cd_abs (gl_ (by kernel_rfl)) hm_abs bb_abs (pl_cons (pd_callTy cd_int (gl_ (by kernel_rfl)) hm_int bb_int (pl_cons (pd_ix (id_ix c.units1) (pv_ (by kernel_rfl)) (pv_ (by kernel_rfl)) (fun _ _ => rfl)) (pl_nil) rfl) (by decide) rfl rfl rfl) (pl_nil) rfl) (by decide) rfl rfl rfl) rfl (.inl rfl))) (ds_nil)) <|
  ds_cons (dp_if (pb_cmp od_lt (pv_ (by kernel_rfl)) (pd_bin od_pow (pd_int) (pd_int)) rfl) (ds_one (dp_ret (pd_own (pl_cons (pd_int) (pl_cons (pd_bin od_add (pd_int) (pd_bin od_mod (pd_callTy cd_int (gl_ (by kernel_rfl)) hm_int bb_int (pl_cons (pd_bin od_add (pd_bin od_mul (pv_ (by kernel_rfl)) (pd_int)) (pd_bin od_mul (pd_int) (pv_ (by kernel_rfl)))) (pl_nil) rfl) (by decide) rfl rfl rfl) (pd_int))) (pl_nil) rfl) rfl)))) (ds_nil)) <|
  ds_one (dp_ret (pd_own (pl_cons (pv_ (by kernel_rfl)) (pl_cons (pd_bin od_add (pd_int) (pd_bin od_mod (pd_callTy cd_int (gl_ (by kernel_rfl)) hm_int bb_int (pl_cons (pd_bin od_add (pv_ (by kernel_rfl)) (pv_ (by kernel_rfl))) (pl_nil) rfl) (by decide) rfl rfl rfl) (pd_int))) (pl_nil) rfl) rfl)))
theorem c_l_source (hm_int : mg "int" = none) (hm_len : mg "len" = none) (hm_abs : mg "abs" = none) (dn : Dn K mg "_law_source" "_law_source" (defArgs (top 44)) (defBody (top 44)) (defScope (top 44)) ["_law_script", "_law_k"]) : Cal P w K mg base (k + 1) "_law_source" 2 (runDef 3 l_source_b) :=
  dn.cal sc_l_source rfl fun f cdv A outer s H E c => b_l_source hm_int hm_len hm_abs c
abbrev N_l_draw : List Str := ["_law_source_here", "_law_many", "_law_found"]
theorem nd_l_draw : N_l_draw.Nodup := by decide +kernel
theorem sc_l_draw : FnScope N_l_draw ["_law_source_here", "_law_many"] (defScope (top 45)) := ⟨rfl, rfl, rfl, nd_l_draw, rfl, by decide +kernel, by decide +kernel⟩
theorem b_l_draw {f : Addr} {cdv : Value} {A : Around} {outer : List PySem.Env} {s : Shared} {H : Hp} {E : XK} (hm_int : mg "int" = none)
    (c : Cok (CF P w K mg base N_l_draw "_law_draw" (defScope (top 45)) f cdv A outer s H E) E k) : PDSs (CF P w K mg base N_l_draw "_law_draw" (defScope (top 45)) f cdv A outer s H E) E (defBody (top 45)) l_draw_b :=
  ds_cons (dp_if (pb_cmp od_gt (pd_ix (id_ix c.units1) (pv_ (by kernel_rfl)) (pd_int) (fun _ _ => rfl)) (pd_int) rfl) (ds_cons (dp_set nd_l_draw (by kernel_rfl) (.inl (by kernel_rfl)) (pd_bin od_mod (pd_callTy cd_int (gl_ (by kernel_rfl)) hm_int bb_int (pl_cons (pd_ix (id_ix c.units1) (pv_ (by kernel_rfl)) (pd_int) (fun _ _ => rfl)) (pl_nil) rfl) (by decide) rfl rfl rfl) (pv_ (by kernel_rfl))) rfl (.inl rfl)) <|
  ds_cons (dp_asg (pd_bin od_div (pd_ix (id_ix c.units1) (pv_ (by kernel_rfl)) (pd_int) (fun _ _ => rfl)) (pv_ (by kernel_rfl))) (dg_sub c.units1 (pv_ (by kernel_rfl)) (pd_int) (fun _ => rfl)) rfl rfl rfl) <|
  ds_one (dp_ret (pv_ (by kernel_rfl)))) (ds_nil)) <|
  ds_cons (dp_asg (pd_bin od_mod (pd_callTy cd_int (gl_ (by kernel_rfl)) hm_int bb_int (pl_cons (pd_bin od_mul (pd_ix (id_ix c.units1) (pv_ (by kernel_rfl)) (pd_int) (fun _ _ => rfl)) (pd_int)) (pl_nil) rfl) (by decide) rfl rfl rfl) (pd_int)) (dg_sub c.units1 (pv_ (by kernel_rfl)) (pd_int) (fun _ => rfl)) rfl rfl rfl) <|
  ds_one (dp_ret (pd_bin od_mod (pd_callTy cd_int (gl_ (by kernel_rfl)) hm_int bb_int (pl_cons (pd_bin od_div (pd_bin od_mod (pd_callTy cd_int (gl_ (by kernel_rfl)) hm_int bb_int (pl_cons (pd_bin od_mul (pd_ix (id_ix c.units1) (pv_ (by kernel_rfl)) (pd_int) (fun _ _ => rfl)) (pd_ix (id_ix c.units1) (pv_ (by kernel_rfl)) (pd_int) (fun _ _ => rfl))) (pl_nil) rfl) (by decide) rfl rfl rfl) (pd_int)) (pd_int)) (pl_nil) rfl) (by decide) rfl rfl rfl) (pv_ (by kernel_rfl))))
theorem c_l_draw (hm_int : mg "int" = none) (dn : Dn K mg "_law_draw" "_law_draw" (defArgs (top 45)) (defBody (top 45)) (defScope (top 45)) ["_law_source_here", "_law_many"]) : Cal P w K mg base (k + 1) "_law_draw" 2 (runDef 3 l_draw_b) :=
  dn.cal sc_l_draw rfl fun f cdv A outer s H E c => b_l_draw hm_int c
abbrev N_l_of : List Str := ["_law_source_here", "_law_items"]
theorem nd_l_of : N_l_of.Nodup := by decide +kernel
theorem sc_l_of : FnScope N_l_of ["_law_source_here", "_law_items"] (defScope (top 46)) := ⟨rfl, rfl, rfl, nd_l_of, rfl, by decide +kernel, by decide +kernel⟩
theorem b_l_of {f : Addr} {cdv : Value} {A : Around} {outer : List PySem.Env} {s : Shared} {H : Hp} {E : XK} (hm_len : mg "len" = none) (h_l_draw : Cal P w K mg base k "_law_draw" 2 l_draw)
    (c : Cok (CF P w K mg base N_l_of "_law_of" (defScope (top 46)) f cdv A outer s H E) E k) : PDSs (CF P w K mg base N_l_of "_law_of" (defScope (top 46)) f cdv A outer s H E) E (defBody (top 46)) l_of_b :=
  ds_one (dp_ret (pd_ix (id_ix c.units1) (pv_ (by kernel_rfl)) (pd_callU c h_l_draw (Nat.le_refl _) (gl_ (by kernel_rfl)) (pl_cons (pv_ (by kernel_rfl)) (pl_cons (pd_callB cd_len (gl_ (by kernel_rfl)) hm_len bb_len (pl_cons (pv_ (by kernel_rfl)) (pl_nil) rfl) (by decide) rfl rfl rfl) (pl_nil) rfl) rfl) rfl rfl rfl) (fun _ _ => rfl)))
theorem c_l_of (hm_len : mg "len" = none) (h_l_draw : Cal P w K mg base k "_law_draw" 2 l_draw) (dn : Dn K mg "_law_of" "_law_of" (defArgs (top 46)) (defBody (top 46)) (defScope (top 46)) ["_law_source_here", "_law_items"]) : Cal P w K mg base (k + 1) "_law_of" 2 (runDef 2 l_of_b) :=
  dn.cal sc_l_of rfl fun f cdv A outer s H E c => b_l_of hm_len h_l_draw c
abbrev N_l_known : List Str := ["_law_source_here", "_law_share", "_law_other", "_law_thing", "_law_back", "_law_goal", "_law_down", "_law_flat", "_law_up", "_law_mode", "_law_more"]
theorem nd_l_known : N_l_known.Nodup := by decide +kernel
theorem sc_l_known : FnScope N_l_known ["_law_source_here"] (defScope (top 50)) := ⟨rfl, rfl, rfl, nd_l_known, rfl, by decide +kernel, by decide +kernel⟩
theorem b_l_known {f : Addr} {cdv : Value} {A : Around} {outer : List PySem.Env} {s : Shared} {H : Hp} {E : XK} (h_l_draw : Cal P w K mg base k "_law_draw" 2 l_draw) (h_l_of : Cal P w K mg base k "_law_of" 2 l_of)
    (c : Cok (CF P w K mg base N_l_known "_law_known" (defScope (top 50)) f cdv A outer s H E) E k) : PDSs (CF P w K mg base N_l_known "_law_known" (defScope (top 50)) f cdv A outer s H E) E (defBody (top 50)) l_known_b :=
  ds_cons (dp_set nd_l_known (by kernel_rfl) (.inl (by kernel_rfl)) (pd_callU c h_l_of (Nat.le_refl _) (gl_ (by kernel_rfl)) (pl_cons (pv_ (by kernel_rfl)) (pl_cons (pd_lst (pl_cons (pd_int) (pl_cons (pd_int) (pl_cons (pd_int) (pl_cons (pd_int) (pl_cons (pd_int) (pl_cons (pd_int) (pl_nil) rfl) rfl) rfl) rfl) rfl) rfl)) (pl_nil) rfl) rfl) rfl rfl rfl) rfl (.inl rfl)) <|
  ds_cons (dp_set nd_l_known (by kernel_rfl) (.inl (by kernel_rfl)) (pd_callU c h_l_of (Nat.le_refl _) (gl_ (by kernel_rfl)) (pl_cons (pv_ (by kernel_rfl)) (pl_cons (pd_lst (pl_cons (pd_str) (pl_cons (pd_str) (pl_nil) rfl) rfl)) (pl_nil) rfl) rfl) rfl rfl rfl) rfl (.inl rfl)) <|
  ds_cons (dp_set nd_l_known (by kernel_rfl) (.inl (by kernel_rfl)) (pd_callU c h_l_of (Nat.le_refl _) (gl_ (by kernel_rfl)) (pl_cons (pv_ (by kernel_rfl)) (pl_cons (pd_lst (pl_cons (pd_tup (pl_cons (pd_str) (pl_nil) rfl)) (pl_cons (pd_tup (pl_cons (pd_str) (pl_cons (pd_callU c h_l_of (Nat.le_refl _) (gl_ (by kernel_rfl)) (pl_cons (pv_ (by kernel_rfl)) (pl_cons (pd_lst (pl_cons (pd_int) (pl_cons (pd_int) (pl_cons (pd_int) (pl_cons (pd_int) (pl_nil) rfl) rfl) rfl) rfl)) (pl_nil) rfl) rfl) rfl rfl rfl) (pl_nil) rfl) rfl)) (pl_nil) rfl) rfl)) (pl_nil) rfl) rfl) rfl rfl rfl) rfl (.inl rfl)) <|
  ds_cons (dp_set nd_l_known (by kernel_rfl) (.inl (by kernel_rfl)) (pd_if (pb_cmp (od_eq c.units) (pv_ (by kernel_rfl)) (pd_tup (pl_cons (pd_str) (pl_nil) rfl)) rfl) (pd_tup (pl_cons (pd_str) (pl_nil) rfl)) (pd_tup (pl_cons (pd_str) (pl_cons (pd_bin od_sub (pd_int) (pd_ix (id_ix c.units1) (pv_ (by kernel_rfl)) (pd_int) (fun _ _ => rfl))) (pl_nil) rfl) rfl))) rfl (.inl rfl)) <|
  ds_cons (dp_set nd_l_known (by kernel_rfl) (.inl (by kernel_rfl)) (pd_callU c h_l_of (Nat.le_refl _) (gl_ (by kernel_rfl)) (pl_cons (pv_ (by kernel_rfl)) (pl_cons (pd_lst (pl_cons (pd_tup (pl_cons (pd_str) (pl_cons (pv_ (by kernel_rfl)) (pl_nil) rfl) rfl)) (pl_cons (pd_tup (pl_cons (pd_str) (pl_cons (pv_ (by kernel_rfl)) (pl_nil) rfl) rfl)) (pl_cons (pd_tup (pl_cons (pd_str) (pl_cons (pd_int) (pl_nil) rfl) rfl)) (pl_nil) rfl) rfl) rfl)) (pl_nil) rfl) rfl) rfl rfl rfl) rfl (.inl rfl)) <|
  ds_cons (dp_set nd_l_known (by kernel_rfl) (.inl (by kernel_rfl)) (pd_tup (pl_cons (pv_ (by kernel_rfl)) (pl_cons (pv_ (by kernel_rfl)) (pl_cons (pv_ (by kernel_rfl)) (pl_nil) rfl) rfl) rfl)) rfl (.inl rfl)) <|
  ds_cons (dp_set nd_l_known (by kernel_rfl) (.inl (by kernel_rfl)) (pd_tup (pl_cons (pd_ix (id_ix c.units1) (pd_ix (id_ix c.units1) (pv_ (by kernel_rfl)) (pd_int) (fun _ _ => rfl)) (pd_int) (fun _ _ => rfl)) (pl_cons (pd_bin od_sub (pd_int) (pd_ix (id_ix c.units1) (pd_ix (id_ix c.units1) (pv_ (by kernel_rfl)) (pd_int) (fun _ _ => rfl)) (pd_int) (fun _ _ => rfl))) (pl_nil) rfl) rfl)) rfl (.inl rfl)) <|
  ds_cons (dp_set nd_l_known (by kernel_rfl) (.inl (by kernel_rfl)) (pd_tup (pl_cons (pd_callU c h_l_of (Nat.le_refl _) (gl_ (by kernel_rfl)) (pl_cons (pv_ (by kernel_rfl)) (pl_cons (pd_lst (pl_cons (pd_str) (pl_cons (pd_str) (pl_nil) rfl) rfl)) (pl_nil) rfl) rfl) rfl rfl rfl) (pl_cons (pv_ (by kernel_rfl)) (pl_cons (pv_ (by kernel_rfl)) (pl_nil) rfl) rfl) rfl)) rfl (.inl rfl)) <|
  ds_cons (dp_set nd_l_known (by kernel_rfl) (.inl (by kernel_rfl)) (pd_callU c h_l_draw (Nat.le_refl _) (gl_ (by kernel_rfl)) (pl_cons (pv_ (by kernel_rfl)) (pl_cons (pd_int) (pl_nil) rfl) rfl) rfl rfl rfl) rfl (.inl rfl)) <|
  ds_cons (dp_if (pb_cmp (od_eq c.units) (pv_ (by kernel_rfl)) (pd_int) rfl) (ds_cons (dp_set nd_l_known (by kernel_rfl) (.inl (by kernel_rfl)) (pd_tup (pl_cons (pd_callU c h_l_of (Nat.le_refl _) (gl_ (by kernel_rfl)) (pl_cons (pv_ (by kernel_rfl)) (pl_cons (pd_lst (pl_cons (pd_str) (pl_cons (pd_str) (pl_nil) rfl) rfl)) (pl_nil) rfl) rfl) rfl rfl rfl) (pl_cons (pd_tup (pl_cons (pd_str) (pl_nil) rfl)) (pl_cons (pd_tup (pl_cons (pd_str) (pl_cons (pd_bin od_mul (pd_int) (pd_callU c h_l_draw (Nat.le_refl _) (gl_ (by kernel_rfl)) (pl_cons (pv_ (by kernel_rfl)) (pl_cons (pd_int) (pl_nil) rfl) rfl) rfl rfl rfl)) (pl_nil) rfl) rfl)) (pl_nil) rfl) rfl) rfl)) rfl (.inl rfl)) <|
  ds_one (dp_set nd_l_known (by kernel_rfl) (.inl (by kernel_rfl)) (pd_tup (pl_cons (pd_str) (pl_cons (pv_ (by kernel_rfl)) (pl_cons (pv_ (by kernel_rfl)) (pl_nil) rfl) rfl) rfl)) rfl (.inl rfl))) (ds_nil)) <|
  ds_cons (dp_if (pb_cmp (od_eq c.units) (pv_ (by kernel_rfl)) (pd_int) rfl) (ds_one (dp_set nd_l_known (by kernel_rfl) (.inl (by kernel_rfl)) (pd_tup (pl_cons (pd_str) (pl_cons (pv_ (by kernel_rfl)) (pl_cons (pd_tup (pl_cons (pd_str) (pl_cons (pd_tup (pl_cons (pd_str) (pl_nil) rfl)) (pl_cons (pd_tup (pl_cons (pd_str) (pl_cons (pd_int) (pl_nil) rfl) rfl)) (pl_nil) rfl) rfl) rfl)) (pl_nil) rfl) rfl) rfl)) rfl (.inl rfl))) (ds_nil)) <|
  ds_one (dp_ret (pd_tup (pl_cons (pv_ (by kernel_rfl)) (pl_cons (pv_ (by kernel_rfl)) (pl_nil) rfl) rfl)))
theorem c_l_known (h_l_draw : Cal P w K mg base k "_law_draw" 2 l_draw) (h_l_of : Cal P w K mg base k "_law_of" 2 l_of) (dn : Dn K mg "_law_known" "_law_known" (defArgs (top 50)) (defBody (top 50)) (defScope (top 50)) ["_law_source_here"]) : Cal P w K mg base (k + 1) "_law_known" 1 (runDef 11 l_known_b) :=
  dn.cal sc_l_known rfl fun f cdv A outer s H E c => b_l_known h_l_draw h_l_of c
abbrev N_l_point : List Str := ["_law_source_here", "_law_thing"]
theorem nd_l_point : N_l_point.Nodup := by decide +kernel
theorem sc_l_point : FnScope N_l_point ["_law_source_here"] (defScope (top 47)) := ⟨rfl, rfl, rfl, nd_l_point, rfl, by decide +kernel, by decide +kernel⟩
theorem b_l_point {f : Addr} {cdv : Value} {A : Around} {outer : List PySem.Env} {s : Shared} {H : Hp} {E : XK} (h_l_of : Cal P w K mg base k "_law_of" 2 l_of) (h_l_draw : Cal P w K mg base k "_law_draw" 2 l_draw)
    (c : Cok (CF P w K mg base N_l_point "_law_point" (defScope (top 47)) f cdv A outer s H E) E k) : PDSs (CF P w K mg base N_l_point "_law_point" (defScope (top 47)) f cdv A outer s H E) E (defBody (top 47)) l_point_b :=
  ds_cons (dp_set nd_l_point (by kernel_rfl) (.inl (by kernel_rfl)) (pd_callU c h_l_of (Nat.le_refl _) (gl_ (by kernel_rfl)) (pl_cons (pv_ (by kernel_rfl)) (pl_cons (pd_lst (pl_cons (pd_str) (pl_cons (pd_str) (pl_cons (pd_str) (pl_cons (pd_str) (pl_cons (pd_str) (pl_cons (pd_str) (pl_nil) rfl) rfl) rfl) rfl) rfl) rfl)) (pl_nil) rfl) rfl) rfl rfl rfl) rfl (.inl rfl)) <|
  ds_cons (dp_if (pb_cmp (od_eq c.units) (pv_ (by kernel_rfl)) (pd_str) rfl) (ds_one (dp_ret (pd_tup (pl_cons (pd_str) (pl_nil) rfl)))) (ds_nil)) <|
  ds_one (dp_ret (pd_tup (pl_cons (pv_ (by kernel_rfl)) (pl_cons (pd_callU c h_l_of (Nat.le_refl _) (gl_ (by kernel_rfl)) (pl_cons (pv_ (by kernel_rfl)) (pl_cons (pd_lst (pl_cons (pd_int) (pl_cons (pd_int) (pl_cons (pd_int) (pl_cons (pd_callU c h_l_draw (Nat.le_refl _) (gl_ (by kernel_rfl)) (pl_cons (pv_ (by kernel_rfl)) (pl_cons (pd_int) (pl_nil) rfl) rfl) rfl rfl rfl) (pl_nil) rfl) rfl) rfl) rfl)) (pl_nil) rfl) rfl) rfl rfl rfl) (pl_nil) rfl) rfl)))
theorem c_l_point (h_l_of : Cal P w K mg base k "_law_of" 2 l_of) (h_l_draw : Cal P w K mg base k "_law_draw" 2 l_draw) (dn : Dn K mg "_law_point" "_law_point" (defArgs (top 47)) (defBody (top 47)) (defScope (top 47)) ["_law_source_here"]) : Cal P w K mg base (k + 1) "_law_point" 1 (runDef 2 l_point_b) :=
  dn.cal sc_l_point rfl fun f cdv A outer s H E c => b_l_point h_l_of h_l_draw c
abbrev N_l_comparison : List Str := ["_law_source_here", "_law_word"]
theorem nd_l_comparison : N_l_comparison.Nodup := by decide +kernel
theorem sc_l_comparison : FnScope N_l_comparison ["_law_source_here"] (defScope (top 48)) := ⟨rfl, rfl, rfl, nd_l_comparison, rfl, by decide +kernel, by decide +kernel⟩
theorem b_l_comparison {f : Addr} {cdv : Value} {A : Around} {outer : List PySem.Env} {s : Shared} {H : Hp} {E : XK} (h_l_point : Cal P w K mg base k "_law_point" 1 l_point) (h_l_of : Cal P w K mg base k "_law_of" 2 l_of)
    (c : Cok (CF P w K mg base N_l_comparison "_law_comparison" (defScope (top 48)) f cdv A outer s H E) E k) : PDSs (CF P w K mg base N_l_comparison "_law_comparison" (defScope (top 48)) f cdv A outer s H E) E (defBody (top 48)) l_comparison_b :=
  ds_cons (dp_set nd_l_comparison (by kernel_rfl) (.inl (by kernel_rfl)) (pd_callU c h_l_of (Nat.le_refl _) (gl_ (by kernel_rfl)) (pl_cons (pv_ (by kernel_rfl)) (pl_cons (pd_lst (pl_cons (pd_str) (pl_cons (pd_str) (pl_cons (pd_str) (pl_cons (pd_str) (pl_nil) rfl) rfl) rfl) rfl)) (pl_nil) rfl) rfl) rfl rfl rfl) rfl (.inl rfl)) <|
  ds_one (dp_ret (pd_tup (pl_cons (pv_ (by kernel_rfl)) (pl_cons (pd_callU c h_l_point (Nat.le_refl _) (gl_ (by kernel_rfl)) (pl_cons (pv_ (by kernel_rfl)) (pl_nil) rfl) rfl rfl rfl) (pl_cons (pd_callU c h_l_point (Nat.le_refl _) (gl_ (by kernel_rfl)) (pl_cons (pv_ (by kernel_rfl)) (pl_nil) rfl) rfl rfl rfl) (pl_nil) rfl) rfl) rfl)))
theorem c_l_comparison (h_l_point : Cal P w K mg base k "_law_point" 1 l_point) (h_l_of : Cal P w K mg base k "_law_of" 2 l_of) (dn : Dn K mg "_law_comparison" "_law_comparison" (defArgs (top 48)) (defBody (top 48)) (defScope (top 48)) ["_law_source_here"]) : Cal P w K mg base (k + 1) "_law_comparison" 1 (runDef 2 l_comparison_b) :=
  dn.cal sc_l_comparison rfl fun f cdv A outer s H E c => b_l_comparison h_l_point h_l_of c
abbrev N_l_condition : List Str := ["_law_source_here", "_law_many", "_law_parts", "_law_turn"]
theorem nd_l_condition : N_l_condition.Nodup := by decide +kernel
theorem sc_l_condition : FnScope N_l_condition ["_law_source_here"] (defScope (top 49)) := ⟨rfl, rfl, rfl, nd_l_condition, rfl, by decide +kernel, by decide +kernel⟩
theorem b_l_condition {f : Addr} {cdv : Value} {A : Around} {outer : List PySem.Env} {s : Shared} {H : Hp} {E : XK} (hm_tuple : mg "tuple" = none) (hm_range : mg "range" = none) (h_l_of : Cal P w K mg base k "_law_of" 2 l_of) (h_l_comparison : Cal P w K mg base k "_law_comparison" 1 l_comparison)
    (c : Cok (CF P w K mg base N_l_condition "_law_condition" (defScope (top 49)) f cdv A outer s H E) E k) : PDSs (CF P w K mg base N_l_condition "_law_condition" (defScope (top 49)) f cdv A outer s H E) E (defBody (top 49)) l_condition_b :=
  ds_cons (dp_set nd_l_condition (by kernel_rfl) (.inl (by kernel_rfl)) (pd_callU c h_l_of (Nat.le_refl _) (gl_ (by kernel_rfl)) (pl_cons (pv_ (by kernel_rfl)) (pl_cons (pd_lst (pl_cons (pd_int) (pl_cons (pd_int) (pl_cons (pd_int) (pl_cons (pd_int) (pl_cons (pd_int) (pl_nil) rfl) rfl) rfl) rfl) rfl)) (pl_nil) rfl) rfl) rfl rfl rfl) rfl (.inl rfl)) <|
  ds_cons (dp_set nd_l_condition (by kernel_rfl) (.inl (by kernel_rfl)) (pd_callTy cd_tuple (gl_ (by kernel_rfl)) hm_tuple bb_tuple (pl_cons (pd_lc (own := [(("_law_turn" : Str), 3)]) (t := .nm 3) rfl nd_l_condition (di_range1 (gl_ (by kernel_rfl)) hm_range (pl_cons (pv_ (by kernel_rfl)) (pl_nil) rfl) rfl) (blkOk_by (by kernel_rfl)) (fun _ _ _ _ _ => tg_name nd_l_condition (by kernel_rfl) (.inl (by kernel_rfl)) (.inr (by kernel_rfl))) (fun _ _ _ _ _ => pts_nilD) (fun _ _ _ _ _ => pd_callU c.blk h_l_comparison (Nat.le_refl _) (gl_ (by kernel_rfl)) (pl_cons (pv_ (by kernel_rfl)) (pl_nil) rfl) rfl rfl rfl) (fun _ => rfl) (by decide)) (pl_nil) rfl) (by decide) rfl rfl rfl) rfl (.inl rfl)) <|
  ds_one (dp_ret (pd_if (pb_cmp (od_eq c.units) (pv_ (by kernel_rfl)) (pd_int) rfl) (pd_ix (id_ix c.units1) (pv_ (by kernel_rfl)) (pd_int) (fun _ _ => rfl)) (pd_bin od_add (pd_tup (pl_cons (pd_callU c h_l_of (Nat.le_refl _) (gl_ (by kernel_rfl)) (pl_cons (pv_ (by kernel_rfl)) (pl_cons (pd_lst (pl_cons (pd_str) (pl_cons (pd_str) (pl_nil) rfl) rfl)) (pl_nil) rfl) rfl) rfl rfl rfl) (pl_nil) rfl)) (pv_ (by kernel_rfl)))))
theorem c_l_condition (hm_tuple : mg "tuple" = none) (hm_range : mg "range" = none) (h_l_of : Cal P w K mg base k "_law_of" 2 l_of) (h_l_comparison : Cal P w K mg base k "_law_comparison" 1 l_comparison) (dn : Dn K mg "_law_condition" "_law_condition" (defArgs (top 49)) (defBody (top 49)) (defScope (top 49)) ["_law_source_here"]) : Cal P w K mg base (k + 1) "_law_condition" 1 (runDef 4 l_condition_b) :=
  dn.cal sc_l_condition rfl fun f cdv A outer s H E c => b_l_condition hm_tuple hm_range h_l_of h_l_comparison c
abbrev N_l_rule : List Str := ["_law_source_here", "_law_mode", "_law_found"]
theorem nd_l_rule : N_l_rule.Nodup := by decide +kernel
theorem sc_l_rule : FnScope N_l_rule ["_law_source_here"] (defScope (top 51)) := ⟨rfl, rfl, rfl, nd_l_rule, rfl, by decide +kernel, by decide +kernel⟩
theorem b_l_rule {f : Addr} {cdv : Value} {A : Around} {outer : List PySem.Env} {s : Shared} {H : Hp} {E : XK} (h_l_condition : Cal P w K mg base k "_law_condition" 1 l_condition) (h_l_known : Cal P w K mg base k "_law_known" 1 l_known) (h_l_draw : Cal P w K mg base k "_law_draw" 2 l_draw)
    (c : Cok (CF P w K mg base N_l_rule "_law_rule" (defScope (top 51)) f cdv A outer s H E) E k) : PDSs (CF P w K mg base N_l_rule "_law_rule" (defScope (top 51)) f cdv A outer s H E) E (defBody (top 51)) l_rule_b :=
  ds_cons (dp_par2 rfl nd_l_rule (by kernel_rfl) (by kernel_rfl) (by decide) (by kernel_rfl) (by kernel_rfl) (pl_cons (pd_callU c h_l_draw (Nat.le_refl _) (gl_ (by kernel_rfl)) (pl_cons (pv_ (by kernel_rfl)) (pl_cons (pd_int) (pl_nil) rfl) rfl) rfl rfl rfl) (pl_cons (pd_callU c h_l_known (Nat.le_refl _) (gl_ (by kernel_rfl)) (pl_cons (pv_ (by kernel_rfl)) (pl_nil) rfl) rfl rfl rfl) (pl_nil) rfl) rfl) rfl rfl) <|
  ds_cons (dp_if (pb_cmp (od_eq c.units) (pv_ (by kernel_rfl)) (pd_int) rfl) (ds_one (dp_ret (pd_tup (pl_cons (pd_callU c h_l_condition (Nat.le_refl _) (gl_ (by kernel_rfl)) (pl_cons (pv_ (by kernel_rfl)) (pl_nil) rfl) rfl rfl rfl) (pl_cons (pd_callU c h_l_condition (Nat.le_refl _) (gl_ (by kernel_rfl)) (pl_cons (pv_ (by kernel_rfl)) (pl_nil) rfl) rfl rfl rfl) (pl_nil) rfl) rfl)))) (ds_nil)) <|
  ds_cons (dp_if (pb_cmp (od_eq c.units) (pv_ (by kernel_rfl)) (pd_int) rfl) (ds_one (dp_ret (pd_tup (pl_cons (pd_ix (id_ix c.units1) (pv_ (by kernel_rfl)) (pd_int) (fun _ _ => rfl)) (pl_cons (pd_callU c h_l_condition (Nat.le_refl _) (gl_ (by kernel_rfl)) (pl_cons (pv_ (by kernel_rfl)) (pl_nil) rfl) rfl rfl rfl) (pl_nil) rfl) rfl)))) (ds_nil)) <|
  ds_one (dp_ret (pd_if (pb_cmp (od_eq c.units) (pv_ (by kernel_rfl)) (pd_int) rfl) (pd_tup (pl_cons (pd_callU c h_l_condition (Nat.le_refl _) (gl_ (by kernel_rfl)) (pl_cons (pv_ (by kernel_rfl)) (pl_nil) rfl) rfl rfl rfl) (pl_cons (pd_ix (id_ix c.units1) (pv_ (by kernel_rfl)) (pd_int) (fun _ _ => rfl)) (pl_nil) rfl) rfl)) (pv_ (by kernel_rfl))))
theorem c_l_rule (h_l_condition : Cal P w K mg base k "_law_condition" 1 l_condition) (h_l_known : Cal P w K mg base k "_law_known" 1 l_known) (h_l_draw : Cal P w K mg base k "_law_draw" 2 l_draw) (dn : Dn K mg "_law_rule" "_law_rule" (defArgs (top 51)) (defBody (top 51)) (defScope (top 51)) ["_law_source_here"]) : Cal P w K mg base (k + 1) "_law_rule" 1 (runDef 3 l_rule_b) :=
  dn.cal sc_l_rule rfl fun f cdv A outer s H E c => b_l_rule h_l_condition h_l_known h_l_draw c
abbrev N_l_drag : List Str := ["_law_source_here", "_law_most", "_law_some", "_law_heights", "_law_held", "_law_grab", "_law_turn"]
theorem nd_l_drag : N_l_drag.Nodup := by decide +kernel
theorem sc_l_drag : FnScope N_l_drag ["_law_source_here", "_law_most"] (defScope (top 52)) := ⟨rfl, rfl, rfl, nd_l_drag, rfl, by decide +kernel, by decide +kernel⟩
theorem b_l_drag {f : Addr} {cdv : Value} {A : Around} {outer : List PySem.Env} {s : Shared} {H : Hp} {E : XK} (hm_len : mg "len" = none) (hm_tuple : mg "tuple" = none) (hm_range : mg "range" = none) (h_l_of : Cal P w K mg base k "_law_of" 2 l_of) (h_l_draw : Cal P w K mg base k "_law_draw" 2 l_draw)
    (c : Cok (CF P w K mg base N_l_drag "_law_drag" (defScope (top 52)) f cdv A outer s H E) E k) : PDSs (CF P w K mg base N_l_drag "_law_drag" (defScope (top 52)) f cdv A outer s H E) E (defBody (top 52)) l_drag_b :=
  ds_cons (dp_set nd_l_drag (by kernel_rfl) (.inr (by kernel_rfl)) (pd_lst (pl_cons (pd_int) (pl_cons (pd_int) (pl_cons (pd_int) (pl_cons (pd_int) (pl_cons (pd_int) (pl_cons (pd_bin od_add (pd_int) (pd_callU c h_l_draw (Nat.le_refl _) (gl_ (by kernel_rfl)) (pl_cons (pv_ (by kernel_rfl)) (pl_cons (pd_int) (pl_nil) rfl) rfl) rfl rfl rfl)) (pl_nil) rfl) rfl) rfl) rfl) rfl) rfl)) rfl (.inl rfl)) <|
  ds_cons (dp_set nd_l_drag (by kernel_rfl) (.inl (by kernel_rfl)) (pd_callTy cd_tuple (gl_ (by kernel_rfl)) hm_tuple bb_tuple (pl_cons (pd_lc (own := [(("_law_turn" : Str), 6)]) (t := .nm 6) rfl nd_l_drag (di_range1 (gl_ (by kernel_rfl)) hm_range (pl_cons (pd_bin od_add (pd_int) (pd_callU c h_l_draw (Nat.le_refl _) (gl_ (by kernel_rfl)) (pl_cons (pv_ (by kernel_rfl)) (pl_cons (pd_bin od_sub (pv_ (by kernel_rfl)) (pd_int)) (pl_nil) rfl) rfl) rfl rfl rfl)) (pl_nil) rfl) rfl) (blkOk_by (by kernel_rfl)) (fun _ _ _ _ _ => tg_name nd_l_drag (by kernel_rfl) (.inl (by kernel_rfl)) (.inr (by kernel_rfl))) (fun _ _ _ _ _ => pts_nilD) (fun _ _ _ _ _ => pd_callU c.blk h_l_of (Nat.le_refl _) (gl_ (by kernel_rfl)) (pl_cons (pv_ (by kernel_rfl)) (pl_cons (pv_ (by kernel_rfl)) (pl_nil) rfl) rfl) rfl rfl rfl) (fun _ => rfl) (by decide)) (pl_nil) rfl) (by decide) rfl rfl rfl) rfl (.inl rfl)) <|
  ds_cons (dp_set nd_l_drag (by kernel_rfl) (.inl (by kernel_rfl)) (pd_callU c h_l_draw (Nat.le_refl _) (gl_ (by kernel_rfl)) (pl_cons (pv_ (by kernel_rfl)) (pl_cons (pd_callB cd_len (gl_ (by kernel_rfl)) hm_len bb_len (pl_cons (pv_ (by kernel_rfl)) (pl_nil) rfl) (by decide) rfl rfl rfl) (pl_nil) rfl) rfl) rfl rfl rfl) rfl (.inl rfl)) <|
  ds_cons (dp_set nd_l_drag (by kernel_rfl) (.inl (by kernel_rfl)) (pd_callU c h_l_of (Nat.le_refl _) (gl_ (by kernel_rfl)) (pl_cons (pv_ (by kernel_rfl)) (pl_cons (pd_lst (pl_cons (pd_int) (pl_cons (pd_ix (id_ix c.units1) (pv_ (by kernel_rfl)) (pv_ (by kernel_rfl)) (fun _ _ => rfl)) (pl_cons (pd_callU c h_l_draw (Nat.le_refl _) (gl_ (by kernel_rfl)) (pl_cons (pv_ (by kernel_rfl)) (pl_cons (pd_bin od_add (pd_ix (id_ix c.units1) (pv_ (by kernel_rfl)) (pv_ (by kernel_rfl)) (fun _ _ => rfl)) (pd_int)) (pl_nil) rfl) rfl) rfl rfl rfl) (pl_nil) rfl) rfl) rfl)) (pl_nil) rfl) rfl) rfl rfl rfl) rfl (.inl rfl)) <|
  ds_one (dp_ret (pd_tup (pl_cons (pv_ (by kernel_rfl)) (pl_cons (pv_ (by kernel_rfl)) (pl_cons (pv_ (by kernel_rfl)) (pl_nil) rfl) rfl) rfl)))
theorem c_l_drag (hm_len : mg "len" = none) (hm_tuple : mg "tuple" = none) (hm_range : mg "range" = none) (h_l_of : Cal P w K mg base k "_law_of" 2 l_of) (h_l_draw : Cal P w K mg base k "_law_draw" 2 l_draw) (dn : Dn K mg "_law_drag" "_law_drag" (defArgs (top 52)) (defBody (top 52)) (defScope (top 52)) ["_law_source_here", "_law_most"]) : Cal P w K mg base (k + 1) "_law_drag" 2 (runDef 7 l_drag_b) :=
  dn.cal sc_l_drag rfl fun f cdv A outer s H E c => b_l_drag hm_len hm_tuple hm_range h_l_of h_l_draw c
abbrev N_l_pointer : List Str := ["_law_source_here", "_law_drag_here", "_law_high", "_law_some"]
theorem nd_l_pointer : N_l_pointer.Nodup := by decide +kernel
theorem sc_l_pointer : FnScope N_l_pointer ["_law_source_here", "_law_drag_here"] (defScope (top 53)) := ⟨rfl, rfl, rfl, nd_l_pointer, rfl, by decide +kernel, by decide +kernel⟩
theorem b_l_pointer {f : Addr} {cdv : Value} {A : Around} {outer : List PySem.Env} {s : Shared} {H : Hp} {E : XK} (hm_sum : mg "sum" = none) (h_l_of : Cal P w K mg base k "_law_of" 2 l_of) (h_l_draw : Cal P w K mg base k "_law_draw" 2 l_draw)
    (c : Cok (CF P w K mg base N_l_pointer "_law_pointer" (defScope (top 53)) f cdv A outer s H E) E k) : PDSs (CF P w K mg base N_l_pointer "_law_pointer" (defScope (top 53)) f cdv A outer s H E) E (defBody (top 53)) l_pointer_b :=
  ds_cons (dp_set nd_l_pointer (by kernel_rfl) (.inl (by kernel_rfl)) (pd_callB (cd_sum rfl) (gl_ (by kernel_rfl)) hm_sum bb_sum (pl_cons (pd_ix (id_ix c.units1) (pv_ (by kernel_rfl)) (pd_int) (fun _ _ => rfl)) (pl_nil) rfl) (by decide) rfl rfl rfl) rfl (.inl rfl)) <|
  ds_cons (dp_set nd_l_pointer (by kernel_rfl) (.inl (by kernel_rfl)) (pd_lst (pl_cons (pd_callU c h_l_draw (Nat.le_refl _) (gl_ (by kernel_rfl)) (pl_cons (pv_ (by kernel_rfl)) (pl_cons (pd_bin od_add (pv_ (by kernel_rfl)) (pd_int)) (pl_nil) rfl) rfl) rfl rfl rfl) (pl_cons (pd_bin od_sub (pd_callU c h_l_draw (Nat.le_refl _) (gl_ (by kernel_rfl)) (pl_cons (pv_ (by kernel_rfl)) (pl_cons (pd_bin od_add (pv_ (by kernel_rfl)) (pd_int)) (pl_nil) rfl) rfl) rfl rfl rfl) (pd_int)) (pl_nil) rfl) rfl)) rfl (.inl rfl)) <|
  ds_one (dp_ret (pd_callU c h_l_of (Nat.le_refl _) (gl_ (by kernel_rfl)) (pl_cons (pv_ (by kernel_rfl)) (pl_cons (pd_bin od_add (pv_ (by kernel_rfl)) (pd_lst (pl_cons (pd_bin od_sub (pd_callU c h_l_draw (Nat.le_refl _) (gl_ (by kernel_rfl)) (pl_cons (pv_ (by kernel_rfl)) (pl_cons (pd_bin od_mul (pd_int) (pv_ (by kernel_rfl))) (pl_nil) rfl) rfl) rfl rfl rfl) (pv_ (by kernel_rfl))) (pl_nil) rfl))) (pl_nil) rfl) rfl) rfl rfl rfl))
theorem c_l_pointer (hm_sum : mg "sum" = none) (h_l_of : Cal P w K mg base k "_law_of" 2 l_of) (h_l_draw : Cal P w K mg base k "_law_draw" 2 l_draw) (dn : Dn K mg "_law_pointer" "_law_pointer" (defArgs (top 53)) (defBody (top 53)) (defScope (top 53)) ["_law_source_here", "_law_drag_here"]) : Cal P w K mg base (k + 1) "_law_pointer" 2 (runDef 4 l_pointer_b) :=
  dn.cal sc_l_pointer rfl fun f cdv A outer s H E c => b_l_pointer hm_sum h_l_of h_l_draw c
abbrev N_p_places_of : List Str := ["rule", "drag", "pointers", "place", "found", "pointer", "rest"]
theorem nd_p_places_of : N_p_places_of.Nodup := by decide +kernel
theorem sc_p_places_of : FnScope N_p_places_of ["rule", "drag", "pointers"] (defScope (top 34)) := ⟨rfl, rfl, rfl, nd_p_places_of, rfl, by decide +kernel, by decide +kernel⟩
theorem b_p_places_of {f : Addr} {cdv : Value} {A : Around} {outer : List PySem.Env} {s : Shared} {H : Hp} {E : XK} (h_p_rest_of : Cal P w K mg base k "rest_of" 4 p_rest_of)
    (c : Cok (CF P w K mg base N_p_places_of "places_of" (defScope (top 34)) f cdv A outer s H E) E k) : PDSs (CF P w K mg base N_p_places_of "places_of" (defScope (top 34)) f cdv A outer s H E) E (defBody (top 34)) p_places_of_b :=
  ds_cons (dp_par2 rfl nd_p_places_of (by kernel_rfl) (by kernel_rfl) (by decide) (by kernel_rfl) (by kernel_rfl) (pl_cons (pd_ix (id_ix c.units1) (pv_ (by kernel_rfl)) (pd_int) (fun _ _ => rfl)) (pl_cons (pd_lst (pl_nil)) (pl_nil) rfl) rfl) rfl rfl) <|
  ds_cons (dp_for own_cf rfl (di_val (pv_ (by kernel_rfl))) (dg_of (tg_name nd_p_places_of (by kernel_rfl) (.inl (by kernel_rfl)) (.inr (by kernel_rfl)))) (ds_cons (dp_set nd_p_places_of (by kernel_rfl) (.inl (by kernel_rfl)) (pd_callU c h_p_rest_of (Nat.le_refl _) (gl_ (by kernel_rfl)) (pl_cons (pv_ (by kernel_rfl)) (pl_cons (pv_ (by kernel_rfl)) (pl_cons (pv_ (by kernel_rfl)) (pl_cons (pv_ (by kernel_rfl)) (pl_nil) rfl) rfl) rfl) rfl) rfl rfl rfl) rfl (.inl rfl)) <|
  ds_cons (dp_set nd_p_places_of (by kernel_rfl) (.inl (by kernel_rfl)) (pd_if (pb_cmp od_isN (pv_ (by kernel_rfl)) (pd_non) rfl) (pv_ (by kernel_rfl)) (pv_ (by kernel_rfl))) rfl (.inl rfl)) <|
  ds_one (dp_set nd_p_places_of (by kernel_rfl) (.inl (by kernel_rfl)) (pd_bin od_add (pv_ (by kernel_rfl)) (pd_lst (pl_cons (pv_ (by kernel_rfl)) (pl_nil) rfl))) rfl (.inl rfl))) (fun _ => rfl)) <|
  ds_one (dp_ret (pv_ (by kernel_rfl)))
theorem c_p_places_of (h_p_rest_of : Cal P w K mg base k "rest_of" 4 p_rest_of) (dn : Dn K mg "places_of" "places_of" (defArgs (top 34)) (defBody (top 34)) (defScope (top 34)) ["rule", "drag", "pointers"]) : Cal P w K mg base (k + 1) "places_of" 3 (runDef 7 p_places_of_b) :=
  dn.cal sc_p_places_of rfl fun f cdv A outer s H E c => b_p_places_of h_p_rest_of c
abbrev N_p_way : List Str := ["rule", "drag", "pointers"]
theorem nd_p_way : N_p_way.Nodup := by decide +kernel
theorem sc_p_way : FnScope N_p_way ["rule", "drag", "pointers"] (defScope (top 40)) := ⟨rfl, rfl, rfl, nd_p_way, rfl, by decide +kernel, by decide +kernel⟩
theorem b_p_way {f : Addr} {cdv : Value} {A : Around} {outer : List PySem.Env} {s : Shared} {H : Hp} {E : XK} (h_p_places_of : Cal P w K mg base k "places_of" 3 p_places_of) (h_p_need_pointers : Cal P w K mg base k "need_pointers" 1 p_need_pointers) (h_p_need_drag : Cal P w K mg base k "need_drag" 1 p_need_drag) (h_p_need_rule : Cal P w K mg base k "need_rule" 1 p_need_rule)
    (c : Cok (CF P w K mg base N_p_way "way" (defScope (top 40)) f cdv A outer s H E) E k) : PDSs (CF P w K mg base N_p_way "way" (defScope (top 40)) f cdv A outer s H E) E (defBody (top 40)) p_way_b :=
  ds_cons (dp_expr (pd_callU c h_p_need_rule (Nat.le_refl _) (gl_ (by kernel_rfl)) (pl_cons (pv_ (by kernel_rfl)) (pl_nil) rfl) rfl rfl rfl) rfl) <|
  ds_cons (dp_expr (pd_callU c h_p_need_drag (Nat.le_refl _) (gl_ (by kernel_rfl)) (pl_cons (pv_ (by kernel_rfl)) (pl_nil) rfl) rfl rfl rfl) rfl) <|
  ds_cons (dp_expr (pd_callU c h_p_need_pointers (Nat.le_refl _) (gl_ (by kernel_rfl)) (pl_cons (pv_ (by kernel_rfl)) (pl_nil) rfl) rfl rfl rfl) rfl) <|
  ds_one (dp_ret (pd_callU c h_p_places_of (Nat.le_refl _) (gl_ (by kernel_rfl)) (pl_cons (pv_ (by kernel_rfl)) (pl_cons (pv_ (by kernel_rfl)) (pl_cons (pv_ (by kernel_rfl)) (pl_nil) rfl) rfl) rfl) rfl rfl rfl))
theorem c_p_way (h_p_places_of : Cal P w K mg base k "places_of" 3 p_places_of) (h_p_need_pointers : Cal P w K mg base k "need_pointers" 1 p_need_pointers) (h_p_need_drag : Cal P w K mg base k "need_drag" 1 p_need_drag) (h_p_need_rule : Cal P w K mg base k "need_rule" 1 p_need_rule) (dn : Dn K mg "way" "way" (defArgs (top 40)) (defBody (top 40)) (defScope (top 40)) ["rule", "drag", "pointers"]) : Cal P w K mg base (k + 1) "way" 3 (runDef 3 p_way_b) :=
  dn.cal sc_p_way rfl fun f cdv A outer s H E c => b_p_way h_p_places_of h_p_need_pointers h_p_need_drag h_p_need_rule c
abbrev N_l_moved : List Str := ["_law_pull", "_law_pointer_here"]
theorem nd_l_moved : N_l_moved.Nodup := by decide +kernel
theorem sc_l_moved : FnScope N_l_moved ["_law_pull", "_law_pointer_here"] (defScope (top 54)) := ⟨rfl, rfl, rfl, nd_l_moved, rfl, by decide +kernel, by decide +kernel⟩
theorem b_l_moved {j : Nat} {f : Addr} {cdv : Value} {A : Around} {outer : List PySem.Env} {s : Shared} {H : Hp} {E : XK} (hj : j + 3 ≤ k) (hF_Pull : ClsF K "Pull") (hX_Flickers : ExF K mg "Flickers") (hE_Flickers_Flickers : PySem.W.exmOne K (.ref (He.ga K "Flickers")) (.ref (He.ga K "Flickers")) = some true) (hM_Pull_to : CalM P w K mg base j "Pull" "to" 2 p_Pull_to)
    (c : Cok (CF P w K mg base N_l_moved "_law_moved" (defScope (top 54)) f cdv A outer s H E) E k) : PDSs (CF P w K mg base N_l_moved "_law_moved" (defScope (top 54)) f cdv A outer s H E) E (defBody (top 54)) l_moved_b :=
  ds_one (pds_try c rfl rfl (fun pn xe E1 c1 => ds_one (dp_ret (pd_meth1 c1 hF_Pull hM_Pull_to (by omega) (pv_ (by kernel_rfl)) (pl_cons (pv_ (by kernel_rfl)) (pl_nil) rfl) rfl rfl rfl))) (hd_cons hX_Flickers (gl_ (by kernel_rfl)) (by decide) (fun _ _ => ds_one (dp_ret (pd_non))) (HdsOk.nil)) (fun c hc h hh => by simp only [List.mem_cons, List.not_mem_nil, or_false] at hc hh; rcases hc with rfl <;> rcases hh with rfl <;> first | exact exm_of hE_Flickers_Flickers (by decide +kernel)))
theorem c_l_moved {j : Nat} (hj : j + 3 ≤ k) (hF_Pull : ClsF K "Pull") (hX_Flickers : ExF K mg "Flickers") (hE_Flickers_Flickers : PySem.W.exmOne K (.ref (He.ga K "Flickers")) (.ref (He.ga K "Flickers")) = some true) (hM_Pull_to : CalM P w K mg base j "Pull" "to" 2 p_Pull_to) (dn : Dn K mg "_law_moved" "_law_moved" (defArgs (top 54)) (defBody (top 54)) (defScope (top 54)) ["_law_pull", "_law_pointer_here"]) : Cal P w K mg base (k + 1) "_law_moved" 2 (runDef 2 l_moved_b) :=
  dn.cal sc_l_moved rfl fun f cdv A outer s H E c => b_l_moved hj hF_Pull hX_Flickers hE_Flickers_Flickers hM_Pull_to c
abbrev N_p_need_place : List Str := ["drag", "value"]
theorem nd_p_need_place : N_p_need_place.Nodup := by decide +kernel
theorem sc_p_need_place : FnScope N_p_need_place ["drag", "value"] (defScope (top 23)) := ⟨rfl, rfl, rfl, nd_p_need_place, rfl, by decide +kernel, by decide +kernel⟩
theorem b_p_need_place {j : Nat} {f : Addr} {cdv : Value} {A : Around} {outer : List PySem.Env} {s : Shared} {H : Hp} {E : XK} (hj : j + 3 ≤ k) (hX_InvalidPlace : ExF K mg "InvalidPlace") (hm_len : mg "len" = none) (h_p_is_number : Cal P w K mg base k "is_number" 1 p_is_number)
    (c : Cok (CF P w K mg base N_p_need_place "need_place" (defScope (top 23)) f cdv A outer s H E) E k) : PDSs (CF P w K mg base N_p_need_place "need_place" (defScope (top 23)) f cdv A outer s H E) E (defBody (top 23)) p_need_place_b :=
  ds_one (dp_if (PW.pt (pwb_or (pb_not (pb_val (pd_callU c h_p_is_number (Nat.le_refl _) (gl_ (by kernel_rfl)) (pl_cons (pv_ (by kernel_rfl)) (pl_nil) rfl) rfl rfl rfl) (fun _ => rfl))) (pw_or1 (pb_not (pb_chain od_le od_lt (pd_int) (pv_ (by kernel_rfl)) (pd_callB cd_len (gl_ (by kernel_rfl)) hm_len bb_len (pl_cons (pd_ix (id_ix c.units1) (pv_ (by kernel_rfl)) (pd_int) (fun _ _ => rfl)) (pl_nil) rfl) (by decide) rfl rfl rfl) rfl))))) (ds_one (pds_raise rfl c hX_InvalidPlace (gl_ (by kernel_rfl)))) (ds_nil))
theorem c_p_need_place {j : Nat} (hj : j + 3 ≤ k) (hX_InvalidPlace : ExF K mg "InvalidPlace") (hm_len : mg "len" = none) (h_p_is_number : Cal P w K mg base k "is_number" 1 p_is_number) (dn : Dn K mg "need_place" "need_place" (defArgs (top 23)) (defBody (top 23)) (defScope (top 23)) ["drag", "value"]) : Cal P w K mg base (k + 1) "need_place" 2 (runDef 2 p_need_place_b) :=
  dn.cal sc_p_need_place rfl fun f cdv A outer s H E c => b_p_need_place hj hX_InvalidPlace hm_len h_p_is_number c
abbrev N_p_need_all : List Str := ["rule", "drag", "pointer", "place"]
theorem nd_p_need_all : N_p_need_all.Nodup := by decide +kernel
theorem sc_p_need_all : FnScope N_p_need_all ["rule", "drag", "pointer", "place"] (defScope (top 37)) := ⟨rfl, rfl, rfl, nd_p_need_all, rfl, by decide +kernel, by decide +kernel⟩
theorem b_p_need_all {f : Addr} {cdv : Value} {A : Around} {outer : List PySem.Env} {s : Shared} {H : Hp} {E : XK} (h_p_need_place : Cal P w K mg base k "need_place" 2 p_need_place) (h_p_need_pointer : Cal P w K mg base k "need_pointer" 1 p_need_pointer) (h_p_need_drag : Cal P w K mg base k "need_drag" 1 p_need_drag) (h_p_need_rule : Cal P w K mg base k "need_rule" 1 p_need_rule)
    (c : Cok (CF P w K mg base N_p_need_all "need_all" (defScope (top 37)) f cdv A outer s H E) E k) : PDSs (CF P w K mg base N_p_need_all "need_all" (defScope (top 37)) f cdv A outer s H E) E (defBody (top 37)) p_need_all_b :=
  ds_cons (dp_expr (pd_callU c h_p_need_rule (Nat.le_refl _) (gl_ (by kernel_rfl)) (pl_cons (pv_ (by kernel_rfl)) (pl_nil) rfl) rfl rfl rfl) rfl) <|
  ds_cons (dp_expr (pd_callU c h_p_need_drag (Nat.le_refl _) (gl_ (by kernel_rfl)) (pl_cons (pv_ (by kernel_rfl)) (pl_nil) rfl) rfl rfl rfl) rfl) <|
  ds_cons (dp_expr (pd_callU c h_p_need_pointer (Nat.le_refl _) (gl_ (by kernel_rfl)) (pl_cons (pv_ (by kernel_rfl)) (pl_nil) rfl) rfl rfl rfl) rfl) <|
  ds_one (dp_expr (pd_callU c h_p_need_place (Nat.le_refl _) (gl_ (by kernel_rfl)) (pl_cons (pv_ (by kernel_rfl)) (pl_cons (pv_ (by kernel_rfl)) (pl_nil) rfl) rfl) rfl rfl rfl) rfl)
theorem c_p_need_all (h_p_need_place : Cal P w K mg base k "need_place" 2 p_need_place) (h_p_need_pointer : Cal P w K mg base k "need_pointer" 1 p_need_pointer) (h_p_need_drag : Cal P w K mg base k "need_drag" 1 p_need_drag) (h_p_need_rule : Cal P w K mg base k "need_rule" 1 p_need_rule) (dn : Dn K mg "need_all" "need_all" (defArgs (top 37)) (defBody (top 37)) (defScope (top 37)) ["rule", "drag", "pointer", "place"]) : Cal P w K mg base (k + 1) "need_all" 4 (runDef 4 p_need_all_b) :=
  dn.cal sc_p_need_all rfl fun f cdv A outer s H E c => b_p_need_all h_p_need_place h_p_need_pointer h_p_need_drag h_p_need_rule c
abbrev N_p_settle : List Str := ["rule", "drag", "pointer", "place"]
theorem nd_p_settle : N_p_settle.Nodup := by decide +kernel
theorem sc_p_settle : FnScope N_p_settle ["rule", "drag", "pointer", "place"] (defScope (top 39)) := ⟨rfl, rfl, rfl, nd_p_settle, rfl, by decide +kernel, by decide +kernel⟩
theorem b_p_settle {f : Addr} {cdv : Value} {A : Around} {outer : List PySem.Env} {s : Shared} {H : Hp} {E : XK} (h_p_rest_of : Cal P w K mg base k "rest_of" 4 p_rest_of) (h_p_need_all : Cal P w K mg base k "need_all" 4 p_need_all)
    (c : Cok (CF P w K mg base N_p_settle "settle" (defScope (top 39)) f cdv A outer s H E) E k) : PDSs (CF P w K mg base N_p_settle "settle" (defScope (top 39)) f cdv A outer s H E) E (defBody (top 39)) p_settle_b :=
  ds_cons (dp_expr (pd_callU c h_p_need_all (Nat.le_refl _) (gl_ (by kernel_rfl)) (pl_cons (pv_ (by kernel_rfl)) (pl_cons (pv_ (by kernel_rfl)) (pl_cons (pv_ (by kernel_rfl)) (pl_cons (pv_ (by kernel_rfl)) (pl_nil) rfl) rfl) rfl) rfl) rfl rfl rfl) rfl) <|
  ds_one (dp_ret (pd_callU c h_p_rest_of (Nat.le_refl _) (gl_ (by kernel_rfl)) (pl_cons (pv_ (by kernel_rfl)) (pl_cons (pv_ (by kernel_rfl)) (pl_cons (pv_ (by kernel_rfl)) (pl_cons (pv_ (by kernel_rfl)) (pl_nil) rfl) rfl) rfl) rfl) rfl rfl rfl))
theorem c_p_settle (h_p_rest_of : Cal P w K mg base k "rest_of" 4 p_rest_of) (h_p_need_all : Cal P w K mg base k "need_all" 4 p_need_all) (dn : Dn K mg "settle" "settle" (defArgs (top 39)) (defBody (top 39)) (defScope (top 39)) ["rule", "drag", "pointer", "place"]) : Cal P w K mg base (k + 1) "settle" 4 (runDef 4 p_settle_b) :=
  dn.cal sc_p_settle rfl fun f cdv A outer s H E c => b_p_settle h_p_rest_of h_p_need_all c
abbrev N_p_goes : List Str := ["rule", "drag", "pointer", "place"]
theorem nd_p_goes : N_p_goes.Nodup := by decide +kernel
theorem sc_p_goes : FnScope N_p_goes ["rule", "drag", "pointer", "place"] (defScope (top 38)) := ⟨rfl, rfl, rfl, nd_p_goes, rfl, by decide +kernel, by decide +kernel⟩
theorem b_p_goes {f : Addr} {cdv : Value} {A : Around} {outer : List PySem.Env} {s : Shared} {H : Hp} {E : XK} (h_p_turn_of : Cal P w K mg base k "turn_of" 4 p_turn_of) (h_p_need_all : Cal P w K mg base k "need_all" 4 p_need_all)
    (c : Cok (CF P w K mg base N_p_goes "goes" (defScope (top 38)) f cdv A outer s H E) E k) : PDSs (CF P w K mg base N_p_goes "goes" (defScope (top 38)) f cdv A outer s H E) E (defBody (top 38)) p_goes_b :=
  ds_cons (dp_expr (pd_callU c h_p_need_all (Nat.le_refl _) (gl_ (by kernel_rfl)) (pl_cons (pv_ (by kernel_rfl)) (pl_cons (pv_ (by kernel_rfl)) (pl_cons (pv_ (by kernel_rfl)) (pl_cons (pv_ (by kernel_rfl)) (pl_nil) rfl) rfl) rfl) rfl) rfl rfl rfl) rfl) <|
  ds_one (dp_ret (pd_ix (id_ix c.units1) (pd_tup (pl_cons (pd_str) (pl_cons (pd_str) (pl_cons (pd_str) (pl_nil) rfl) rfl) rfl)) (pd_callU c h_p_turn_of (Nat.le_refl _) (gl_ (by kernel_rfl)) (pl_cons (pv_ (by kernel_rfl)) (pl_cons (pv_ (by kernel_rfl)) (pl_cons (pv_ (by kernel_rfl)) (pl_cons (pv_ (by kernel_rfl)) (pl_nil) rfl) rfl) rfl) rfl) rfl rfl rfl) (fun _ _ => rfl)))
theorem c_p_goes (h_p_turn_of : Cal P w K mg base k "turn_of" 4 p_turn_of) (h_p_need_all : Cal P w K mg base k "need_all" 4 p_need_all) (dn : Dn K mg "goes" "goes" (defArgs (top 38)) (defBody (top 38)) (defScope (top 38)) ["rule", "drag", "pointer", "place"]) : Cal P w K mg base (k + 1) "goes" 4 (runDef 4 p_goes_b) :=
  dn.cal sc_p_goes rfl fun f cdv A outer s H E c => b_p_goes h_p_turn_of h_p_need_all c
abbrev N_p_law : List Str := ["_law_script", "_law_k", "_law_source_here", "_law_some", "_law_drag_here", "_law_pointers", "_law_one", "_law_told", "_law_pointer_here", "_law_place", "_law_good", "_law_two", "_law_tops", "_law_other", "_law_step", "_law_index", "_law_height"]
theorem nd_p_law : N_p_law.Nodup := by decide +kernel
theorem sc_p_law : FnScope N_p_law ["_law_script"] (defScope (top 55)) := ⟨rfl, rfl, rfl, nd_p_law, rfl, by decide +kernel, by decide +kernel⟩
theorem b_p_law {j : Nat} {f : Addr} {cdv : Value} {A : Around} {outer : List PySem.Env} {s : Shared} {H : Hp} {E : XK} (hj : j + 3 ≤ k) (hF_Pull : ClsF K "Pull") (hM_Pull_eq : CalM P w K mg base j "Pull" "__eq__" 2 p_Pull_eq) (hK_Pull_init : MkC P w K mg base j "Pull" 3 p_Pull_init) (hM_Pull_bool : CalM P w K mg base j "Pull" "__bool__" 1 p_Pull_bool) (hP_Pull_place : CalP P w K mg base j "Pull" "place" p_Pull_place) (hM_Pull_undo : CalM P w K mg base j "Pull" "undo" 1 p_Pull_undo) (hP_Pull_drawn : CalP P w K mg base j "Pull" "drawn" p_Pull_drawn) (hP_Pull_pointer : CalP P w K mg base j "Pull" "pointer" p_Pull_pointer) (hP_Pull_order : CalP P w K mg base j "Pull" "order" p_Pull_order) (hM_Pull_getitem : CalM P w K mg base j "Pull" "__getitem__" 2 p_Pull_getitem) (hM_Pull_contains : CalM P w K mg base j "Pull" "__contains__" 2 p_Pull_contains) (hG_Pull_log : CalG P w K mg base j "Pull" "log" p_Pull_log) (hM_Pull_iadd : CalM P w K mg base j "Pull" "__iadd__" 2 p_Pull_iadd) (hm_range : mg "range" = none) (hm_min : mg "min" = none) (hm_len : mg "len" = none) (hm_tuple : mg "tuple" = none) (hm_bool : mg "bool" = none) (hm_sorted : mg "sorted" = none) (hm_int : mg "int" = none) (hm_list : mg "list" = none) (hm_zip : mg "zip" = none) (h_p_goes : Cal P w K mg base k "goes" 4 p_goes) (h_p_settle : Cal P w K mg base k "settle" 4 p_settle) (h_l_moved : Cal P w K mg base k "_law_moved" 2 l_moved) (h_p_way : Cal P w K mg base k "way" 3 p_way) (h_l_pointer : Cal P w K mg base k "_law_pointer" 2 l_pointer) (h_l_drag : Cal P w K mg base k "_law_drag" 2 l_drag) (h_l_rule : Cal P w K mg base k "_law_rule" 1 l_rule) (h_l_source : Cal P w K mg base k "_law_source" 2 l_source)
    (c : Cok (CF P w K mg base N_p_law "law" (defScope (top 55)) f cdv A outer s H E) E k) : PDSs (CF P w K mg base N_p_law "law" (defScope (top 55)) f cdv A outer s H E) E (defBody (top 55)) p_law_b :=
  ds_cons (dp_for own_cf rfl (di_range1 (gl_ (by kernel_rfl)) hm_range (pl_cons (pd_bin od_add (pd_int) (pd_callB (cd_min rfl) (gl_ (by kernel_rfl)) hm_min bb_min (pl_cons (pd_callB cd_len (gl_ (by kernel_rfl)) hm_len bb_len (pl_cons (pv_ (by kernel_rfl)) (pl_nil) rfl) (by decide) rfl rfl rfl) (pl_cons (pd_int) (pl_nil) rfl) rfl) (by decide) rfl rfl rfl)) (pl_nil) rfl) rfl) (dg_of (tg_name nd_p_law (by kernel_rfl) (.inl (by kernel_rfl)) (.inr (by kernel_rfl)))) (ds_cons (dp_set nd_p_law (by kernel_rfl) (.inr (by kernel_rfl)) (pd_callU c h_l_source (Nat.le_refl _) (gl_ (by kernel_rfl)) (pl_cons (pv_ (by kernel_rfl)) (pl_cons (pv_ (by kernel_rfl)) (pl_nil) rfl) rfl) rfl rfl rfl) rfl (.inl rfl)) <|
  ds_cons (dp_asg (pd_tup (pl_cons (pd_callU c h_l_rule (Nat.le_refl _) (gl_ (by kernel_rfl)) (pl_cons (pv_ (by kernel_rfl)) (pl_nil) rfl) rfl rfl rfl) (pl_cons (pd_callU c h_l_drag (Nat.le_refl _) (gl_ (by kernel_rfl)) (pl_cons (pv_ (by kernel_rfl)) (pl_cons (pd_int) (pl_nil) rfl) rfl) rfl rfl rfl) (pl_nil) rfl) rfl)) (dg_of (tg_tup rfl (tgs_cons (tg_name nd_p_law (by kernel_rfl) (.inl (by kernel_rfl)) (.inr (by kernel_rfl))) (tgs_cons (tg_name nd_p_law (by kernel_rfl) (.inr (by kernel_rfl)) (.inl (by kernel_rfl))) (tgs_nil) (by kernel_rfl)) (by kernel_rfl)) (by kernel_rfl) (by kernel_rfl))) rfl rfl rfl) <|
  ds_cons (dp_set nd_p_law (by kernel_rfl) (.inl (by kernel_rfl)) (pd_callTy cd_tuple (gl_ (by kernel_rfl)) hm_tuple bb_tuple (pl_cons (pd_lc (own := [(("_law_step" : Str), 14)]) (t := .nm 14) rfl nd_p_law (di_range1 (gl_ (by kernel_rfl)) hm_range (pl_cons (pd_int) (pl_nil) rfl) rfl) (blkOk_by (by kernel_rfl)) (fun _ _ _ _ _ => tg_name nd_p_law (by kernel_rfl) (.inl (by kernel_rfl)) (.inr (by kernel_rfl))) (fun _ _ _ _ _ => pts_nilD) (fun _ _ _ _ _ => pd_callU c.blk h_l_pointer (Nat.le_refl _) (gl_ (by kernel_rfl)) (pl_cons (pv_ (by kernel_rfl)) (pl_cons (pv_ (by kernel_rfl)) (pl_nil) rfl) rfl) rfl rfl rfl) (fun _ => rfl) (by decide)) (pl_nil) rfl) (by decide) rfl rfl rfl) rfl (.inl rfl)) <|
  ds_cons (dp_asg (pd_tup (pl_cons (pd_make c hK_Pull_init (by omega) (gl_ (by kernel_rfl)) (pl_cons (pv_ (by kernel_rfl)) (pl_cons (pv_ (by kernel_rfl)) (pl_nil) rfl) rfl) rfl rfl rfl) (pl_cons (pd_callU c h_p_way (Nat.le_refl _) (gl_ (by kernel_rfl)) (pl_cons (pv_ (by kernel_rfl)) (pl_cons (pv_ (by kernel_rfl)) (pl_cons (pv_ (by kernel_rfl)) (pl_nil) rfl) rfl) rfl) rfl rfl rfl) (pl_nil) rfl) rfl)) (dg_of (tg_tup rfl (tgs_cons (tg_name nd_p_law (by kernel_rfl) (.inr (by kernel_rfl)) (.inl (by kernel_rfl))) (tgs_cons (tg_name nd_p_law (by kernel_rfl) (.inl (by kernel_rfl)) (.inr (by kernel_rfl))) (tgs_nil) (by kernel_rfl)) (by kernel_rfl)) (by kernel_rfl) (by kernel_rfl))) rfl rfl rfl) <|
  ds_cons (dp_if (pb_cmp (od_ne c.units) (pd_lc (own := [(("_law_pointer_here" : Str), 8)]) (t := .nm 8) rfl nd_p_law (di_val (pv_ (by kernel_rfl))) (blkOk_by (by kernel_rfl)) (fun _ _ _ _ _ => tg_name nd_p_law (by kernel_rfl) (.inl (by kernel_rfl)) (.inr (by kernel_rfl))) (fun _ _ _ _ _ => pts_nilD) (fun _ _ _ _ _ => pd_callU c.blk h_l_moved (Nat.le_refl _) (gl_ (by kernel_rfl)) (pl_cons (pv_ (by kernel_rfl)) (pl_cons (pv_ (by kernel_rfl)) (pl_nil) rfl) rfl) rfl rfl rfl) (fun _ => rfl) (by decide)) (pv_ (by kernel_rfl)) rfl) (ds_one (dp_ret (pd_bl))) (ds_nil)) <|
  ds_cons (dp_set nd_p_law (by kernel_rfl) (.inl (by kernel_rfl)) (pd_callTy cd_tuple (gl_ (by kernel_rfl)) hm_tuple bb_tuple (pl_cons (pd_lc (own := [(("_law_pointer_here" : Str), 8), (("_law_place" : Str), 9)]) (t := .tup [.nm 8, .nm 9]) rfl nd_p_law (di_zip (gl_ (by kernel_rfl)) hm_zip (pl_cons (pv_ (by kernel_rfl)) (pl_cons (pv_ (by kernel_rfl)) (pl_nil) rfl) rfl)) (blkOk_by (by kernel_rfl)) (fun _ _ _ _ _ => tg_tup rfl (tgs_cons (tg_name nd_p_law (by kernel_rfl) (.inl (by kernel_rfl)) (.inr (by kernel_rfl))) (tgs_cons (tg_name nd_p_law (by kernel_rfl) (.inl (by kernel_rfl)) (.inr (by kernel_rfl))) (tgs_nil) (by kernel_rfl)) (by kernel_rfl)) (by kernel_rfl) (by kernel_rfl)) (fun _ _ _ _ _ => pts_one (pb_cmp od_notN (pv_ (by kernel_rfl)) (pd_non) rfl)) (fun _ _ _ _ _ => pv_ (by kernel_rfl)) (fun _ => rfl) (by decide)) (pl_nil) rfl) (by decide) rfl rfl rfl) rfl (.inl rfl)) <|
  ds_cons (dp_set nd_p_law (by kernel_rfl) (.inl (by kernel_rfl)) (pd_make c hK_Pull_init (by omega) (gl_ (by kernel_rfl)) (pl_cons (pv_ (by kernel_rfl)) (pl_cons (pv_ (by kernel_rfl)) (pl_nil) rfl) rfl) rfl rfl rfl) rfl (.inl rfl)) <|
  ds_cons (dp_aug nd_p_law (by kernel_rfl) (.inl (by kernel_rfl)) (pv_ (by kernel_rfl)) (ip_addC c hF_Pull hM_Pull_iadd (by omega)) (.inr (by kernel_rfl))) <|
  ds_cons (dp_if (PW.pt (pwb_or (pb_not (pb_cmp (od_cmpC (fun _ _ => rfl) rfl c hF_Pull hM_Pull_eq (by omega)) (pv_ (by kernel_rfl)) (pv_ (by kernel_rfl)) rfl)) (pwb_or (pb_cmp (od_ne c.units) (pd_listG (pl := _) c hF_Pull hG_Pull_log (by omega) (gl_ (by kernel_rfl)) hm_list (pv_ (by kernel_rfl)) rfl rfl) (pd_listG (pl := _) c hF_Pull hG_Pull_log (by omega) (gl_ (by kernel_rfl)) hm_list (pv_ (by kernel_rfl)) rfl rfl) rfl) (pwb_or (pb_cmp (od_cmpCT (fun _ _ => rfl) rfl c hF_Pull hM_Pull_eq (by omega)) (pv_ (by kernel_rfl)) (pv_ (by kernel_rfl)) rfl) (pw_or1 (pb_cmp (od_ne c.units) (pd_prop c hF_Pull hP_Pull_order (by omega) (pv_ (by kernel_rfl)) rfl) (pd_prop c hF_Pull hP_Pull_order (by omega) (pv_ (by kernel_rfl)) rfl) rfl)))))) (ds_one (dp_ret (pd_bl))) (ds_nil)) <|
  ds_cons (dp_if (PW.pt (pwb_and (pb_cmp (od_ne c.units) (pv_ (by kernel_rfl)) (pd_tup (pl_nil)) rfl) (pw_and1 (pb_cmp (od_ne c.units) (pd_callU c h_p_settle (Nat.le_refl _) (gl_ (by kernel_rfl)) (pl_cons (pv_ (by kernel_rfl)) (pl_cons (pv_ (by kernel_rfl)) (pl_cons (pd_prop c hF_Pull hP_Pull_pointer (by omega) (pv_ (by kernel_rfl)) rfl) (pl_cons (pd_prop c hF_Pull hP_Pull_place (by omega) (pv_ (by kernel_rfl)) rfl) (pl_nil) rfl) rfl) rfl) rfl) rfl rfl rfl) (pd_prop c hF_Pull hP_Pull_place (by omega) (pv_ (by kernel_rfl)) rfl) rfl)))) (ds_one (dp_ret (pd_bl))) (ds_nil)) <|
  ds_cons (dp_for own_cf rfl (di_range1 (gl_ (by kernel_rfl)) hm_range (pl_cons (pd_callB cd_len (gl_ (by kernel_rfl)) hm_len bb_len (pl_cons (pd_ix (id_ix c.units1) (pv_ (by kernel_rfl)) (pd_int) (fun _ _ => rfl)) (pl_nil) rfl) (by decide) rfl rfl rfl) (pl_nil) rfl) rfl) (dg_of (tg_name nd_p_law (by kernel_rfl) (.inl (by kernel_rfl)) (.inr (by kernel_rfl)))) (ds_one (dp_if (pb_cmp (od_ne c.units) (pd_cmp (od_in0 c hF_Pull hM_Pull_contains (by omega)) (pv_ (by kernel_rfl)) (pv_ (by kernel_rfl)) rfl) (pd_cmp (od_eq c.units) (pd_callU c h_p_goes (Nat.le_refl _) (gl_ (by kernel_rfl)) (pl_cons (pv_ (by kernel_rfl)) (pl_cons (pv_ (by kernel_rfl)) (pl_cons (pd_prop c hF_Pull hP_Pull_pointer (by omega) (pv_ (by kernel_rfl)) rfl) (pl_cons (pv_ (by kernel_rfl)) (pl_nil) rfl) rfl) rfl) rfl) rfl rfl rfl) (pd_str) rfl) rfl) (ds_one (dp_ret (pd_bl))) (ds_nil))) (fun _ => rfl)) <|
  ds_cons (dp_set nd_p_law (by kernel_rfl) (.inl (by kernel_rfl)) (pd_callB cd_sortI (gl_ (by kernel_rfl)) hm_sorted bb_sorted (pl_cons (pd_lc (own := [(("_law_index" : Str), 15)]) (t := .nm 15) rfl nd_p_law (di_range1 (gl_ (by kernel_rfl)) hm_range (pl_cons (pd_callB cd_len (gl_ (by kernel_rfl)) hm_len bb_len (pl_cons (pd_ix (id_ix c.units1) (pv_ (by kernel_rfl)) (pd_int) (fun _ _ => rfl)) (pl_nil) rfl) (by decide) rfl rfl rfl) (pl_nil) rfl) rfl) (blkOk_by (by kernel_rfl)) (fun _ _ _ _ _ => tg_name nd_p_law (by kernel_rfl) (.inl (by kernel_rfl)) (.inr (by kernel_rfl))) (fun _ _ _ _ _ => pts_nilD) (fun _ _ _ _ _ => pd_callTy cd_int (gl_ (by kernel_rfl)) hm_int bb_int (pl_cons (pd_ixC c.blk hF_Pull hM_Pull_getitem (by omega) (pv_ (by kernel_rfl)) (pv_ (by kernel_rfl)) (fun _ _ => rfl)) (pl_nil) rfl) (by decide) rfl rfl rfl) (fun _ => rfl) (by decide)) (pl_nil) rfl) (by decide) rfl rfl rfl) rfl (.inl rfl)) <|
  ds_cons (dp_if (PW.pt (pwb_or (pb_cmp (od_ne c.units) (pd_lc (own := [(("_law_index" : Str), 15)]) (t := .nm 15) rfl nd_p_law (di_val (pd_prop c hF_Pull hP_Pull_order (by omega) (pv_ (by kernel_rfl)) rfl)) (blkOk_by (by kernel_rfl)) (fun _ _ _ _ _ => tg_name nd_p_law (by kernel_rfl) (.inl (by kernel_rfl)) (.inr (by kernel_rfl))) (fun _ _ _ _ _ => pts_nilD) (fun _ _ _ _ _ => pd_ixC c.blk hF_Pull hM_Pull_getitem (by omega) (pv_ (by kernel_rfl)) (pv_ (by kernel_rfl)) (fun _ _ => rfl)) (fun _ => rfl) (by decide)) (pv_ (by kernel_rfl)) rfl) (pw_or1 (pb_cmp (od_ne c.units) (pd_prop c hF_Pull hP_Pull_drawn (by omega) (pv_ (by kernel_rfl)) rfl) (pd_bin od_sub (pd_prop c hF_Pull hP_Pull_pointer (by omega) (pv_ (by kernel_rfl)) rfl) (pd_ix (id_ix c.units1) (pv_ (by kernel_rfl)) (pd_int) (fun _ _ => rfl))) rfl)))) (ds_one (dp_ret (pd_bl))) (ds_nil)) <|
  ds_cons (dp_for own_cf rfl (di_val (pv_ (by kernel_rfl))) (dg_of (tg_name nd_p_law (by kernel_rfl) (.inl (by kernel_rfl)) (.inr (by kernel_rfl)))) (ds_one (dp_expr (pd_meth0 c hF_Pull hM_Pull_undo (by omega) (pv_ (by kernel_rfl)) rfl) rfl)) (fun _ => rfl)) <|
  ds_cons (dp_if (PW.pt (pwb_or (pb_not (pb_cmp (od_cmpC (fun _ _ => rfl) rfl c hF_Pull hM_Pull_eq (by omega)) (pv_ (by kernel_rfl)) (pd_make c hK_Pull_init (by omega) (gl_ (by kernel_rfl)) (pl_cons (pv_ (by kernel_rfl)) (pl_cons (pv_ (by kernel_rfl)) (pl_nil) rfl) rfl) rfl rfl rfl) rfl)) (pwb_or (pb_cmp (od_ne c.units) (pd_prop c hF_Pull hP_Pull_place (by omega) (pv_ (by kernel_rfl)) rfl) (pd_ix (id_ix c.units1) (pv_ (by kernel_rfl)) (pd_int) (fun _ _ => rfl)) rfl) (pw_or1 (pb_val (pd_callTy (cd_boolC c hF_Pull hM_Pull_bool (by omega)) (gl_ (by kernel_rfl)) hm_bool bb_bool (pl_cons (pv_ (by kernel_rfl)) (pl_nil) rfl) (by decide) rfl rfl rfl) (fun _ => rfl)))))) (ds_one (dp_ret (pd_bl))) (ds_nil)) <|
  ds_cons (dp_set nd_p_law (by kernel_rfl) (.inl (by kernel_rfl)) (pd_bin od_add (pd_tup (pl_cons (pd_callTy cd_tuple (gl_ (by kernel_rfl)) hm_tuple bb_tuple (pl_cons (pd_lc (own := [(("_law_height" : Str), 16)]) (t := .nm 16) rfl nd_p_law (di_val (pd_ix (id_ix c.units1) (pv_ (by kernel_rfl)) (pd_int) (fun _ _ => rfl))) (blkOk_by (by kernel_rfl)) (fun _ _ _ _ _ => tg_name nd_p_law (by kernel_rfl) (.inl (by kernel_rfl)) (.inr (by kernel_rfl))) (fun _ _ _ _ _ => pts_nilD) (fun _ _ _ _ _ => pd_bin od_add (pv_ (by kernel_rfl)) (pd_int)) (fun _ => rfl) (by decide)) (pl_nil) rfl) (by decide) rfl rfl rfl) (pl_nil) rfl)) (pd_slice (pv_ (by kernel_rfl)) (pdo_some (pd_int)) (pdo_none))) rfl (.inl rfl)) <|
  ds_one (dp_if (PW.pt (pwb_or (pb_cmp (od_cmpC (fun _ _ => rfl) rfl c hF_Pull hM_Pull_eq (by omega)) (pv_ (by kernel_rfl)) (pd_make c hK_Pull_init (by omega) (gl_ (by kernel_rfl)) (pl_cons (pv_ (by kernel_rfl)) (pl_cons (pv_ (by kernel_rfl)) (pl_nil) rfl) rfl) rfl rfl rfl) rfl) (pw_or1 (PW.pt (pwb_and (pb_cmp (od_cmpC (fun _ _ => rfl) rfl c hF_Pull hM_Pull_eq (by omega)) (pv_ (by kernel_rfl)) (pd_make c hK_Pull_init (by omega) (gl_ (by kernel_rfl)) (pl_cons (pd_tup (pl_cons (pd_ix (id_ix c.units1) (pv_ (by kernel_rfl)) (pd_int) (fun _ _ => rfl)) (pl_cons (pd_ix (id_ix c.units1) (pv_ (by kernel_rfl)) (pd_int) (fun _ _ => rfl)) (pl_nil) rfl) rfl)) (pl_cons (pv_ (by kernel_rfl)) (pl_nil) rfl) rfl) rfl rfl rfl) rfl) (pw_and1 (pb_cmp (od_ne c.units) (pd_ix (id_ix c.units1) (pv_ (by kernel_rfl)) (pd_int) (fun _ _ => rfl)) (pd_ix (id_ix c.units1) (pv_ (by kernel_rfl)) (pd_int) (fun _ _ => rfl)) rfl))))))) (ds_one (dp_ret (pd_bl))) (ds_nil))) (fun _ => rfl)) <|
  ds_one (dp_ret (pd_bl))
theorem c_p_law {j : Nat} (hj : j + 3 ≤ k) (hF_Pull : ClsF K "Pull") (hM_Pull_eq : CalM P w K mg base j "Pull" "__eq__" 2 p_Pull_eq) (hK_Pull_init : MkC P w K mg base j "Pull" 3 p_Pull_init) (hM_Pull_bool : CalM P w K mg base j "Pull" "__bool__" 1 p_Pull_bool) (hP_Pull_place : CalP P w K mg base j "Pull" "place" p_Pull_place) (hM_Pull_undo : CalM P w K mg base j "Pull" "undo" 1 p_Pull_undo) (hP_Pull_drawn : CalP P w K mg base j "Pull" "drawn" p_Pull_drawn) (hP_Pull_pointer : CalP P w K mg base j "Pull" "pointer" p_Pull_pointer) (hP_Pull_order : CalP P w K mg base j "Pull" "order" p_Pull_order) (hM_Pull_getitem : CalM P w K mg base j "Pull" "__getitem__" 2 p_Pull_getitem) (hM_Pull_contains : CalM P w K mg base j "Pull" "__contains__" 2 p_Pull_contains) (hG_Pull_log : CalG P w K mg base j "Pull" "log" p_Pull_log) (hM_Pull_iadd : CalM P w K mg base j "Pull" "__iadd__" 2 p_Pull_iadd) (hm_range : mg "range" = none) (hm_min : mg "min" = none) (hm_len : mg "len" = none) (hm_tuple : mg "tuple" = none) (hm_bool : mg "bool" = none) (hm_sorted : mg "sorted" = none) (hm_int : mg "int" = none) (hm_list : mg "list" = none) (hm_zip : mg "zip" = none) (h_p_goes : Cal P w K mg base k "goes" 4 p_goes) (h_p_settle : Cal P w K mg base k "settle" 4 p_settle) (h_l_moved : Cal P w K mg base k "_law_moved" 2 l_moved) (h_p_way : Cal P w K mg base k "way" 3 p_way) (h_l_pointer : Cal P w K mg base k "_law_pointer" 2 l_pointer) (h_l_drag : Cal P w K mg base k "_law_drag" 2 l_drag) (h_l_rule : Cal P w K mg base k "_law_rule" 1 l_rule) (h_l_source : Cal P w K mg base k "_law_source" 2 l_source) (dn : Dn K mg "law" "law" (defArgs (top 55)) (defBody (top 55)) (defScope (top 55)) ["_law_script"]) : Cal P w K mg base (k + 1) "law" 1 (runDef 17 p_law_b) :=
  dn.cal sc_p_law rfl fun f cdv A outer s H E c => b_p_law hj hF_Pull hM_Pull_eq hK_Pull_init hM_Pull_bool hP_Pull_place hM_Pull_undo hP_Pull_drawn hP_Pull_pointer hP_Pull_order hM_Pull_getitem hM_Pull_contains hG_Pull_log hM_Pull_iadd hm_range hm_min hm_len hm_tuple hm_bool hm_sorted hm_int hm_list hm_zip h_p_goes h_p_settle h_l_moved h_p_way h_l_pointer h_l_drag h_l_rule h_l_source c
end
theorem facts {w : World} {K : Frag} {h : Heap} {mg : Str → Option Value} (X : K.In h) (G : h.Ns mainGlobals mg) (c : SaysM faD fnD tabD testD daD w K) {fa : Addr} (hmg : mg "law" = some (.ref fa)) :
    ∃ fd : FuncData, (∀ (s : Shared) (u : Value), BindsTo s fd ⟨[u], []⟩ [("_law_script", u)]) ∧ ∀ base : Heap, K.In base → base.Ns mainGlobals mg → FnOk pw w K mg base (L2.CX pw w) 15 fa fd ["_law_script"] (spD K 1 p_law) := by
  obtain ⟨fd, F⟩ := c.d.def_ 37 (d := ⟨("law", none), "law", "law", defArgs (top 55), defBody (top 55), defScope (top 55), [], []⟩) rfl
  have e := hmg.symm.trans (He.glo_ok X G (c.fact 37 (f := .glo "law") rfl))
  cases e
  have b := FunD.bindsA (ps := ["_law_script"]) F fun _ _ _ _ _ _ us hl => match us, hl with | [_], _ => rfl
  refine ⟨fd, fun s v => b s [v] rfl, fun base _ _ => ?_⟩
  let P := pw
  have hm_isinstance : mg "isinstance" = none := He.free_ok X G (c.fact 38 rfl)
  have hm_str : mg "str" = none := He.free_ok X G (c.fact 39 rfl)
  have hm_bool : mg "bool" = none := He.free_ok X G (c.fact 40 rfl)
  have hm_int : mg "int" = none := He.free_ok X G (c.fact 41 rfl)
  have hm_len : mg "len" = none := He.free_ok X G (c.fact 42 rfl)
  have hm_tuple : mg "tuple" = none := He.free_ok X G (c.fact 43 rfl)
  have hm_list : mg "list" = none := He.free_ok X G (c.fact 44 rfl)
  have hm_all : mg "all" = none := He.free_ok X G (c.fact 45 rfl)
  have hm_any : mg "any" = none := He.free_ok X G (c.fact 46 rfl)
  have hm_sum : mg "sum" = none := He.free_ok X G (c.fact 47 rfl)
  have hm_range : mg "range" = none := He.free_ok X G (c.fact 48 rfl)
  have hm_abs : mg "abs" = none := He.free_ok X G (c.fact 49 rfl)
  have hm_min : mg "min" = none := He.free_ok X G (c.fact 50 rfl)
  have hm_sorted : mg "sorted" = none := He.free_ok X G (c.fact 51 rfl)
  have hm_zip : mg "zip" = none := He.free_ok X G (c.fact 52 rfl)
  have gc_THINGS : GCon K mg "THINGS" g_THINGS := gcon_tup (zs := ["held", "place", "next"]) X G (c.fact 53 rfl) (c.test 0 rfl)
  have gc_TURNED : KDs P w K mg "TURNED" g_TURNED := kds_of (ks := ["below", "above", "not below", "not above"]) (zs := ["above", "below", "not above", "not below"]) X G (c.fact 54 rfl) (c.keys 0 rfl) (c.test 1 rfl) (by decide +kernel) (by decide +kernel)
  have gc_JOINTS : GCon K mg "JOINTS" g_JOINTS := gcon_tup (zs := ["and", "or"]) X G (c.fact 55 rfl) (c.test 2 rfl)
  have gc_MOST_POINTERS : GCon K mg "MOST_POINTERS" g_MOST_POINTERS := gcon_int X G (c.fact 56 rfl)
  have hG_Pull : mg "Pull" = some (.ref (He.ga K "Pull")) := He.glo_ok X G (c.fact 78 rfl)
  have hF_Pull : ClsF K "Pull" := clsF_of (c.fact 70 rfl) (c.test 3 rfl)
  have hX_InvalidRule : ExF K mg "InvalidRule" := exF_of X G (c.fact 57 rfl) (c.fact 58 rfl)
  have hX_InvalidDrag : ExF K mg "InvalidDrag" := exF_of X G (c.fact 59 rfl) (c.fact 60 rfl)
  have hX_Flickers : ExF K mg "Flickers" := exF_of X G (c.fact 61 rfl) (c.fact 62 rfl)
  have hX_InvalidPointer : ExF K mg "InvalidPointer" := exF_of X G (c.fact 63 rfl) (c.fact 64 rfl)
  have hX_NothingToUndo : ExF K mg "NothingToUndo" := exF_of X G (c.fact 65 rfl) (c.fact 66 rfl)
  have hX_InvalidPlace : ExF K mg "InvalidPlace" := exF_of X G (c.fact 67 rfl) (c.fact 68 rfl)
  have hE_Flickers_Flickers := He.exm_ok (c.fact 69 rfl)
  have hN_Pull_past : NoA K "Pull" "past" := He.noat_ok (c.fact 71 rfl)
  have hN_Pull_now : NoA K "Pull" "now" := He.noat_ok (c.fact 72 rfl)
  have hN_Pull_drag : NoA K "Pull" "drag" := He.noat_ok (c.fact 73 rfl)
  have hN_Pull_rule : NoA K "Pull" "rule" := He.noat_ok (c.fact 74 rfl)
  have dn_p_is_among := dn_of (ps := ["words", "value"]) X G c.d 0 rfl (c.fact 0 rfl) (fun _ _ _ _ _ _ us hl => match us, hl with | [_, _], _ => rfl)
  have h_p_is_among : Cal P w K mg base 1 "is_among" 2 p_is_among := c_p_is_among (k := 0) hm_isinstance hm_str  dn_p_is_among
  have dn_p_is_number := dn_of (ps := ["value"]) X G c.d 1 rfl (c.fact 1 rfl) (fun _ _ _ _ _ _ us hl => match us, hl with | [_], _ => rfl)
  have h_p_is_number : Cal P w K mg base 1 "is_number" 1 p_is_number := c_p_is_number (k := 0) hm_isinstance hm_bool hm_int  dn_p_is_number
  have dn_p_is_point := dn_of (ps := ["value"]) X G c.d 2 rfl (c.fact 2 rfl) (fun _ _ _ _ _ _ us hl => match us, hl with | [_], _ => rfl)
  have h_p_is_point : Cal P w K mg base 2 "is_point" 1 p_is_point := c_p_is_point (k := 1) hm_len hm_isinstance hm_tuple gc_THINGS (h_p_is_number.mono (by decide)) (h_p_is_among.mono (by decide)) dn_p_is_point
  have dn_p_is_comparison := dn_of (ps := ["value"]) X G c.d 3 rfl (c.fact 3 rfl) (fun _ _ _ _ _ _ us hl => match us, hl with | [_], _ => rfl)
  have h_p_is_comparison : Cal P w K mg base 3 "is_comparison" 1 p_is_comparison := c_p_is_comparison (k := 2) hm_list hm_len hm_isinstance hm_tuple gc_TURNED (h_p_is_point.mono (by decide)) (h_p_is_among.mono (by decide)) dn_p_is_comparison
  have dn_p_is_good_condition := dn_of (ps := ["value"]) X G c.d 4 rfl (c.fact 4 rfl) (fun _ _ _ _ _ _ us hl => match us, hl with | [_], _ => rfl)
  have h_p_is_good_condition : Cal P w K mg base 4 "is_good_condition" 1 p_is_good_condition := c_p_is_good_condition (k := 3) hm_all hm_len hm_isinstance hm_tuple gc_JOINTS (h_p_is_comparison.mono (by decide)) (h_p_is_among.mono (by decide)) dn_p_is_good_condition
  have dn_p_is_good_rule := dn_of (ps := ["value"]) X G c.d 5 rfl (c.fact 5 rfl) (fun _ _ _ _ _ _ us hl => match us, hl with | [_], _ => rfl)
  have h_p_is_good_rule : Cal P w K mg base 5 "is_good_rule" 1 p_is_good_rule := c_p_is_good_rule (k := 4) hm_all hm_len hm_isinstance hm_tuple (h_p_is_good_condition.mono (by decide)) dn_p_is_good_rule
  have dn_p_need_rule := dn_of (ps := ["value"]) X G c.d 6 rfl (c.fact 6 rfl) (fun _ _ _ _ _ _ us hl => match us, hl with | [_], _ => rfl)
  have h_p_need_rule : Cal P w K mg base 6 "need_rule" 1 p_need_rule := c_p_need_rule (k := 5) (j := 0) (by decide) hX_InvalidRule (h_p_is_good_rule.mono (by decide)) dn_p_need_rule
  have dn_p_is_good_drag := dn_of (ps := ["value"]) X G c.d 7 rfl (c.fact 7 rfl) (fun _ _ _ _ _ _ us hl => match us, hl with | [_], _ => rfl)
  have h_p_is_good_drag : Cal P w K mg base 2 "is_good_drag" 1 p_is_good_drag := c_p_is_good_drag (k := 1) hm_len hm_all hm_isinstance hm_tuple (h_p_is_number.mono (by decide)) dn_p_is_good_drag
  have dn_p_need_drag := dn_of (ps := ["value"]) X G c.d 8 rfl (c.fact 8 rfl) (fun _ _ _ _ _ _ us hl => match us, hl with | [_], _ => rfl)
  have h_p_need_drag : Cal P w K mg base 4 "need_drag" 1 p_need_drag := c_p_need_drag (k := 3) (j := 0) (by decide) hX_InvalidDrag (h_p_is_good_drag.mono (by decide)) dn_p_need_drag
  have dn_p_Pull_init := dnA_of (ps := ["self", "rule", "drag"]) (at_ := (fun K => He.ma K (He.ga K "Pull") "__init__")) c 0 rfl (fun _ _ _ _ _ _ us hl => match us, hl with | [_, _, _], _ => rfl)
  have hK_Pull_init := mkC_of (c := "Pull") X G (c.fact 78 rfl) (c.fact 77 rfl) (c_p_Pull_init (P := P) (w := w) (mg := mg) (base := base) (k := 6) (j := 0) (by decide) hF_Pull hN_Pull_past hN_Pull_now hN_Pull_drag hN_Pull_rule hm_sum (h_p_need_drag.mono (by decide)) (h_p_need_rule.mono (by decide)) dn_p_Pull_init)
  have dn_p_Pull_pointer := dnA_of (ps := ["self"]) (at_ := (fun K => He5.wf K (He.ga K "Pull") "property" "pointer")) c 1 rfl (fun _ _ _ _ _ _ us hl => match us, hl with | [_], _ => rfl)
  have hP_Pull_pointer := calP_of (c := "Pull") (m := "pointer") (c.test 10 rfl) (c_p_Pull_pointer (P := P) (w := w) (mg := mg) (base := base) (k := 3) (j := 0) (by decide) hF_Pull hN_Pull_now dn_p_Pull_pointer)
  have dn_p_Pull_place := dnA_of (ps := ["self"]) (at_ := (fun K => He5.wf K (He.ga K "Pull") "property" "place")) c 2 rfl (fun _ _ _ _ _ _ us hl => match us, hl with | [_], _ => rfl)
  have hP_Pull_place := calP_of (c := "Pull") (m := "place") (c.test 7 rfl) (c_p_Pull_place (P := P) (w := w) (mg := mg) (base := base) (k := 3) (j := 0) (by decide) hF_Pull hN_Pull_now dn_p_Pull_place)
  have dn_p_Pull_order := dnA_of (ps := ["self"]) (at_ := (fun K => He5.wf K (He.ga K "Pull") "property" "order")) c 3 rfl (fun _ _ _ _ _ _ us hl => match us, hl with | [_], _ => rfl)
  have hP_Pull_order := calP_of (c := "Pull") (m := "order") (c.test 11 rfl) (c_p_Pull_order (P := P) (w := w) (mg := mg) (base := base) (k := 3) (j := 0) (by decide) hF_Pull hN_Pull_now hN_Pull_drag hm_tuple hm_range hm_len dn_p_Pull_order)
  have dn_p_Pull_orderN := dnA_of (ps := ["self"]) (at_ := (fun K => He5.wf K (He.ga K "Pull") "property" "order")) c 4 rfl (fun _ _ _ _ _ _ us hl => match us, hl with | [_], _ => rfl)
  have hP_Pull_orderN := calP_of (c := "Pull") (m := "order") (c.test 17 rfl) (c_p_Pull_orderN (P := P) (w := w) (mg := mg) (base := base) (k := 3) (j := 0) (by decide) hF_Pull hN_Pull_now hN_Pull_drag hm_tuple hm_range hm_len dn_p_Pull_orderN)
  have dn_p_Pull_drawn := dnA_of (ps := ["self"]) (at_ := (fun K => He5.wf K (He.ga K "Pull") "property" "drawn")) c 5 rfl (fun _ _ _ _ _ _ us hl => match us, hl with | [_], _ => rfl)
  have hP_Pull_drawn := calP_of (c := "Pull") (m := "drawn") (c.test 9 rfl) (c_p_Pull_drawn (P := P) (w := w) (mg := mg) (base := base) (k := 3) (j := 0) (by decide) hF_Pull hN_Pull_now hN_Pull_drag dn_p_Pull_drawn)
  have dn_p_point_at := dn_of (ps := ["point", "spans"]) X G c.d 9 rfl (c.fact 9 rfl) (fun _ _ _ _ _ _ us hl => match us, hl with | [_, _], _ => rfl)
  have h_p_point_at : Cal P w K mg base 1 "point_at" 2 p_point_at := c_p_point_at (k := 0)  dn_p_point_at
  have dn_p_is_so := dn_of (ps := ["comparison", "spans"]) X G c.d 10 rfl (c.fact 10 rfl) (fun _ _ _ _ _ _ us hl => match us, hl with | [_, _], _ => rfl)
  have h_p_is_so : Cal P w K mg base 2 "is_so" 2 p_is_so := c_p_is_so (k := 1) (h_p_point_at.mono (by decide)) dn_p_is_so
  have dn_p_parts_of := dn_of (ps := ["condition"]) X G c.d 11 rfl (c.fact 11 rfl) (fun _ _ _ _ _ _ us hl => match us, hl with | [_], _ => rfl)
  have h_p_parts_of : Cal P w K mg base 1 "parts_of" 1 p_parts_of := c_p_parts_of (k := 0) hm_list gc_JOINTS  dn_p_parts_of
  have dn_p_holds := dn_of (ps := ["condition", "spans"]) X G c.d 12 rfl (c.fact 12 rfl) (fun _ _ _ _ _ _ us hl => match us, hl with | [_, _], _ => rfl)
  have h_p_holds : Cal P w K mg base 3 "holds" 2 p_holds := c_p_holds (k := 2) hm_any hm_all (h_p_parts_of.mono (by decide)) (h_p_is_so.mono (by decide)) dn_p_holds
  have dn_p_others_of := dn_of (ps := ["drag"]) X G c.d 13 rfl (c.fact 13 rfl) (fun _ _ _ _ _ _ us hl => match us, hl with | [_], _ => rfl)
  have h_p_others_of : Cal P w K mg base 1 "others_of" 1 p_others_of := c_p_others_of (k := 0)  dn_p_others_of
  have dn_p_spans_at := dn_of (ps := ["drag", "pointer", "place", "side"]) X G c.d 14 rfl (c.fact 14 rfl) (fun _ _ _ _ _ _ us hl => match us, hl with | [_, _, _, _], _ => rfl)
  have h_p_spans_at : Cal P w K mg base 2 "spans_at" 4 p_spans_at := c_p_spans_at (k := 1) hm_sum (h_p_others_of.mono (by decide)) dn_p_spans_at
  have dn_p_turn_of := dn_of (ps := ["rule", "drag", "pointer", "place"]) X G c.d 15 rfl (c.fact 15 rfl) (fun _ _ _ _ _ _ us hl => match us, hl with | [_, _, _, _], _ => rfl)
  have h_p_turn_of : Cal P w K mg base 4 "turn_of" 4 p_turn_of := c_p_turn_of (k := 3) hm_len (h_p_holds.mono (by decide)) (h_p_spans_at.mono (by decide)) dn_p_turn_of
  have dn_p_rest_of := dn_of (ps := ["rule", "drag", "pointer", "place"]) X G c.d 16 rfl (c.fact 16 rfl) (fun _ _ _ _ _ _ us hl => match us, hl with | [_, _, _, _], _ => rfl)
  have h_p_rest_of : Cal P w K mg base 5 "rest_of" 4 p_rest_of := c_p_rest_of (k := 4) hm_range hm_len (h_p_turn_of.mono (by decide)) dn_p_rest_of
  have dn_p_Pull_go_on := dnA_of (ps := ["self", "pointers"]) (at_ := (fun K => He.ma K (He.ga K "Pull") "go_on")) c 6 rfl (fun _ _ _ _ _ _ us hl => match us, hl with | [_, _], _ => rfl)
  have hM_Pull_go_on := calM_of (c := "Pull") (m := "go_on") (c.fact 85 rfl) (c.test 16 rfl) (c_p_Pull_go_on (P := P) (w := w) (mg := mg) (base := base) (k := 5) (j := 0) (by decide) hF_Pull hX_Flickers hN_Pull_now hN_Pull_past hN_Pull_drag hN_Pull_rule (h_p_rest_of.mono (by decide)) dn_p_Pull_go_on)
  have dn_p_need_pointer := dn_of (ps := ["value"]) X G c.d 17 rfl (c.fact 17 rfl) (fun _ _ _ _ _ _ us hl => match us, hl with | [_], _ => rfl)
  have h_p_need_pointer : Cal P w K mg base 4 "need_pointer" 1 p_need_pointer := c_p_need_pointer (k := 3) (j := 0) (by decide) hX_InvalidPointer (h_p_is_number.mono (by decide)) dn_p_need_pointer
  have dn_p_Pull_to := dnA_of (ps := ["self", "pointer"]) (at_ := (fun K => He.ma K (He.ga K "Pull") "to")) c 7 rfl (fun _ _ _ _ _ _ us hl => match us, hl with | [_, _], _ => rfl)
  have hM_Pull_to := calM_of (c := "Pull") (m := "to") (c.fact 75 rfl) (c.test 4 rfl) (c_p_Pull_to (P := P) (w := w) (mg := mg) (base := base) (k := 9) (j := 6) (by decide) hF_Pull hN_Pull_now (hM_Pull_go_on.mono (by decide)) (h_p_need_pointer.mono (by decide)) dn_p_Pull_to)
  have dn_p_are_pointers := dn_of (ps := ["value"]) X G c.d 18 rfl (c.fact 18 rfl) (fun _ _ _ _ _ _ us hl => match us, hl with | [_], _ => rfl)
  have h_p_are_pointers : Cal P w K mg base 2 "are_pointers" 1 p_are_pointers := c_p_are_pointers (k := 1) hm_all hm_len hm_isinstance hm_tuple gc_MOST_POINTERS (h_p_is_number.mono (by decide)) dn_p_are_pointers
  have dn_p_need_pointers := dn_of (ps := ["value"]) X G c.d 19 rfl (c.fact 19 rfl) (fun _ _ _ _ _ _ us hl => match us, hl with | [_], _ => rfl)
  have h_p_need_pointers : Cal P w K mg base 4 "need_pointers" 1 p_need_pointers := c_p_need_pointers (k := 3) (j := 0) (by decide) hX_InvalidPointer (h_p_are_pointers.mono (by decide)) dn_p_need_pointers
  have dn_p_Pull_iadd := dnA_of (ps := ["self", "pointers"]) (at_ := (fun K => He.ma K (He.ga K "Pull") "__iadd__")) c 8 rfl (fun _ _ _ _ _ _ us hl => match us, hl with | [_, _], _ => rfl)
  have hM_Pull_iadd := calM_of (c := "Pull") (m := "__iadd__") (c.fact 84 rfl) (c.test 15 rfl) (c_p_Pull_iadd (P := P) (w := w) (mg := mg) (base := base) (k := 9) (j := 6) (by decide) hF_Pull (hM_Pull_go_on.mono (by decide)) (h_p_need_pointers.mono (by decide)) dn_p_Pull_iadd)
  have dn_p_Pull_undo := dnA_of (ps := ["self"]) (at_ := (fun K => He.ma K (He.ga K "Pull") "undo")) c 9 rfl (fun _ _ _ _ _ _ us hl => match us, hl with | [_], _ => rfl)
  have hM_Pull_undo := calM_of (c := "Pull") (m := "undo") (c.fact 80 rfl) (c.test 8 rfl) (c_p_Pull_undo (P := P) (w := w) (mg := mg) (base := base) (k := 3) (j := 0) (by decide) hF_Pull hX_NothingToUndo hN_Pull_now hN_Pull_past dn_p_Pull_undo)
  have dn_p_Pull_getitem := dnA_of (ps := ["self", "index"]) (at_ := (fun K => He.ma K (He.ga K "Pull") "__getitem__")) c 10 rfl (fun _ _ _ _ _ _ us hl => match us, hl with | [_, _], _ => rfl)
  have hM_Pull_getitem := calM_of (c := "Pull") (m := "__getitem__") (c.fact 81 rfl) (c.test 12 rfl) (c_p_Pull_getitem (P := P) (w := w) (mg := mg) (base := base) (k := 7) (j := 4) (by decide) hF_Pull hX_InvalidPlace hN_Pull_drag (hP_Pull_orderN.mono (by decide)) hm_sum hm_len (h_p_is_number.mono (by decide)) dn_p_Pull_getitem)
  have dn_p_Pull_contains := dnA_of (ps := ["self", "value"]) (at_ := (fun K => He.ma K (He.ga K "Pull") "__contains__")) c 11 rfl (fun _ _ _ _ _ _ us hl => match us, hl with | [_, _], _ => rfl)
  have hM_Pull_contains := calM_of (c := "Pull") (m := "__contains__") (c.fact 82 rfl) (c.test 13 rfl) (c_p_Pull_contains (P := P) (w := w) (mg := mg) (base := base) (k := 4) (j := 0) (by decide) hF_Pull hN_Pull_now hN_Pull_drag hN_Pull_rule hm_len (h_p_turn_of.mono (by decide)) (h_p_is_number.mono (by decide)) dn_p_Pull_contains)
  have dn_p_Pull_bool := dnA_of (ps := ["self"]) (at_ := (fun K => He.ma K (He.ga K "Pull") "__bool__")) c 12 rfl (fun _ _ _ _ _ _ us hl => match us, hl with | [_], _ => rfl)
  have hM_Pull_bool := calM_of (c := "Pull") (m := "__bool__") (c.fact 79 rfl) (c.test 6 rfl) (c_p_Pull_bool (P := P) (w := w) (mg := mg) (base := base) (k := 3) (j := 0) (by decide) hF_Pull hN_Pull_now hN_Pull_drag hm_bool dn_p_Pull_bool)
  have dn_p_Pull_eq := dnA_of (ps := ["self", "other"]) (at_ := (fun K => He.ma K (He.ga K "Pull") "__eq__")) c 13 rfl (fun _ _ _ _ _ _ us hl => match us, hl with | [_, _], _ => rfl)
  have hM_Pull_eq := calM_of (c := "Pull") (m := "__eq__") (c.fact 76 rfl) (c.test 5 rfl) (c_p_Pull_eq (P := P) (w := w) (mg := mg) (base := base) (k := 3) (j := 0) (by decide) hF_Pull hN_Pull_now hN_Pull_drag hN_Pull_rule hG_Pull hm_isinstance dn_p_Pull_eq)
  have dn_p_Pull_log := dnA_of (ps := ["self"]) (at_ := (fun K => He.ma K (He.ga K "Pull") "log")) c 14 rfl (fun _ _ _ _ _ _ us hl => match us, hl with | [_], _ => rfl)
  have hG_Pull_log := calG_of (c := "Pull") (m := "log") (c.fact 83 rfl) (c_p_Pull_log (P := P) (w := w) (mg := mg) (base := base) (k := 3) (j := 0) (by decide) hF_Pull hN_Pull_now dn_p_Pull_log)
  have dn_l_source := dn_of (ps := ["_law_script", "_law_k"]) X G c.d 20 rfl (c.fact 20 rfl) (fun _ _ _ _ _ _ us hl => match us, hl with | [_, _], _ => rfl)
  have h_l_source : Cal P w K mg base 1 "_law_source" 2 l_source := c_l_source (k := 0) hm_int hm_len hm_abs  dn_l_source
  have dn_l_draw := dn_of (ps := ["_law_source_here", "_law_many"]) X G c.d 21 rfl (c.fact 21 rfl) (fun _ _ _ _ _ _ us hl => match us, hl with | [_, _], _ => rfl)
  have h_l_draw : Cal P w K mg base 1 "_law_draw" 2 l_draw := c_l_draw (k := 0) hm_int  dn_l_draw
  have dn_l_of := dn_of (ps := ["_law_source_here", "_law_items"]) X G c.d 22 rfl (c.fact 22 rfl) (fun _ _ _ _ _ _ us hl => match us, hl with | [_, _], _ => rfl)
  have h_l_of : Cal P w K mg base 2 "_law_of" 2 l_of := c_l_of (k := 1) hm_len (h_l_draw.mono (by decide)) dn_l_of
  have dn_l_known := dn_of (ps := ["_law_source_here"]) X G c.d 23 rfl (c.fact 23 rfl) (fun _ _ _ _ _ _ us hl => match us, hl with | [_], _ => rfl)
  have h_l_known : Cal P w K mg base 3 "_law_known" 1 l_known := c_l_known (k := 2) (h_l_draw.mono (by decide)) (h_l_of.mono (by decide)) dn_l_known
  have dn_l_point := dn_of (ps := ["_law_source_here"]) X G c.d 24 rfl (c.fact 24 rfl) (fun _ _ _ _ _ _ us hl => match us, hl with | [_], _ => rfl)
  have h_l_point : Cal P w K mg base 3 "_law_point" 1 l_point := c_l_point (k := 2) (h_l_of.mono (by decide)) (h_l_draw.mono (by decide)) dn_l_point
  have dn_l_comparison := dn_of (ps := ["_law_source_here"]) X G c.d 25 rfl (c.fact 25 rfl) (fun _ _ _ _ _ _ us hl => match us, hl with | [_], _ => rfl)
  have h_l_comparison : Cal P w K mg base 4 "_law_comparison" 1 l_comparison := c_l_comparison (k := 3) (h_l_point.mono (by decide)) (h_l_of.mono (by decide)) dn_l_comparison
  have dn_l_condition := dn_of (ps := ["_law_source_here"]) X G c.d 26 rfl (c.fact 26 rfl) (fun _ _ _ _ _ _ us hl => match us, hl with | [_], _ => rfl)
  have h_l_condition : Cal P w K mg base 5 "_law_condition" 1 l_condition := c_l_condition (k := 4) hm_tuple hm_range (h_l_of.mono (by decide)) (h_l_comparison.mono (by decide)) dn_l_condition
  have dn_l_rule := dn_of (ps := ["_law_source_here"]) X G c.d 27 rfl (c.fact 27 rfl) (fun _ _ _ _ _ _ us hl => match us, hl with | [_], _ => rfl)
  have h_l_rule : Cal P w K mg base 6 "_law_rule" 1 l_rule := c_l_rule (k := 5) (h_l_condition.mono (by decide)) (h_l_known.mono (by decide)) (h_l_draw.mono (by decide)) dn_l_rule
  have dn_l_drag := dn_of (ps := ["_law_source_here", "_law_most"]) X G c.d 28 rfl (c.fact 28 rfl) (fun _ _ _ _ _ _ us hl => match us, hl with | [_, _], _ => rfl)
  have h_l_drag : Cal P w K mg base 3 "_law_drag" 2 l_drag := c_l_drag (k := 2) hm_len hm_tuple hm_range (h_l_of.mono (by decide)) (h_l_draw.mono (by decide)) dn_l_drag
  have dn_l_pointer := dn_of (ps := ["_law_source_here", "_law_drag_here"]) X G c.d 29 rfl (c.fact 29 rfl) (fun _ _ _ _ _ _ us hl => match us, hl with | [_, _], _ => rfl)
  have h_l_pointer : Cal P w K mg base 3 "_law_pointer" 2 l_pointer := c_l_pointer (k := 2) hm_sum (h_l_of.mono (by decide)) (h_l_draw.mono (by decide)) dn_l_pointer
  have dn_p_places_of := dn_of (ps := ["rule", "drag", "pointers"]) X G c.d 30 rfl (c.fact 30 rfl) (fun _ _ _ _ _ _ us hl => match us, hl with | [_, _, _], _ => rfl)
  have h_p_places_of : Cal P w K mg base 6 "places_of" 3 p_places_of := c_p_places_of (k := 5) (h_p_rest_of.mono (by decide)) dn_p_places_of
  have dn_p_way := dn_of (ps := ["rule", "drag", "pointers"]) X G c.d 31 rfl (c.fact 31 rfl) (fun _ _ _ _ _ _ us hl => match us, hl with | [_, _, _], _ => rfl)
  have h_p_way : Cal P w K mg base 7 "way" 3 p_way := c_p_way (k := 6) (h_p_places_of.mono (by decide)) (h_p_need_pointers.mono (by decide)) (h_p_need_drag.mono (by decide)) (h_p_need_rule.mono (by decide)) dn_p_way
  have dn_l_moved := dn_of (ps := ["_law_pull", "_law_pointer_here"]) X G c.d 32 rfl (c.fact 32 rfl) (fun _ _ _ _ _ _ us hl => match us, hl with | [_, _], _ => rfl)
  have h_l_moved : Cal P w K mg base 14 "_law_moved" 2 l_moved := c_l_moved (k := 13) (j := 10) (by decide) hF_Pull hX_Flickers hE_Flickers_Flickers (hM_Pull_to.mono (by decide))  dn_l_moved
  have dn_p_need_place := dn_of (ps := ["drag", "value"]) X G c.d 33 rfl (c.fact 33 rfl) (fun _ _ _ _ _ _ us hl => match us, hl with | [_, _], _ => rfl)
  have h_p_need_place : Cal P w K mg base 4 "need_place" 2 p_need_place := c_p_need_place (k := 3) (j := 0) (by decide) hX_InvalidPlace hm_len (h_p_is_number.mono (by decide)) dn_p_need_place
  have dn_p_need_all := dn_of (ps := ["rule", "drag", "pointer", "place"]) X G c.d 34 rfl (c.fact 34 rfl) (fun _ _ _ _ _ _ us hl => match us, hl with | [_, _, _, _], _ => rfl)
  have h_p_need_all : Cal P w K mg base 7 "need_all" 4 p_need_all := c_p_need_all (k := 6) (h_p_need_place.mono (by decide)) (h_p_need_pointer.mono (by decide)) (h_p_need_drag.mono (by decide)) (h_p_need_rule.mono (by decide)) dn_p_need_all
  have dn_p_settle := dn_of (ps := ["rule", "drag", "pointer", "place"]) X G c.d 35 rfl (c.fact 35 rfl) (fun _ _ _ _ _ _ us hl => match us, hl with | [_, _, _, _], _ => rfl)
  have h_p_settle : Cal P w K mg base 8 "settle" 4 p_settle := c_p_settle (k := 7) (h_p_rest_of.mono (by decide)) (h_p_need_all.mono (by decide)) dn_p_settle
  have dn_p_goes := dn_of (ps := ["rule", "drag", "pointer", "place"]) X G c.d 36 rfl (c.fact 36 rfl) (fun _ _ _ _ _ _ us hl => match us, hl with | [_, _, _, _], _ => rfl)
  have h_p_goes : Cal P w K mg base 8 "goes" 4 p_goes := c_p_goes (k := 7) (h_p_turn_of.mono (by decide)) (h_p_need_all.mono (by decide)) dn_p_goes
  exact fn_ok F sc_p_law rfl fun cdv A outer s H E ck => b_p_law (j := 10) (by decide) hF_Pull (hM_Pull_eq.mono (by decide)) (hK_Pull_init.mono (by decide)) (hM_Pull_bool.mono (by decide)) (hP_Pull_place.mono (by decide)) (hM_Pull_undo.mono (by decide)) (hP_Pull_drawn.mono (by decide)) (hP_Pull_pointer.mono (by decide)) (hP_Pull_order.mono (by decide)) (hM_Pull_getitem.mono (by decide)) (hM_Pull_contains.mono (by decide)) (hG_Pull_log.mono (by decide)) (hM_Pull_iadd.mono (by decide)) hm_range hm_min hm_len hm_tuple hm_bool hm_sorted hm_int hm_list hm_zip (h_p_goes.mono (by decide)) (h_p_settle.mono (by decide)) (h_l_moved.mono (by decide)) (h_p_way.mono (by decide)) (h_l_pointer.mono (by decide)) (h_l_drag.mono (by decide)) (h_l_rule.mono (by decide)) (h_l_source.mono (by decide)) ck
end LW
open PySem PySem.W
open PySem.Calls PyProof.Rows
theorem PySem.Challenge.cw_dragswaps_k24_whole_pulls_and_rules_holds : PySem.Challenge.rw_dragswaps_k24_whole_pulls_and_rules.Holds := by
  w_on; o_law
  refine HandSHeadRun.head_any (r := PySem.W.OpenLaw.row PySem.Challenge.rw_dragswaps_k24_whole_pulls_and_rules) (q := PySem.W.view (PySem.W.OpenLaw.row PySem.Challenge.rw_dragswaps_k24_whole_pulls_and_rules).prog [55]) (H := LW.hk) (ob := LW.ob) (M := 20000) (loose := LW.looseD) (d := HandSHeadRun.topDef (PySem.W.OpenLaw.row PySem.Challenge.rw_dragswaps_k24_whole_pulls_and_rules).prog 55) (kwd := []) LW.ob_eq
    (by kernel_rfl) (fun s => by kernel_rfl) LW.runs (by kernel_rfl) (by kernel_rfl) (by kernel_rfl) (by rfl) (by first | assumption | decide +kernel) (by decide +kernel) ⟨rfl, rfl, rfl, rfl, rfl, by decide +kernel⟩ ?hw ?hc
  case hw => w_witness2
  case hc =>
    refine MP.walk_ofM (l := PySem.Challenge.rw_dragswaps_k24_whole_pulls_and_rules) (n := 63) (k := 15) (x := "_law_script") (m := LW.p_law) rfl (by decide) (by kernel_rfl) ⟨rfl, by decide, by decide⟩ ?F (fun ns h _ => LW.holds ns h)
    intro w mg h Y G
    obtain ⟨K, KX, c⟩ := Y
    refine ⟨K, KX, fun fa hmg0 => ?_⟩
    have e : (HandSHeadRun.topDef (PySem.W.OpenLaw.row PySem.Challenge.rw_dragswaps_k24_whole_pulls_and_rules).prog 55).name = ("law" : PySem.Str) := by kernel_rfl
    rw [e] at hmg0
    exact LW.facts KX G c hmg0

