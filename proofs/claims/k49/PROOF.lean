import PyProof.Rows.All
import Lean
import KE.KStateDown
import HandS.Words
import HandS.Defaults
import HandS.Head0
import HandS.Head1
import HandS.Head2
import HandS.HeadEnd
import HandS.HeadHook1
import HandS.HeadHook2
import HandS.HeadHook3
import HandS.HeadHook4
import HandS.ExcIs
import HandS.Property
import HandS.HeadNt
import HandS.ForMost
import HandS.Zip
import HandS.IsInst
import HandS.Deep
import HandS.TupAny
import HandS.TupMul
import HandS.Conv
import HandS.Lambda
import HandS.Exc
import HandS.ExcOwn
import HandS.ExcCtx
import KE.KeyNested
import KE.KDictCopyH
import HandS.SetFor
import KE.DataMinMax
import PyProof.ReprRoads
import KE.GoesNew
import PyProof.Rows.TupTab
import HandS.Star
import HandS.Strs
import HandS.Style
import KE.KDictZip
import HandS.TupSets
import PyProof.RulesMatchSeq
import PyProof.Rows.MatchSeqLen
import HandS.DictComp
import HandS.GenBody
import HandS.GenYield
import HandS.GenCall
import HandS.GenList
import KE.KTupSum
import KE.KAssignIn
import PyProof.SeqRoads2
import KE.KUnpack
import KE.KUnpackStar
import PyProof.ExcBaseAll.ValueError
import HandS.HotCalls
import HandS.Text
import HandS.Codes
import PyProof.EqKinds
import HandS.EndBits
import HandS.NoneIn
import PyProof.StrOps2
import HandS.ClsMeth
import OpenK.KOps
import OpenK.KMeth
import HandS.FStr
import KE.KOpsOwn
import HandS.OwnEq
import PyProof.FactsAll.int
import PyProof.FactsAll.bool
import PyProof.FactsAll.str
import PyProof.FactsAll.NoneType
import PyProof.FactsAll.list
import PyProof.FactsAll.tuple
import PyProof.FactsAll.dict
import PySem.Challenge.RW_rolluplevels_k49_cells_in_cubes_and_equa
set_option Elab.async false
set_option linter.all false
set_option maxRecDepth 100000
set_option maxHeartbeats 4000000
set_option autoImplicit false
namespace Mn
open PySem PySem.Spec PyProof.Rows L2
/-! what the top leaves: how it is looked at -/
/-- one def of the top, by its name -/
def ddOf (x : Str) (st : Stmt) : He.DefD := ⟨(x, none), x, x, defArgs st, defBody st, defScope st, [], []⟩
def btNames : List String := ["len", "isinstance", "int", "bool", "str", "tuple", "list", "dict", "set", "all", "any", "sum", "max", "min", "zip", "range", "enumerate", "repr", "sorted"]
/-- one def of a class, by its name -/
def ddM (c x : Str) (st : Stmt) : He.DefD := ⟨(c, some x), x, c ++ "." ++ x, defArgs st, defBody st, defScope st, [], []⟩
def insB (K : PySem.W.Frag) (C : Addr) : Bool :=
  decide (PySem.W.findIn K (.ref C) "__class__" = some (some (.builtin "object.__class__"))) && (decide (PySem.W.specialIn K (.builtin "object.__class__") "__get__" = some (some (.builtin "getset_descriptor.__get__"))) && (decide (PySem.W.takesIn K (.builtin "object.__class__") = some true) && (decide (PySem.W.mroIn K C (.type "object") = some true) &&
    ["bool", "int", "str", "tuple", "list", "dict"].all fun T => decide (PySem.W.kitOne K (.ref C) (.type T) = some false))))
end Mn

set_option Elab.async false
set_option linter.all false
set_option maxRecDepth 100000
set_option maxHeartbeats 4000000
set_option autoImplicit false
namespace Mn
open PySem PySem.Spec PyProof.Rows L2
/-! the words of exceptions: what the top says of their classes -/
def plainC : List (Str × Str) := [("SchemeError", "scheme"), ("RollupError", "rollup"), ("CellError", "cell"), ("TableError", "table"), ("StoredError", "stored"), ("ReportError", "report"), ("NumberError", "number"), ("AmountError", "amount"), ("CubeError", "cube"), ("MatchError", "match"), ("PlaceError", "place"), ("TextError", "text"), ("NothingDone", "nothing"), ("OrderError", "order"), ("SumsError", "sums")]
def excCB (K : PySem.W.Frag) (D : Addr) : Bool :=
  decide (PySem.W.findIn K (.ref D) "__getattribute__" = some (some (.builtin "BaseException.__getattribute__"))) && (decide (PySem.W.findIn K (.ref D) "__getattr__" = some none) && (decide (PySem.W.subIn K (.ref D) (.type "BaseException") = some true) && (PySem.W.hasDictIn K D &&
    (decide (PySem.W.findIn K (.ref D) "__class__" = some (some (.builtin "object.__class__"))) && (decide (PySem.W.specialIn K (.builtin "object.__class__") "__get__" = some (some (.builtin "getset_descriptor.__get__"))) && (decide (PySem.W.takesIn K (.builtin "object.__class__") = some true) && decide (PySem.W.mroIn K D (.type "object") = some true)))))))
theorem excCB_ok {K : PySem.W.Frag} {D : Addr} (h : excCB K D = true) : ExcC K D := by
  obtain ⟨h1, h⟩ := He.ba h
  obtain ⟨h2, h⟩ := He.ba h
  obtain ⟨h3, h⟩ := He.ba h
  obtain ⟨h4, h⟩ := He.ba h
  obtain ⟨h5, h⟩ := He.ba h
  obtain ⟨h6, h⟩ := He.ba h
  obtain ⟨h7, h8⟩ := He.ba h
  exact ⟨of_decide_eq_true h1, of_decide_eq_true h2, of_decide_eq_true h3, h4, of_decide_eq_true h5, of_decide_eq_true h6, of_decide_eq_true h7, of_decide_eq_true h8⟩
def saidB (K : PySem.W.Frag) : Bool := (["Unknown", "LimitError", "LevelsError"].all fun x => (He.Fa.glo x).ok K) && plainC.all fun p => (He.Fa.glo p.1).ok K && ((He.Fa.exm p.1 "Unknown" false).ok K && ((He.Fa.exm p.1 "LimitError" false).ok K && ((He.Fa.exm p.1 "LevelsError" true).ok K &&
  (excCB K (He.ga K p.1) && plainC.all fun q => decide (PySem.W.kitOne K (.ref (He.ga K p.1)) (.ref (He.ga K q.1)) = some (decide (p.1 = q.1)))))))
/-- no two of the defs have a table in common -/
def apartB (tf : List He.Defn) (K : PySem.W.Frag) : Bool := decide (tf.map fun p => (He.cT K p).2).Nodup
end Mn

set_option Elab.async false
set_option linter.all false
set_option maxRecDepth 100000
set_option maxHeartbeats 4000000
set_option autoImplicit false
namespace Mn
open PySem PySem.Spec PyProof.Rows L2
/-! what the top leaves, with the defs that stand in records of a class: properties, staticmethods, classmethods -/
/-- a def of a class, with defaults -/
def ddMD (c x : Str) (st : Stmt) (dfl : List He.Dv) : He.DefD := ⟨(c, some x), x, c ++ "." ++ x, defArgs st, defBody st, defScope st, dfl, []⟩
structure PrD where
  c : Str
  x : Str
  ty : String
  n : Nat
  name : Str
  qual : Str
  params : Arguments
  body : List Stmt
  scope : Scope
/-- the record, the def in it -/
def prA (K : PySem.W.Frag) (c x : Str) : Addr := He.ma K (He.ga K c) x
def pgA (K : PySem.W.Frag) (c x : Str) (ty : String) (n : Nat) : Addr := match PySem.W.recIn K (prA K c x) ty with
  | some vs => (match vs[n]? with
    | some (.ref g) => g
    | _ => 0)
  | none => 0
/-- a function at an address: its written part -/
def fnAt (K : PySem.W.Frag) (a : Addr) : He.FnW := match K.lookup a with
  | some ⟨_, _, .func fd, _⟩ => some (fd.name, fd.qualname, fd.params, fd.body, fd.scope, fd.globals, fd.closure, fd.builtins)
  | _ => none
def fnOkAt (K : PySem.W.Frag) (a : Addr) (qual : Str) : Bool := match K.lookup a with
  | some ⟨_, _, .func fd, _⟩ => PySem.W.keepIn K (.ref a) && (PySem.W.codeIn K fd.code qual && (decide (fd.defaults = .none) && decide (fd.kwdefaults = .none)))
  | _ => false
theorem fun_at {K : PySem.W.Frag} {a : Addr} {d : PrD} (e : fnAt K a = some (d.name, d.qual, d.params, .stmts d.body, d.scope, mainGlobals, [], builtinsNs)) (c : fnOkAt K a d.qual = true) : ∃ fd, FunD K d.name d.qual d.params d.body d.scope [] [] a fd := by
  unfold fnOkAt at c
  unfold fnAt at e
  split at c
  · rename_i oc od fd osl lk
    rw [lk] at e
    obtain ⟨kp, c⟩ := He.ba c
    obtain ⟨k1, c⟩ := He.ba c
    obtain ⟨k2, k3⟩ := He.ba c
    obtain ⟨n1, n2, n3, n4, n5, n6, n7, n8, n9, n10, n11, n12, n13, n14, n15⟩ := fd
    simp only [Option.some.injEq, Prod.mk.injEq] at e
    obtain ⟨h1, h2, h3, h4, h5, h6, h7, h8⟩ := e
    subst h1 h2 h3 h4 h5 h6 h7 h8
    have q2 : n8 = .none := of_decide_eq_true k2
    have q3 : n9 = .none := of_decide_eq_true k3
    subst q2 q3
    exact ⟨_, ⟨oc, od, _, _, n10, n11, n12, n13, n14, osl, rfl, lk, k1, .inl ⟨rfl, rfl⟩, .inl rfl⟩, kp⟩
  · cases c
def prB (K : PySem.W.Frag) (p : PrD) : Bool :=
  decide (PySem.W.findIn K (.ref (He.ga K p.c)) p.x = some (some (.ref (prA K p.c p.x)))) && ((match PySem.W.recIn K (prA K p.c p.x) p.ty with
    | some vs => decide (vs[p.n]? = some (.ref (pgA K p.c p.x p.ty p.n)))
    | none => false) && fnOkAt K (pgA K p.c p.x p.ty p.n) p.qual)
/-- records lead on to their defs, and to those defs' codes -/
def isRecO (o : Obj) : Bool := match o.cls with
  | .type t => decide (t = "property") || (decide (t = "staticmethod") || decide (t = "classmethod"))
  | _ => false
/-- what is followed: a def's code and defaults, a class's own names, a dict's values, a record's defs -/
def nextO (o : Obj) : List Addr := match o.data with
  | .func fd => He.refV fd.code ++ He.refV fd.defaults ++ He.refV fd.kwdefaults
  | .cls cd => [cd.ns]
  | .dict es _ => es.toList.flatMap fun e => He.refV e.val
  | .fields vs => if isRecO o then vs.toList.flatMap He.refV else []
  | _ => []
def nextA (g : Addr → Option Obj) (as : List Addr) : List Addr := as.flatMap fun a => match g a with
  | some o => nextO o
  | none => []
def asP (g : Addr → Option Obj) : Nat → List Addr → List Addr
  | 0, as => as
  | n + 1, as => as ++ asP g n (nextA g as)
abbrev AlP : Type := He.AlT × Bool × List He.FnW
def frP (g : Addr → Option Obj) (n : Nat) : PySem.W.Frag := He.frT g (cStatics :: asP g n [mainGlobals])
def obsPK (fa : List He.Fa) (fn : List He.DefD) (tf : List He.Defn) (ex : PySem.W.Frag → Bool) (ps : List PrD) (g : Addr → Option Obj) (K : PySem.W.Frag) : AlP :=
  (He.obsT fa fn [] K, (ex K && ((ps.all fun p => prB K p) && He.tabsB g tf K)), ps.map fun p => fnAt K (pgA K p.c p.x p.ty p.n))
def obsP (n : Nat) (fa : List He.Fa) (fn : List He.DefD) (tf : List He.Defn) (ex : PySem.W.Frag → Bool) (ps : List PrD) (g : Addr → Option Obj) : AlP := obsPK fa fn tf ex ps g (frP g n)
def PrD.val (d : PrD) : He.FnW := some (d.name, d.qual, d.params, .stmts d.body, d.scope, mainGlobals, [], builtinsNs)
def valP (fn : List He.DefD) (ps : List PrD) (w : World) : AlP := (He.valT fn [] w, true, ps.map PrD.val)
structure SaysP (fa : List He.Fa) (fn : List He.DefD) (tf : List He.Defn) (ex : PySem.W.Frag → Bool) (ps : List PrD) (w : World) (h : Heap) (K : PySem.W.Frag) : Prop where
  x : He.SaysX fa fn [] tf ex w h K
  recs : ∀ p ∈ ps, ∃ fd, FunD K p.name p.qual p.params p.body p.scope [] [] (pgA K p.c p.x p.ty p.n) fd
theorem saysP_of {n : Nat} {fa : List He.Fa} {fn : List He.DefD} {tf : List He.Defn} {ex : PySem.W.Frag → Bool} {ps : List PrD} {w : World} {h : Heap} (e : obsP n fa fn tf ex ps h.get? = valP fn ps w) : SaysP fa fn tf ex ps w h (frP h.get? n) := by
  have e1 : He.obsT fa fn [] (frP h.get? n) = He.valT fn [] w := congrArg (fun z : AlP => z.1) e
  have e2 : (ex (frP h.get? n) && ((ps.all fun p => prB (frP h.get? n) p) && He.tabsB h.get? tf (frP h.get? n))) = true := congrArg (fun z : AlP => z.2.1) e
  have e3 : (ps.map fun p => fnAt (frP h.get? n) (pgA (frP h.get? n) p.c p.x p.ty p.n)) = ps.map PrD.val := congrArg (fun z : AlP => z.2.2) e
  obtain ⟨h1, h2⟩ := He.ba e2
  obtain ⟨h2, h3⟩ := He.ba h2
  have key : ∀ p ∈ tf, PySem.W.codeHdIn (frP h.get? n) (He.cT (frP h.get? n) p).1 (He.cT (frP h.get? n) p).2 = true ∧ ∃ o, h.get? (He.cT (frP h.get? n) p).2 = some o ∧ He.emptyTab o = true := fun p hp => by
    obtain ⟨h4, h5⟩ := He.ba (List.all_eq_true.mp h3 p hp)
    split at h5
    · rename_i o q; exact ⟨h4, o, q, h5⟩
    · cases h5
  refine ⟨⟨e1, h1, fun p hp => (key p hp).1, fun p hp => ?_, fun p hp => ?_⟩, fun p hp => ?_⟩
  · obtain ⟨_, o, q, z⟩ := key p hp
    exact He.frT_none q z
  · obtain ⟨_, o, q, z⟩ := key p hp
    rw [q, He.emptyTab_eq z]
  · have h4 := List.all_eq_true.mp h2 p hp
    obtain ⟨_, h4⟩ := He.ba h4
    obtain ⟨_, h4⟩ := He.ba h4
    refine fun_at (d := p) ?_ h4
    exact List.map_inj_left.mp e3 p hp
def hookP (n : Nat) (fa : List He.Fa) (fn : List He.DefD) (tf : List He.Defn) (ex : PySem.W.Frag → Bool) (ps : List PrD) : PySem.W.Hook where
  α := AlP
  obs := fun s => obsP n fa fn tf ex ps s.heap.get?
  val := fun w => valP fn ps w
  says := fun w h => ∃ K : PySem.W.Frag, K.In h ∧ SaysP fa fn tf ex ps w h K
  of := fun _ _ e => ⟨_, He.frT_in, saysP_of e⟩
  keeps := fun _ _ _ ⟨K, hK, c⟩ k => ⟨K, PySem.W.Frag.In.keeps hK k, ⟨⟨c.x.t, c.x.more, c.x.hd, c.x.out, fun p hp => k _ _ (c.x.empty p hp)⟩, c.recs⟩⟩
theorem obsP_eq {n : Nat} {fa : List He.Fa} {fn : List He.DefD} {tf : List He.Defn} {ex : PySem.W.Frag → Bool} {ps : List PrD} {g : Addr → Option Obj} {s : Shared} (h : ∀ a, g a = s.heap.get? a) : obsP n fa fn tf ex ps g = (hookP n fa fn tf ex ps).obs s := by
  have e : g = s.heap.get? := funext h
  rw [e] <;> rfl
end Mn

set_option Elab.async false
set_option linter.all false
set_option maxRecDepth 100000
set_option maxHeartbeats 4000000
set_option autoImplicit false
namespace Mn
open PySem PySem.Spec PyProof.Rows L2
/-! what the head looks at, for operators, ==, isinstance, class methods -/
def eqB (K : PySem.W.Frag) (C : Addr) : Bool := decide (PySem.W.findIn K (.ref C) "__ne__" = some (some (.builtin "object.__ne__"))) && decide (PySem.W.mroIn K C (.type "object") = some true)
def clsB (K : PySem.W.Frag) (C : Addr) : Bool := (PySem.W.clsIn K C).isSome && PySem.W.typeIn K (.ref C) == some (.type "type")
def kitB2 (K : PySem.W.Frag) (C' C : Addr) (b : Bool) : Bool := decide (PySem.W.kitOne K (.ref C') (.ref C) = some b)
end Mn

set_option linter.all false
set_option autoImplicit false
namespace Mn
open PySem
/-- the class stands below none of the built-in types -/
def notB (K : PySem.W.Frag) (C : Addr) : Bool := ["NoneType", "bool", "int", "str", "tuple", "list", "dict"].all fun T => decide (PySem.W.mroIn K C (.type T) = some false)
end Mn

set_option Elab.async false
set_option linter.all false
set_option maxHeartbeats 4000000
set_option autoImplicit false
set_option maxRecDepth 100000
namespace Mn
open PySem PySem.Spec PyProof.Rows L2
namespace C.V49
def topS (i : Nat) : Stmt := PySem.Challenge.pw_rolluplevels_k49_cells_in_cubes_and_equa.main.body.getD i (.Pass ⟨0, 0, 0, 0⟩)
abbrev st_law_cell : Stmt := topS 59
abbrev st_law_draws : Stmt := topS 60
abbrev st_law_attribute : Stmt := topS 62
abbrev st_law_scheme : Stmt := topS 63
abbrev st_law_below : Stmt := topS 64
abbrev st_law_fine_cells : Stmt := topS 65
abbrev st_law_table : Stmt := topS 66
abbrev st_product_of : Stmt := topS 29
abbrev st_groups_at : Stmt := topS 32
abbrev st_sizes_at : Stmt := topS 35
abbrev st_size_of : Stmt := topS 37
abbrev st_is_integer : Stmt := topS 25
abbrev st_are_amounts : Stmt := topS 45
abbrev st_finest : Stmt := topS 38
abbrev st_is_table_of : Stmt := topS 46
abbrev st_need_table : Stmt := topS 49
abbrev st_Cube_change : Stmt := inClass (topS 57) 8
abbrev st_Cube_assign_table : Stmt := inClass (topS 57) 9
abbrev st_is_between : Stmt := topS 26
abbrev st_is_cell : Stmt := topS 39
abbrev st_need_cell : Stmt := topS 43
abbrev st_need_amount : Stmt := topS 53
abbrev st_with_more : Stmt := topS 56
abbrev st_tuples_below : Stmt := topS 34
abbrev st_cells_of : Stmt := topS 36
abbrev st_place_in : Stmt := topS 54
abbrev st_Cube_put : Stmt := inClass (topS 57) 10
abbrev st_groups_behind : Stmt := topS 27
abbrev st_is_attribute : Stmt := topS 28
abbrev st_is_scheme : Stmt := topS 30
abbrev st_need_scheme : Stmt := topS 41
abbrev st_no_table : Stmt := topS 55
abbrev st_Cube_init : Stmt := inClass (topS 57) 0
abbrev st_law_no_cells : Stmt := topS 67
abbrev st_law_is_same : Stmt := topS 61
abbrev st_Cube_contains : Stmt := inClass (topS 57) 18
abbrev st_law_is_in : Stmt := topS 69
abbrev st_Cube_eq : Stmt := inClass (topS 57) 22
abbrev st_Cube_repr : Stmt := inClass (topS 57) 23
abbrev st_law_said : Stmt := topS 68
abbrev st_is_rollup : Stmt := topS 31
abbrev st_need_rollup : Stmt := topS 42
abbrev st_group_above : Stmt := topS 33
abbrev st_cell_above : Stmt := topS 40
abbrev st_rolled_of : Stmt := topS 47
abbrev st_sums_of : Stmt := topS 48
abbrev st_Cube_getitem : Stmt := inClass (topS 57) 21
abbrev st_law : Stmt := topS 70
def loose0 : List PySem.Str := ["_wall", "LevelsError", "SchemeError", "RollupError", "CellError", "OrderError", "TableError", "SumsError", "StoredError", "ReportError", "NumberError", "AmountError", "CubeError", "MatchError", "PlaceError", "TextError", "NothingDone", "Unknown", "LimitError", "MOST_ATTRIBUTES"]
def loose1 : List PySem.Str := ["MOST_VALUES", "MOST_STEPS", "MOST_CELLS", "is_integer", "is_between", "groups_behind", "is_attribute", "product_of", "is_scheme", "is_rollup", "groups_at", "group_above", "tuples_below", "sizes_at", "cells_of", "size_of", "finest", "is_cell", "cell_above", "need_scheme"]
def loose2 : List PySem.Str := ["need_rollup", "need_cell", "are_amounts", "is_table_of", "rolled_of", "sums_of", "need_table", "MOST_AMOUNT", "MOST_TIMES", "need_amount", "place_in", "no_table", "with_more", "Cube", "_law_cell", "_law_draws", "_law_is_same", "_law_attribute", "_law_scheme", "_law_below"]
def loose3 : List PySem.Str := ["_law_fine_cells", "_law_table", "_law_no_cells", "_law_said", "_law_is_in"]
def looseN : List PySem.Str := loose0 ++ loose1 ++ loose2 ++ loose3
def dd_law_cell : He.DefD := ddOf "_law_cell" st_law_cell
def dd_law_draws : He.DefD := ddOf "_law_draws" st_law_draws
def dd_law_attribute : He.DefD := ddOf "_law_attribute" st_law_attribute
def dd_law_scheme : He.DefD := ddOf "_law_scheme" st_law_scheme
def dd_law_below : He.DefD := ddOf "_law_below" st_law_below
def dd_law_fine_cells : He.DefD := ddOf "_law_fine_cells" st_law_fine_cells
def dd_law_table : He.DefD := ddOf "_law_table" st_law_table
def dd_product_of : He.DefD := ddOf "product_of" st_product_of
def dd_groups_at : He.DefD := ddOf "groups_at" st_groups_at
def dd_sizes_at : He.DefD := ddOf "sizes_at" st_sizes_at
def dd_size_of : He.DefD := ddOf "size_of" st_size_of
def dd_is_integer : He.DefD := ddOf "is_integer" st_is_integer
def dd_are_amounts : He.DefD := ddOf "are_amounts" st_are_amounts
def dd_finest : He.DefD := ddOf "finest" st_finest
def dd_is_table_of : He.DefD := ddOf "is_table_of" st_is_table_of
def dd_need_table : He.DefD := ddOf "need_table" st_need_table
def dd_Cube_change : He.DefD := ddM "Cube" "change" st_Cube_change
def dd_Cube_assign_table : He.DefD := ddM "Cube" "assign_table" st_Cube_assign_table
def dd_is_between : He.DefD := ddOf "is_between" st_is_between
def dd_is_cell : He.DefD := ddOf "is_cell" st_is_cell
def dd_need_cell : He.DefD := ddOf "need_cell" st_need_cell
def dd_need_amount : He.DefD := ddOf "need_amount" st_need_amount
def dd_with_more : He.DefD := ddOf "with_more" st_with_more
def dd_tuples_below : He.DefD := ddOf "tuples_below" st_tuples_below
def dd_cells_of : He.DefD := ddOf "cells_of" st_cells_of
def dd_place_in : He.DefD := ddOf "place_in" st_place_in
def dd_Cube_put : He.DefD := ddM "Cube" "put" st_Cube_put
def dd_groups_behind : He.DefD := ddOf "groups_behind" st_groups_behind
def dd_is_attribute : He.DefD := ddOf "is_attribute" st_is_attribute
def dd_is_scheme : He.DefD := ddOf "is_scheme" st_is_scheme
def dd_need_scheme : He.DefD := ddOf "need_scheme" st_need_scheme
def dd_no_table : He.DefD := ddOf "no_table" st_no_table
def dd_Cube_init : He.DefD := ddMD "Cube" "__init__" st_Cube_init [.non]
def dd_law_no_cells : He.DefD := ddOf "_law_no_cells" st_law_no_cells
def dd_law_is_same : He.DefD := ddOf "_law_is_same" st_law_is_same
def dd_Cube_contains : He.DefD := ddM "Cube" "__contains__" st_Cube_contains
def dd_law_is_in : He.DefD := ddOf "_law_is_in" st_law_is_in
def dd_Cube_eq : He.DefD := ddM "Cube" "__eq__" st_Cube_eq
def dd_Cube_repr : He.DefD := ddM "Cube" "__repr__" st_Cube_repr
def dd_law_said : He.DefD := ddOf "_law_said" st_law_said
def dd_is_rollup : He.DefD := ddOf "is_rollup" st_is_rollup
def dd_need_rollup : He.DefD := ddOf "need_rollup" st_need_rollup
def dd_group_above : He.DefD := ddOf "group_above" st_group_above
def dd_cell_above : He.DefD := ddOf "cell_above" st_cell_above
def dd_rolled_of : He.DefD := ddOf "rolled_of" st_rolled_of
def dd_sums_of : He.DefD := ddOf "sums_of" st_sums_of
def dd_Cube_getitem : He.DefD := ddM "Cube" "__getitem__" st_Cube_getitem
def dd_law : He.DefD := ddOf "law" st_law
def fn0 : List He.DefD := [dd_law_cell, dd_law_draws, dd_law_attribute, dd_law_scheme, dd_law_below, dd_law_fine_cells, dd_law_table, dd_product_of, dd_groups_at, dd_sizes_at, dd_size_of, dd_is_integer, dd_are_amounts, dd_finest, dd_is_table_of, dd_need_table, dd_Cube_change, dd_Cube_assign_table, dd_is_between, dd_is_cell, dd_need_cell, dd_need_amount, dd_with_more, dd_tuples_below, dd_cells_of, dd_place_in, dd_Cube_put, dd_groups_behind, dd_is_attribute, dd_is_scheme]
def fn1 : List He.DefD := [dd_need_scheme, dd_no_table, dd_Cube_init, dd_law_no_cells, dd_law_is_same, dd_Cube_contains, dd_law_is_in, dd_Cube_eq, dd_Cube_repr, dd_law_said, dd_is_rollup, dd_need_rollup, dd_group_above, dd_cell_above, dd_rolled_of, dd_sums_of, dd_Cube_getitem, dd_law]
def fnN : List He.DefD := fn0 ++ fn1
def fa0 : List He.Fa := [.glo "_law_cell", .glo "_law_draws", .glo "_law_attribute", .glo "_law_scheme", .glo "_law_below", .glo "_law_fine_cells", .glo "_law_table", .glo "product_of", .glo "groups_at", .glo "sizes_at", .glo "size_of", .glo "is_integer", .glo "are_amounts", .glo "finest", .glo "is_table_of", .glo "need_table", .meth "Cube" "change", .meth "Cube" "assign_table", .glo "is_between", .glo "is_cell", .glo "need_cell", .glo "need_amount", .glo "with_more", .glo "tuples_below", .glo "cells_of", .glo "place_in", .meth "Cube" "put", .glo "groups_behind", .glo "is_attribute", .glo "is_scheme"]
def fa1 : List He.Fa := [.glo "need_scheme", .glo "no_table", .mkr "Cube", .glo "_law_no_cells", .glo "_law_is_same", .meth "Cube" "__contains__", .glo "_law_is_in", .meth "Cube" "__eq__", .meth "Cube" "__repr__", .glo "_law_said", .glo "is_rollup", .glo "need_rollup", .glo "group_above", .glo "cell_above", .glo "rolled_of", .glo "sums_of", .meth "Cube" "__getitem__", .glo "law", .int "MOST_ATTRIBUTES" 3, .int "MOST_VALUES" 6, .int "MOST_STEPS" 3, .int "MOST_CELLS" 60, .int "MOST_AMOUNT" 1000000, .glo "TableError", .exc "TableError", .exm "TableError" "TableError" true, .glo "CellError", .exc "CellError", .exm "CellError" "CellError" true, .glo "AmountError"]
def fa2 : List He.Fa := [.exc "AmountError", .exm "AmountError" "AmountError" true, .glo "SchemeError", .exc "SchemeError", .exm "SchemeError" "SchemeError" true, .glo "RollupError", .exc "RollupError", .exm "RollupError" "RollupError" true, .glo "Cube", .cls "Cube", .noat "Cube" "own_scheme", .noat "Cube" "kept", .noat "Cube" "past"]
def faN : List He.Fa := (fa0 ++ fa1 ++ fa2) ++ btNames.map fun x => He.Fa.free (Str.ofString x)
abbrev RR : PySem.W.OpenRow := PySem.W.OpenLaw.row PySem.Challenge.rw_rolluplevels_k49_cells_in_cubes_and_equa
def tfN : List He.Defn := [("law", none)]
def prN : List PrD := []
def exN (K : PySem.W.Frag) : Bool := (insB K (He.ga K "Cube") && (eqB K (He.ga K "Cube") && (clsB K (He.ga K "Cube") && (kitB2 K (He.ga K "Cube") (He.ga K "Cube") true && (notB K (He.ga K "Cube") && (saidB K && apartB tfN K))))))
abbrev hk : PySem.W.Hook := hookP 6 faN fnN tfN exN prN
def obN (s : PySem.W.SharedT) : AlP := obsP 6 faN fnN tfN exN prN (HandSHeadRun.getT s)
theorem ob_eq (s : PySem.W.SharedT) : obN s = hk.obs s.abs := obsP_eq (HandSHeadRun.getT_eq s)
set_option maxHeartbeats 0 in
theorem runN (w : World) : HandSHeadRun.RunEq RR (PySem.W.view RR.prog [70]) hk obN 20000 looseN w := by
  intro os
  kernel_rfl
end C.V49
end Mn

set_option Elab.async false
set_option linter.all false
set_option maxRecDepth 100000
set_option maxHeartbeats 4000000
set_option autoImplicit false
namespace Mn
open PySem PySem.Spec PyProof.Rows L2

/-! data without addresses; mutable things by their place -/
inductive D where
  | non
  | bl (b : Bool)
  | int (i : Int)
  | str (x : Str)
  | tup (ds : List D)
  | lst (ds : List D)
  | scr (ds : List D)
  | ref (a : Addr)
  /-- a tuple that zip or enumerate made: unpacked, or read by its place -/
  | pair (ds : List D)
  /-- a dict whose keys are tuples, and that is never changed -/
  | dct (ks : List NestedKey) (ds : List D)
inductive MO where
  | lst (ds : List D)
  /-- a dict whose keys are tuples -/
  | dN (kvs : List (NestedKey × D))
  /-- an empty dict that stays so -/
  | dE
  /-- an instance of the class of this name; its own dict's place; its fields -/
  | ins (c : Str) (dx : Addr) (fs : List (Str × D))
  /-- the own dict of the instance at a -/
  | own (a : Addr)
/-- the tables of code objects that the law's lambdas are kept in, with the lambdas' names -/
class Tbs where
  T : List (Addr × Str)
/-- the written part, the world, the tables -/
structure KF where
  fr : PySem.W.Frag
  wd : World
  tabs : List (Addr × Str)
instance : Coe KF PySem.W.Frag := ⟨KF.fr⟩
variable [Tbs]
abbrev _root_.L2.Cx.kf (X : Cx) : KF := ⟨X.K, X.w, Tbs.T⟩
/-- the class of a name -/
def KF.cls (K : KF) (c : Str) (C : Addr) : Prop := PySem.W.nsIn K.fr mainGlobals c = some (some (.ref C))
/-- a plain tuple, known to its object -/
def TpG (G : Hp) (a : Addr) (vs : List V) : Prop := ∃ o : Obj, o.dict = none ∧ G a = some (.frz o (.tup vs))
theorem TpG.same {G G' : Hp} (e : Same G G') {a : Addr} {vs : List V} (h : TpG G a vs) : TpG G' a vs := let ⟨o, d, q⟩ := h; ⟨o, d, e _ _ q⟩
theorem TpG.sq {G H : Hp} {a : Addr} {vs : List V} (h : TpG G a vs) (e : Same G H) (K : PySem.W.Frag) : SqT K H a vs := let ⟨o, _, q⟩ := h; .inl (.inr ⟨o, e _ _ q⟩)
abbrev Mu := Addr → Option MO
def up (m : Mu) (a : Addr) (o : MO) : Mu := fun b => if b = a then some o else m b
theorem up_same {m : Mu} {a : Addr} {o : MO} : up m a o a = some o := by unfold up; rw [if_pos rfl]
theorem up_ne {m : Mu} {a b : Addr} {o : MO} (h : b ≠ a) : up m a o b = m b := by unfold up; rw [if_neg h]
theorem up_up {m : Mu} {a : Addr} {o u : MO} : up (up m a o) a u = up m a u := by
  funext b; unfold up; split <;> rfl
/-- a place forgotten -/
def er (m : Mu) (a : Addr) : Mu := fun b => if b = a then none else m b
theorem er_same {m : Mu} {a : Addr} : er m a a = none := by unfold er; rw [if_pos rfl]
theorem er_ne {m : Mu} {a b : Addr} (h : b ≠ a) : er m a b = m b := by unfold er; rw [if_neg h]
theorem er_up {m : Mu} {a : Addr} {o : MO} (h : m a = none) : er (up m a o) a = m := by
  funext b; unfold er up
  by_cases e : b = a
  · rw [if_pos e, e, h]
  · rw [if_neg e, if_neg e]

mutual
/-- a key as data -/
def keyD : NestedKey → D
  | .none => .non
  | .num i => .int i
  | .text x => .str x
  | .tup ks => .tup (keyDs ks)
def keyDs : List NestedKey → List D
  | [] => []
  | k :: ks => keyD k :: keyDs ks
end
def entN (wd : World) (x : NestedKey × Addr × Value) : DictEntry := ⟨x.1.hash wd, .ref x.2.1, x.2.2⟩
/-- the dict at a has these entries -/
def dictAt (wd : World) (a : Addr) (xs : List (NestedKey × Addr × V)) (h : Heap) : Prop := ∃ vs : List (NestedKey × Addr × Value), Paired (fun (p : NestedKey × Addr × V) (q : NestedKey × Addr × Value) => p.1 = q.1 ∧ p.2.1 = q.2.1 ∧ RelV p.2.2 q.2.2) xs vs ∧
  ∃ o es ep, h.get? a = some o ∧ o.ExactDict ∧ o.data = .dict es ep ∧ es.toList = vs.map (entN wd)
mutual
inductive Rp (K : KF) (G : Hp) : D → V → Prop
  | non : Rp K G .non .non
  | bl (b : Bool) : Rp K G (.bl b) (.bl b)
  | int (i : Int) : Rp K G (.int i) (.int i)
  | str (x : Str) : Rp K G (.str x) (.str x)
  | tup {a : Addr} {ds : List D} {vs : List V} : TpG G a vs → RpL K G ds vs → ds.length ≤ sizeLine → Rp K G (.tup ds) (.ref a)
  | pair {a : Addr} {ds : List D} {vs : List V} : G a = some (.tup vs) → RpL K G ds vs → ds.length ≤ sizeLine → Rp K G (.pair ds) (.ref a)
  | lst {a : Addr} {ds : List D} {vs : List V} : G a = some (.lst vs) → RpL K G ds vs → ds.length ≤ sizeLine → Rp K G (.lst ds) (.ref a)
  | scr {a : Addr} {ds : List D} {vs : List V} : SqL K G a vs → RpL K G ds vs → ds.length ≤ sizeLine → Rp K G (.scr ds) (.ref a)
  | ref (a : Addr) : Rp K G (.ref a) (.ref a)
  | dct {a : Addr} {o : Obj} {ks : List NestedKey} {ds : List D} {xs : List (NestedKey × Addr × V)} : G a = some (.frz o (.ext (dictAt K.wd a xs))) → (a == sysModules) = false → ks = xs.map (·.1) → ks.Nodup → RpL K G ds (xs.map (·.2.2)) → RpL K G (ks.map keyD) (xs.map fun x => V.ref x.2.1) → (∀ k ∈ ks, k.depth ≤ 8) → ks.length ≤ sizeLine → Rp K G (.dct ks ds) (.ref a)
inductive RpL (K : KF) (G : Hp) : List D → List V → Prop
  | nil : RpL K G [] []
  | cons {d : D} {v : V} {ds : List D} {vs : List V} : Rp K G d v → RpL K G ds vs → RpL K G (d :: ds) (v :: vs)
end
mutual
theorem Rp.same {K : KF} {G G' : Hp} (e : Same G G') : ∀ {d : D} {v : V}, Rp K G d v → Rp K G' d v
  | _, _, .non => .non
  | _, _, .bl b => .bl b
  | _, _, .int i => .int i
  | _, _, .str x => .str x
  | _, _, .tup h r z => .tup (h.same e) (RpL.same e r) z
  | _, _, .pair h r z => .pair (e _ _ h) (RpL.same e r) z
  | _, _, .lst h r z => .lst (e _ _ h) (RpL.same e r) z
  | _, _, .scr h r z => .scr (e.seq h) (RpL.same e r) z
  | _, _, .ref a => .ref a
  | _, _, .dct h1 h2 h3 h4 h5 h6 h7 h8 => .dct (e _ _ h1) h2 h3 h4 (RpL.same e h5) (RpL.same e h6) h7 h8
theorem RpL.same {K : KF} {G G' : Hp} (e : Same G G') : ∀ {ds : List D} {vs : List V}, RpL K G ds vs → RpL K G' ds vs
  | _, _, .nil => .nil
  | _, _, .cons h r => .cons (Rp.same e h) (RpL.same e r)
end
section
variable {K : KF} {G : Hp}
theorem RpL.len : ∀ {ds : List D} {vs : List V}, RpL K G ds vs → ds.length = vs.length
  | _, _, .nil => rfl
  | _, _, .cons _ r => by rw [List.length_cons, List.length_cons, r.len]
theorem RpL.get : ∀ {ds : List D} {vs : List V} {i : Nat} {d : D}, RpL K G ds vs → ds[i]? = some d → ∃ v, vs[i]? = some v ∧ Rp K G d v
  | _, _, _, _, .nil, e => by simp at e
  | _, _, 0, _, .cons h _, e => by simp at e; subst e; exact ⟨_, rfl, h⟩
  | _, _, i + 1, d, .cons _ r, e => by
    obtain ⟨v, h1, h2⟩ := RpL.get (i := i) (d := d) r (by simpa using e)
    exact ⟨v, by simpa using h1, h2⟩
theorem RpL.app : ∀ {ds es : List D} {vs ws : List V}, RpL K G ds vs → RpL K G es ws → RpL K G (ds ++ es) (vs ++ ws)
  | _, _, _, _, .nil, s => s
  | _, _, _, _, .cons h r, s => .cons h (RpL.app r s)
theorem RpL.take : ∀ {ds : List D} {vs : List V} (n : Nat), RpL K G ds vs → RpL K G (ds.take n) (vs.take n)
  | _, _, 0, _ => by simpa using RpL.nil
  | _, _, _ + 1, .nil => .nil
  | _, _, n + 1, .cons h r => .cons h (RpL.take n r)
theorem RpL.drop : ∀ {ds : List D} {vs : List V} (n : Nat), RpL K G ds vs → RpL K G (ds.drop n) (vs.drop n)
  | _, _, 0, r => r
  | _, _, _ + 1, .nil => .nil
  | _, _, n + 1, .cons h r => RpL.drop n r
theorem RpL.set {d : D} {v : V} (h : Rp K G d v) : ∀ {ds : List D} {vs : List V} (n : Nat), RpL K G ds vs → RpL K G (ds.set n d) (vs.set n v)
  | _, _, _, .nil => .nil
  | _, _, 0, .cons _ r => .cons h r
  | _, _, n + 1, .cons q r => .cons q (RpL.set h n r)
theorem RpL.erase : ∀ {ds : List D} {vs : List V} (n : Nat), RpL K G ds vs → RpL K G (ds.eraseIdx n) (vs.eraseIdx n)
  | _, _, _, .nil => .nil
  | _, _, 0, .cons _ r => r
  | _, _, n + 1, .cons q r => .cons q (RpL.erase n r)
theorem RpL.ints : ∀ {ns : List Int} {vs : List V}, RpL K G (ns.map D.int) vs → vs = ns.map V.int
  | [], _, .nil => rfl
  | n :: ns, _, .cons h r => by cases h; rw [RpL.ints r]; rfl
theorem RpL.bls : ∀ {ns : List Bool} {vs : List V}, RpL K G (ns.map D.bl) vs → vs = ns.map V.bl
  | [], _, .nil => rfl
  | n :: ns, _, .cons h r => by cases h; rw [RpL.bls r]; rfl
theorem RpL.ofInts : ∀ (ns : List Int), RpL K G (ns.map D.int) (ns.map V.int)
  | [] => .nil
  | n :: ns => .cons (.int n) (RpL.ofInts ns)
end

/-- what is known of the class of an instance -/
structure InsC (K : PySem.W.Frag) (C : Addr) : Prop where
  cl : Cls K C
  ha : PySem.W.findIn K (.ref C) "__class__" = some (some (.builtin "object.__class__"))
  hn : PySem.W.specialIn K (.builtin "object.__class__") "__get__" = some (some (.builtin "getset_descriptor.__get__"))
  htk : PySem.W.takesIn K (.builtin "object.__class__") = some true
  hm : PySem.W.mroIn K C (.type "object") = some true
  no : ∀ T ∈ ["bool", "int", "str", "tuple", "list", "dict"], PySem.W.kitOne K (.ref C) (.type T) = some false
/-- what a mutable thing is in the abstract heap -/
def RpM (K : KF) (G : Hp) (a : Addr) : MO → HO → Prop
  | .lst ds, o => ∃ vs, o = .lst vs ∧ RpL K G ds vs ∧ ds.length ≤ sizeLine
  | .dN kvs, o => ∃ xs : List (NestedKey × Addr × V), o = .ext (dictAt K.wd a xs) ∧ (a == sysModules) = false ∧ (xs.map (·.1)).Nodup ∧ kvs.map (·.1) = xs.map (·.1) ∧ RpL K G (kvs.map (·.2)) (xs.map (·.2.2)) ∧
      (∀ x ∈ xs, Rp K G (keyD x.1) (.ref x.2.1) ∧ x.1.depth ≤ 8) ∧ kvs.length ≤ sizeLine
  | .dE, o => o = .dT []
  | .ins c dx fs, o => ∃ C vs, K.cls c C ∧ InsC K C ∧ o = .ins C dx ((fs.map (·.1)).zip vs) ∧ RpL K G (fs.map (·.2)) vs
  | .own y, o => o = .own y
theorem RpM.same {K : KF} {G G' : Hp} (e : Same G G') {a : Addr} {m : MO} {o : HO} (h : RpM K G a m o) : RpM K G' a m o := by
  cases m with
  | lst ds => obtain ⟨vs, e1, r, z⟩ := h; exact ⟨vs, e1, r.same e, z⟩
  | dN kvs => obtain ⟨xs, e1, sm, nd, k, r, ky, z⟩ := h; exact ⟨xs, e1, sm, nd, k, r.same e, fun x hx => ⟨(ky x hx).1.same e, (ky x hx).2⟩, z⟩
  | dE => exact h
  | ins c dx fs => obtain ⟨C, vs, e1, e0, e2, r⟩ := h; exact ⟨C, vs, e1, e0, e2, r.same e⟩
  | own y => exact h

/-- the table at P tells code objects of the name q, which nothing else holds -/
def TbAt (H : Hp) (m : Mu) (P : Addr) (q : Str) : Prop := ∃ ps : Array Value, H P = some (.tbl ps) ∧ TriplesOk ps.toList ∧ ∀ (pos : Pos) (cv : Value), codeAmong pos ps.toList = some cv → ∃ c, cv = .ref c ∧ H c = some (LamX.CodeO c q) ∧ m c = none
/-- G: what never changes; m: what may; both stand in H -/
structure Rl (K : KF) (G H : Hp) (m : Mu) : Prop where
  sub : Same G H
  mu : ∀ a o, m a = some o → G a = none ∧ ∃ u, H a = some u ∧ RpM K G a o u
  tab : ∀ t ∈ K.tabs, G t.1 = none ∧ m t.1 = none ∧ TbAt H m t.1 t.2
  nt : ∀ a ps, G a ≠ some (.tbl ps)
  tt : ∀ a ps, H a = some (.tbl ps) → ∃ q, (a, q) ∈ K.tabs
theorem RpM.nt {K : KF} {G : Hp} {a : Addr} {m : MO} {o : HO} (h : RpM K G a m o) (ps : Array Value) : o ≠ .tbl ps := by
  cases m with
  | lst ds => obtain ⟨vs, e1, _⟩ := h; subst e1; intro z; cases z
  | dN kvs => obtain ⟨xs, e1, _⟩ := h; subst e1; intro z; cases z
  | dE => have e : o = .dT [] := h; subst e; intro z; cases z
  | ins c dx fs => obtain ⟨C, vs, _, _, e2, _⟩ := h; subst e2; intro z; cases z
  | own y => have e : o = .own y := h; subst e; intro z; cases z
theorem Rl.ttU {K : KF} {G H : Hp} {m : Mu} (r : Rl K G H m) {p : Addr} {o : HO} (hn : ∀ ps, o ≠ .tbl ps) (a : Addr) (ps : Array Value) (e : upd H p o a = some (.tbl ps)) : ∃ q, (a, q) ∈ K.tabs := by
  by_cases ha : a = p
  · subst ha; rw [upd_same] at e; exact absurd (Option.some.inj e) (hn ps)
  · rw [upd_ne ha] at e; exact r.tt a ps e
theorem Rl.free {K : KF} {G H : Hp} {m : Mu} (r : Rl K G H m) {p : Addr} (h : H p = none) : G p = none ∧ m p = none := by
  constructor
  · exact r.sub.free h
  · cases e : m p with
    | none => rfl
    | some o => obtain ⟨_, u, q, _⟩ := r.mu p o e; rw [h] at q; cases q
structure Stp (G H : Hp) (m : Mu) (G' H' : Hp) (m' : Mu) : Prop where
  g : Same G G'
  fr : ∀ b o, H b = some o → G b = none → m b = none → (∀ ps, o ≠ .tbl ps) → H' b = some o ∧ G' b = none ∧ m' b = none
  up : ∀ b o, H b = some o → ∃ o', H' b = some o'
theorem Stp.refl {G H : Hp} {m : Mu} : Stp G H m G H m := ⟨Same.refl _, fun b o h g m _ => ⟨h, g, m⟩, fun b o h => ⟨o, h⟩⟩
theorem Stp.trans {G H G1 H1 G2 H2 : Hp} {m m1 m2 : Mu} (a : Stp G H m G1 H1 m1) (b : Stp G1 H1 m1 G2 H2 m2) : Stp G H m G2 H2 m2 :=
  ⟨a.g.trans b.g, fun c o h g q n => let ⟨h1, g1, q1⟩ := a.fr c o h g q n; b.fr c o h1 g1 q1 n, fun c o h => let ⟨o1, h1⟩ := a.up c o h; b.up c o1 h1⟩
theorem Stp.free {G H G' H' : Hp} {m m' : Mu} (s : Stp G H m G' H' m') {p : Addr} (h : H' p = none) : H p = none := by
  cases e : H p with
  | none => rfl
  | some o => obtain ⟨o', q⟩ := s.up p o e; rw [h] at q; cases q

/-! slots -/
abbrev Ro := List (Option D)
structure RpS (K : KF) (G : Hp) (r : Ro) (s : L2.St) : Prop where
  len : r.length = s.length
  get : ∀ (i : Nat) (d : D), r[i]? = some (some d) → ∃ v, s[i]? = some (some v) ∧ Rp K G d v
theorem RpS.same {K : KF} {G G' : Hp} (e : Same G G') {r : Ro} {s : L2.St} (h : RpS K G r s) : RpS K G' r s :=
  ⟨h.len, fun i d q => let ⟨v, a, b⟩ := h.get i d q; ⟨v, a, b.same e⟩⟩
theorem RpS.set {K : KF} {G : Hp} {r : Ro} {s : L2.St} {d : D} {v : V} (h : RpS K G r s) (q : Rp K G d v) (i : Nat) : RpS K G (r.set i (some d)) (s.set i (some v)) := by
  refine ⟨by rw [List.length_set, List.length_set, h.len], fun j e hj => ?_⟩
  by_cases hi : i = j
  · subst hi
    by_cases hl : i < r.length
    · rw [List.getElem?_set_self hl] at hj
      cases hj
      exact ⟨v, by rw [List.getElem?_set_self (by rw [← h.len]; exact hl)], q⟩
    · rw [List.getElem?_eq_none (by rw [List.length_set]; omega)] at hj; cases hj
  · rw [List.getElem?_set_ne hi] at hj ⊢
    exact h.get j e hj
theorem RpS.forget {K : KF} {G : Hp} {r : Ro} {s : L2.St} (h : RpS K G r s) (i : Nat) (x : Option V) : RpS K G (r.set i none) (s.set i x) := by
  refine ⟨by rw [List.length_set, List.length_set, h.len], fun j e hj => ?_⟩
  by_cases hi : i = j
  · subst hi
    by_cases hl : i < r.length
    · rw [List.getElem?_set_self hl] at hj; cases hj
    · rw [List.getElem?_eq_none (by rw [List.length_set]; omega)] at hj; cases hj
  · rw [List.getElem?_set_ne hi] at hj ⊢
    exact h.get j e hj

/-! readings over data -/
abbrev DK := D → Mu → Prop
abbrev DT := Ro → Mu → DK → Prop
abbrev DB := Ro → Mu → (Bool → Mu → Prop) → Prop
abbrev DA := Ro → Mu → (List D → Mu → Prop) → Prop
/-- an exception: its class, its fields -/
structure XD where
  c : Str
  fs : List (Str × D)
structure DE where
  nx : Ro → Mu → Prop
  rt : DK
  bk : Ro → Mu → Prop := fun _ _ => False
  ct : Ro → Mu → Prop := fun _ _ => False
  ex : XD → Mu → Prop := fun _ _ => False
abbrev DS := DE → Ro → Mu → Prop

/-- the wish at the heap's level, from one over data -/
def WV (K : KF) (G H : Hp) (m : Mu) (Q : DK) (Qv : VK) : Prop :=
  ∀ v H' G' m' d, Stp G H m G' H' m' → Rl K G' H' m' → Rp K G' d v → Q d m' → Qv v H'
def lf (K : KF) (t : DT) : TE := fun s H Qv => ∃ G r m Q, RpS K G r s ∧ Rl K G H m ∧ t r m Q ∧ WV K G H m Q Qv
def lfB (K : KF) (t : DB) : TT := fun s H Qv => ∃ G r m Q, RpS K G r s ∧ Rl K G H m ∧ t r m Q ∧
  ∀ b H' G' m', Stp G H m G' H' m' → Rl K G' H' m' → Q b m' → Qv b H'
def lfA (K : KF) (t : DA) : TA := fun s H Qv => ∃ G r m Q, RpS K G r s ∧ Rl K G H m ∧ t r m Q ∧
  ∀ vs H' G' m' ds, Stp G H m G' H' m' → Rl K G' H' m' → RpL K G' ds vs → Q ds m' → Qv vs H'
def RX (K : KF) (x : XD) (cls : Value) (d : Option Addr) : Prop := ∃ C, cls = .ref C ∧ K.cls x.c C ∧ x.fs = [] ∧ d = none
/-- what a context takes -/
def _root_.L2.Cx.wx (X : Cx) : WX := fun cls d σ H => ∀ u s', L2.XE X (fun c' d' σ' H' => c' = cls ∧ d' = d ∧ σ' = σ ∧ H' = H) u s' → X.xe u s'
theorem takes_wx (X : Cx) : L2.Takes X X.wx := fun u s' ⟨a, B, sI, pins, σ, H, cls, d, e, I, nb, up, sky, na, os, ag, w⟩ => w u s' ⟨a, B, sI, pins, σ, H, cls, d, e, I, nb, up, sky, na, os, ag, rfl, rfl, rfl, rfl⟩
structure WS (K : KF) (xw : WX) (G H : Hp) (m : Mu) (De : DE) (E : Ends) : Prop where
  nx : ∀ s' H' G' r' m', Stp G H m G' H' m' → RpS K G' r' s' → Rl K G' H' m' → De.nx r' m' → E.nx s' H'
  rt : WV K G H m De.rt E.rt
  bk : ∀ s' H' G' r' m', Stp G H m G' H' m' → RpS K G' r' s' → Rl K G' H' m' → De.bk r' m' → E.bk s' H'
  ct : ∀ s' H' G' r' m', Stp G H m G' H' m' → RpS K G' r' s' → Rl K G' H' m' → De.ct r' m' → E.ct s' H'
  ex : ∀ s' H' G' r' m' x cls d, Stp G H m G' H' m' → RpS K G' r' s' → Rl K G' H' m' → RX K x cls d → De.ex x m' → xw cls d s' H'
def lfS (K : KF) (xw : WX) (t : DS) : TS := fun E s H => ∃ G r m De, RpS K G r s ∧ Rl K G H m ∧ t De r m ∧ WS K xw G H m De E

def PD (X : Cx) (e : Expr) (t : DT) : Prop := PE X e (lf X.kf t)
def PDT (X : Cx) (e : Expr) (t : DB) : Prop := PT X e (lfB X.kf t)
def PDA (X : Cx) (es : List Expr) (t : DA) : Prop := PA X es (lfA X.kf t)
def PDS (X : Cx) (s : Stmt) (t : DS) : Prop := PS X s (lfS X.kf X.wx t)
def PDSs (X : Cx) (s : List Stmt) (t : DS) : Prop := PSs X s (lfS X.kf X.wx t)

section
variable {X : Cx} {e : Expr} {es : List Expr}
theorem peM {t t' : TE} (h : PE X e t) (i : ∀ s H Q, t' s H Q → t s H Q) : PE X e t' := ⟨fun pins s σ H Q I q => h.run pins s σ H Q I (i _ _ _ q)⟩
theorem ptM {t t' : TT} (h : PT X e t) (i : ∀ s H Q, t' s H Q → t s H Q) : PT X e t' := ⟨fun pins s σ H Q I q => h.run pins s σ H Q I (i _ _ _ q)⟩
theorem paM {t t' : TA} (h : PA X es t) (i : ∀ s H Q, t' s H Q → t s H Q) : PA X es t' := ⟨fun pos pins s σ H Q I q => h.run pos pins s σ H Q I (i _ _ _ q)⟩
theorem psM {st : Stmt} {t t' : TS} (h : PS X st t) (i : ∀ E s H, t' E s H → t E s H) : PS X st t' := ⟨fun pins s σ H D I q => h.run pins s σ H D I (i _ _ _ q)⟩
theorem pssM {st : List Stmt} {t t' : TS} (h : PSs X st t) (i : ∀ E s H, t' E s H → t E s H) : PSs X st t' := ⟨fun pins s σ H D I q => h.run pins s σ H D I (i _ _ _ q)⟩
end
section
variable {K : KF} {G H : Hp} {m : Mu}
/-- a wish behind a step -/
theorem WV.after {G1 H1 : Hp} {m1 : Mu} {Q : DK} {Qv : VK} (w : WV K G H m Q Qv) (s : Stp G H m G1 H1 m1) : WV K G1 H1 m1 Q Qv :=
  fun v H' G' m' d s' r h q => w v H' G' m' d (s.trans s') r h q
theorem WV.now {Q : DK} {Qv : VK} (w : WV K G H m Q Qv) {d : D} {v : V} (r : Rl K G H m) (h : Rp K G d v) (q : Q d m) : Qv v H := w v H G m d Stp.refl r h q
theorem WS.after {xw : WX} {G1 H1 : Hp} {m1 : Mu} {De : DE} {E : Ends} (w : WS K xw G H m De E) (s : Stp G H m G1 H1 m1) : WS K xw G1 H1 m1 De E :=
  ⟨fun s' H' G' r' m' a b c d => w.nx s' H' G' r' m' (s.trans a) b c d, w.rt.after s, fun s' H' G' r' m' a b c d => w.bk s' H' G' r' m' (s.trans a) b c d, fun s' H' G' r' m' a b c d => w.ct s' H' G' r' m' (s.trans a) b c d, fun s' H' G' r' m' x cl dd a b c d e => w.ex s' H' G' r' m' x cl dd (s.trans a) b c d e⟩
theorem TbAt.of {H H' : Hp} {m m' : Mu} {P : Addr} {q : Str} (t : TbAt H m P q) (hP : ∀ o, H P = some o → H' P = some o) (hc : ∀ c, H c = some (LamX.CodeO c q) → m c = none → H' c = some (LamX.CodeO c q) ∧ m' c = none) : TbAt H' m' P q := by
  obtain ⟨ps, h1, h2, h3⟩ := t
  refine ⟨ps, hP _ h1, h2, fun pos cv e => ?_⟩
  obtain ⟨c, e1, e2, e3⟩ := h3 pos cv e
  exact ⟨c, e1, (hc c e2 e3).1, (hc c e2 e3).2⟩
theorem TbAt.at_ {H : Hp} {m : Mu} {P : Addr} {q : Str} (t : TbAt H m P q) : ∃ o, H P = some o := let ⟨_, h, _⟩ := t; ⟨_, h⟩
/-- a new place is told -/
theorem TbAt.new {H : Hp} {m : Mu} {P p : Addr} {q : Str} {o : HO} (t : TbAt H m P q) (h : H p = none) : TbAt (upd H p o) m P q :=
  t.of (fun u e => by rw [upd_ne (ne_of_none e h)]; exact e) fun c e1 e2 => ⟨by rw [upd_ne (ne_of_none e1 h)]; exact e1, e2⟩
/-- a new thing that never changes -/
theorem Rl.new (r : Rl K G H m) {p : Addr} (h : H p = none) (o : HO) (hn : ∀ ps, o ≠ .tbl ps := by intro _ z; cases z) : Rl K (upd G p o) (upd H p o) m ∧ Stp G H m (upd G p o) (upd H p o) m := by
  obtain ⟨g, q⟩ := r.free h
  refine ⟨⟨fun b u e => ?_, fun a u e => ?_, fun t ht => ?_, fun b ps e => ?_, fun b ps e => ?_⟩, ⟨fun b u e => ?_, fun b u e1 e2 e3 _ => ?_, fun b u e => ?_⟩⟩
  · by_cases hb : b = p
    · subst hb; rw [upd_same] at e ⊢; exact e
    · rw [upd_ne hb] at e ⊢; exact r.sub b u e
  · obtain ⟨ga, w, hw, rw'⟩ := r.mu a u e
    have na : a ≠ p := fun z => by subst z; rw [q] at e; cases e
    refine ⟨by rw [upd_ne na]; exact ga, w, by rw [upd_ne na]; exact hw, rw'.same fun b z ez => ?_⟩
    rw [upd_ne (ne_of_none ez g)]; exact ez
  · obtain ⟨t1, t2, t3⟩ := r.tab t ht
    obtain ⟨o2, e2⟩ := t3.at_
    exact ⟨by rw [upd_ne (ne_of_none e2 h)]; exact t1, t2, t3.new h⟩
  · by_cases hb : b = p
    · subst hb; rw [upd_same] at e; exact hn ps (Option.some.inj e)
    · rw [upd_ne hb] at e; exact r.nt b ps e
  · exact r.ttU hn b ps e
  · rw [upd_ne (ne_of_none e g)]; exact e
  · have nb : b ≠ p := ne_of_none e1 h
    rw [upd_ne nb, upd_ne nb]; exact ⟨e1, e2, e3⟩
  · exact ⟨u, by rw [upd_ne (ne_of_none e h)]; exact e⟩
/-- a new mutable thing -/
theorem Rl.newM (r : Rl K G H m) {p : Addr} (h : H p = none) {o : HO} {u : MO} (q : RpM K G p u o) : Rl K G (upd H p o) (up m p u) ∧ Stp G H m G (upd H p o) (up m p u) := by
  obtain ⟨g, z⟩ := r.free h
  refine ⟨⟨fun b w e => ?_, fun a w e => ?_, fun t ht => ?_, r.nt, r.ttU q.nt⟩, ⟨Same.refl _, fun b w e1 e2 e3 _ => ?_, fun b w e => ?_⟩⟩
  · rw [upd_ne (ne_of_none e g)]; exact r.sub b w e
  · by_cases ha : a = p
    · subst ha; rw [up_same] at e; cases e; exact ⟨g, o, upd_same, q⟩
    · rw [up_ne ha] at e
      obtain ⟨ga, x, hx, rx⟩ := r.mu a w e
      exact ⟨ga, x, by rw [upd_ne ha]; exact hx, rx⟩
  · obtain ⟨t1, t2, t3⟩ := r.tab t ht
    obtain ⟨o2, e2⟩ := t3.at_
    exact ⟨t1, by rw [up_ne (ne_of_none e2 h)]; exact t2, t3.of (fun u e => by rw [upd_ne (ne_of_none e h)]; exact e) fun c e1 e2 => ⟨by rw [upd_ne (ne_of_none e1 h)]; exact e1, by rw [up_ne (ne_of_none e1 h)]; exact e2⟩⟩
  · have nb : b ≠ p := ne_of_none e1 h
    rw [upd_ne nb, up_ne nb]; exact ⟨e1, e2, e3⟩
  · exact ⟨w, by rw [upd_ne (ne_of_none e h)]; exact e⟩
/-- a mutable thing changed -/
theorem Rl.put (r : Rl K G H m) {p : Addr} {u0 : MO} (h : m p = some u0) {o : HO} {u : MO} (q : RpM K G p u o) : Rl K G (upd H p o) (up m p u) ∧ Stp G H m G (upd H p o) (up m p u) := by
  obtain ⟨g, x0, hx0, _⟩ := r.mu p u0 h
  refine ⟨⟨fun b w e => ?_, fun a w e => ?_, fun t ht => ?_, r.nt, r.ttU q.nt⟩, ⟨Same.refl _, fun b w e1 e2 e3 _ => ?_, fun b w e => ?_⟩⟩
  · rw [upd_ne (ne_of_none e g)]; exact r.sub b w e
  · by_cases ha : a = p
    · subst ha; rw [up_same] at e; cases e; exact ⟨g, o, upd_same, q⟩
    · rw [up_ne ha] at e
      obtain ⟨ga, x, hx, rx⟩ := r.mu a w e
      exact ⟨ga, x, by rw [upd_ne ha]; exact hx, rx⟩
  · obtain ⟨t1, t2, t3⟩ := r.tab t ht
    have ne : ∀ c, m c = none → c ≠ p := fun c e z => by subst z; rw [h] at e; cases e
    exact ⟨t1, by rw [up_ne (ne _ t2)]; exact t2, t3.of (fun u e => by rw [upd_ne (ne _ t2)]; exact e) fun c e1 e2 => ⟨by rw [upd_ne (ne _ e2)]; exact e1, by rw [up_ne (ne _ e2)]; exact e2⟩⟩
  · have nb : b ≠ p := fun z => by subst z; rw [h] at e3; cases e3
    rw [upd_ne nb, up_ne nb]; exact ⟨e1, e2, e3⟩
  · by_cases hb : b = p
    · exact ⟨o, by rw [hb]; exact upd_same⟩
    · exact ⟨w, by rw [upd_ne hb]; exact e⟩
/-- a mutable thing that is never changed again -/
theorem Rl.fix (r : Rl K G H m) {p : Addr} {u0 : MO} (h : m p = some u0) : ∃ x0, H p = some x0 ∧ RpM K G p u0 x0 ∧ Same G (upd G p x0) ∧ Rl K (upd G p x0) H (er m p) ∧ Stp G H m (upd G p x0) H (er m p) := by
  obtain ⟨g, x0, hx0, rp⟩ := r.mu p _ h
  have sm : Same G (upd G p x0) := fun b w e => by rw [upd_ne (ne_of_none e g)]; exact e
  refine ⟨x0, hx0, rp, sm, ⟨fun b w e => ?_, fun a w e => ?_, fun t ht => ?_, fun b ps e => by
    by_cases hb : b = p
    · subst hb; rw [upd_same] at e; exact rp.nt ps (Option.some.inj e)
    · rw [upd_ne hb] at e; exact r.nt b ps e, r.tt⟩, ⟨sm, fun b w e1 e2 e3 _ => ?_, fun b w e => ⟨w, e⟩⟩⟩
  · by_cases hb : b = p
    · subst hb; rw [upd_same] at e; cases e; exact hx0
    · rw [upd_ne hb] at e; exact r.sub b w e
  · have ha : a ≠ p := fun z => by subst z; rw [er_same] at e; cases e
    rw [er_ne ha] at e
    obtain ⟨ga, x, hx, rx⟩ := r.mu a w e
    exact ⟨by rw [upd_ne ha]; exact ga, x, hx, rx.same sm⟩
  · obtain ⟨t1, t2, t3⟩ := r.tab t ht
    have ne : ∀ c, m c = none → c ≠ p := fun c e z => by subst z; rw [h] at e; cases e
    exact ⟨by rw [upd_ne (ne _ t2)]; exact t1, by rw [er_ne (ne _ t2)]; exact t2, t3.of (fun u e => e) fun c e1 e2 => ⟨e1, by rw [er_ne (ne _ e2)]; exact e2⟩⟩
  · have nb : b ≠ p := fun z => by subst z; rw [h] at e3; cases e3
    rw [upd_ne nb, er_ne nb]; exact ⟨e1, e2, e3⟩
/-- a mutable list that is never changed again -/
theorem Rl.freeze (r : Rl K G H m) {p : Addr} {ds : List D} (h : m p = some (.lst ds)) : ∃ G', Rl K G' H (er m p) ∧ Stp G H m G' H (er m p) ∧ Rp K G' (.lst ds) (.ref p) := by
  obtain ⟨x0, hx0, ⟨vs, e0, rv, z⟩, sm, rl, st⟩ := r.fix h
  subst e0
  exact ⟨_, rl, st, .lst upd_same (rv.same sm) z⟩
theorem RpL.refs {K : KF} {G : Hp} : ∀ {xs : List (NestedKey × Addr × V)}, (∀ x ∈ xs, Rp K G (keyD x.1) (.ref x.2.1)) → RpL K G ((xs.map (·.1)).map keyD) (xs.map fun x => V.ref x.2.1)
  | [], _ => .nil
  | x :: xs, h => .cons (h x List.mem_cons_self) (RpL.refs fun y hy => h y (List.mem_cons_of_mem _ hy))
/-- a list that nothing tells -/
theorem Rl.hid (r : Rl K G H m) {p : Addr} (g : G p = none) (q : m p = none) (h : H p = none ∨ ∃ us, H p = some (.lst us)) (o : HO) (hn : ∀ ps, o ≠ .tbl ps := by intro _ z; cases z) : Rl K G (upd H p o) m := by
  refine ⟨fun b w e => ?_, fun a w e => ?_, fun t ht => ?_, r.nt, r.ttU hn⟩
  · rw [upd_ne (ne_of_none e g)]; exact r.sub b w e
  · obtain ⟨ga, x, hx, rx⟩ := r.mu a w e
    exact ⟨ga, x, by rw [upd_ne (fun z => by subst z; rw [q] at e; cases e)]; exact hx, rx⟩
  · obtain ⟨t1, t2, t3⟩ := r.tab t ht
    have nT : t.1 ≠ p := fun z => by
      obtain ⟨ps, e, _⟩ := t3
      rw [z] at e
      rcases h with h | ⟨us, h⟩ <;> rw [h] at e <;> cases e
    have nC : ∀ c q', H c = some (LamX.CodeO c q') → c ≠ p := fun c q' e z => by
      rw [z] at e
      rcases h with h | ⟨us, h⟩ <;> rw [h] at e <;> cases e
    exact ⟨t1, t2, t3.of (fun u e => by rw [upd_ne nT]; exact e) fun c e1 e2 => ⟨by rw [upd_ne (nC _ _ e1)]; exact e1, e2⟩⟩
theorem tab_ne {P : Addr} {q : Str} {D : Addr} {us : List V} (t : TbAt H m P q) (h : H D = some (.lst us)) : P ≠ D ∧ ∀ c, H c = some (LamX.CodeO c q) → c ≠ D := by
  obtain ⟨ps, e, _⟩ := t
  refine ⟨fun z => ?_, fun c e2 z => ?_⟩
  · rw [z, h] at e; cases e
  · rw [z, h] at e2; cases e2
theorem Rl.hidG (r : Rl K G H m) {D : Addr} {us : List V} (h : H D = some (.lst us)) (g : G D = none) (q : m D = none) : Rl K (upd G D (.lst us)) H m := by
  have sm : Same G (upd G D (.lst us)) := fun b o e => by rw [upd_ne (ne_of_none e g)]; exact e
  refine ⟨fun b o e => ?_, fun a o e => ?_, fun t ht => ?_, fun b ps e => by
    by_cases hb : b = D
    · subst hb; rw [upd_same] at e; cases e
    · rw [upd_ne hb] at e; exact r.nt b ps e, r.tt⟩
  · by_cases hb : b = D
    · subst hb; rw [upd_same] at e; cases e; exact h
    · rw [upd_ne hb] at e; exact r.sub b o e
  · obtain ⟨h1, u, h2, h3⟩ := r.mu a o e
    have na : a ≠ D := fun z => by subst z; rw [q] at e; cases e
    exact ⟨by rw [upd_ne na]; exact h1, u, h2, h3.same sm⟩
  · obtain ⟨t1, t2, t3⟩ := r.tab t ht
    exact ⟨by rw [upd_ne (tab_ne t3 h).1]; exact t1, t2, t3⟩
/-- fewer mutable things are told -/
theorem Rl.less (r : Rl K G H m) {m' : Mu} (h : ∀ a o, m' a = some o → m a = some o) : Rl K G H m' := by
  have no : ∀ a, m a = none → m' a = none := fun a e => by
    cases q : m' a with
    | none => rfl
    | some u => rw [h a u q] at e; cases e
  exact ⟨r.sub, fun a o e => r.mu a o (h a o e), fun t ht => let ⟨t1, t2, t3⟩ := r.tab t ht; ⟨t1, no _ t2, t3.of (fun _ e => e) fun c e1 e2 => ⟨e1, no c e2⟩⟩, r.nt, r.tt⟩
theorem Stp.less {G' H' : Hp} {m1 m' : Mu} (s : Stp G H m G' H' m1) (h : ∀ a o, m' a = some o → m1 a = some o) : Stp G H m G' H' m' := by
  refine ⟨s.g, fun b o e1 e2 e3 n => ?_, s.up⟩
  obtain ⟨h1, h2, h3⟩ := s.fr b o e1 e2 e3 n
  refine ⟨h1, h2, ?_⟩
  cases e : m' b with
  | none => rfl
  | some u => rw [h b u e] at h3; cases h3
end
end Mn

set_option Elab.async false
set_option linter.all false
set_option maxRecDepth 100000
set_option maxHeartbeats 4000000
set_option autoImplicit false
namespace Mn
open PySem PySem.Spec PyProof.Rows L2
variable [Tbs]
/-! new tuples, known to their objects -/
section
variable {X : Cx} {es : List Expr} {pos : Pos}
def NewT (H : Hp) (xs : List V) (Q : VK) : Prop := ∀ (p : Addr) (o : Obj), o.dict = none → H p = none → Q (.ref p) (upd H p (.frz o (.tup xs)))
def tTupF (t : TA) : TE := fun σ H Q => t σ H fun xs H1 => xs.length ≤ sizeLine ∧ NewT H1 xs Q
theorem pe_tupF {x1} {t : TA} (h : PA X es t) : PE X (.Tuple es x1 pos) (tTupF t) := by
  refine ⟨fun pins s σ H Q I hq => ?_⟩
  refine wpAny_Tuple_spliced (thn (h.run pos pins s σ H _ I hq) fun us s1 ⟨xs, H1, I1, r, z, q⟩ => ⟨by rw [← r.length]; exact z, ?_⟩)
  have hf : H1 s1.heap.objs.size = none := I1.hok.fresh (Nat.le_refl _)
  refine ⟨.ref s1.heap.objs.size, _, I1.laid (o := .frz { cls := .type "tuple", data := .seq us.toArray } (.tup xs)) (t' := s1.toks) (fun b u e => Heap.get?_push_of_some _ e) (Nat.le_refl _) ?_, rfl, q _ _ rfl hf⟩
  exact ⟨Heap.get?_push_size _ rfl, z, us, r, ⟨_, Heap.get?_push_size _ rfl, rfl, _, rfl⟩⟩
theorem call_tuple_ofF : CallR X (.type "tuple") (fun xs H Q => ∃ p ys, xs = [.ref p] ∧ ((SqL X.K H p ys ∧ NewT H ys Q) ∨ (SqT X.K H p ys ∧ Q (.ref p) H))) := by
  intro pins s σ H xs us Q I r h
  obtain ⟨p, ys, rfl, h⟩ := h
  obtain ⟨u, rfl, rx⟩ := vals1 r
  cases rx
  rcases h with ⟨hq, q⟩ | ⟨hq, q⟩
  · obtain ⟨its, r', pl, hz⟩ := I.list hq
    have hlen := r'.length
    refine call_tuple_list pl.isList (fun h' kp => ?_) (by simp only [List.size_toArray] <;> omega)
    have I1 : Inv X pins σ H { s with heap := h' } := I.kept (t' := s.toks) kp
    have I2 : Inv X pins σ (upd H h'.objs.size (.frz { cls := .type "tuple", data := .seq its.toArray } (.tup ys))) { s with heap := h'.push { cls := .type "tuple", data := .seq its.toArray } } :=
      I1.laid (t' := s.toks) (fun b o e => Heap.get?_push_of_some _ e) (Nat.le_refl _) (show ObjOk X.prog X.w _ _ _ (.frz _ (.tup ys)) from ⟨Heap.get?_push_size _ rfl, hz, its, r', IsTup.new _ _⟩)
    exact ⟨.ref h'.objs.size, _, I2, rfl, q _ _ rfl (I1.hok.fresh (Nat.le_refl _))⟩
  · exact call_tupleT pins s σ H _ _ Q I r ⟨p, ys, rfl, hq, q⟩
/-- t + u -/
def rCatF (K : PySem.W.Frag) : R2 := fun x y H Q => ∃ a b xs ys, x = .ref a ∧ y = .ref b ∧ SqT K H a xs ∧ SqT K H b ys ∧ xs.length + ys.length ≤ sizeLine ∧
  (xs = [] → Q (.ref b) H) ∧ (xs ≠ [] → ys = [] → Q (.ref a) H) ∧ (xs ≠ [] → ys ≠ [] → NewT H (xs ++ ys) Q)
theorem op_catF : OpR X (binaryOp .Add) (rCatF X.K) := by
  intro pins s σ H x y v u Q I rx ry h
  obtain ⟨a, b, xs, ys, rfl, rfl, ha, hb, hz, q0, q1, q2⟩ := h
  cases rx
  cases ry
  obtain ⟨its, r1, p1, _⟩ := I.tuple ha
  obtain ⟨its2, r2, p2, _⟩ := I.tuple hb
  by_cases hx : xs = []
  · subst hx
    cases r1
    exact cat_tup0 p1 p2 ⟨.ref b, H, I, rfl, q0 rfl⟩
  · refine HT.cat_tup p1 p2 (fun z => hx (r1.nil_iff.mp z)) (fun z => ⟨.ref a, H, I, rfl, q1 hx (r2.nil_iff.mp z)⟩) (fun z => ?_) (by rw [← r1.length, ← r2.length]; exact hz)
    refine ⟨.ref s.heap.objs.size, _, I.laid (t' := s.toks) (o := .frz { cls := .type "tuple", data := .seq (its ++ its2).toArray } (.tup (xs ++ ys))) (fun b ob q => Heap.get?_push_of_some _ q) (Nat.le_refl _) ?_, rfl, q2 hx (fun w => z (r2.nil_iff.mpr w)) _ _ rfl (I.hok.fresh (Nat.le_refl _))⟩
    exact ⟨by first | exact Heap.get?_push_size _ rfl | (rw [List.append_toArray]; exact Heap.get?_push_size _ rfl), by rw [List.length_append]; exact hz, _, r1.append r2, IsTup.new _ _⟩
/-- t[lo:hi]: the whole of it is t itself -/
def rSlF (K : PySem.W.Frag) : V → Option Int → Option Int → Hp → VK → Prop := fun x lo hi H Q => ∃ a xs, x = .ref a ∧ SqT K H a xs ∧
  (HT.sIx xs.length 0 lo = 0 ∧ HT.sIx xs.length xs.length hi = xs.length → Q (.ref a) H) ∧ (¬ (HT.sIx xs.length 0 lo = 0 ∧ HT.sIx xs.length xs.length hi = xs.length) → NewT H (cutV xs lo hi) Q)
theorem sl_tupF : SlR X (rSlF X.K) := by
  intro pins s σ H x v vl vu lo hi sl Q I rx hs pl pu h
  obtain ⟨a, xs, rfl, hx, q1, q2⟩ := h
  by_cases hw : HT.sIx xs.length 0 lo = 0 ∧ HT.sIx xs.length xs.length hi = xs.length
  · cases rx
    obtain ⟨its, r, ht, hz⟩ := I.tuple hx
    have hlen : its.toArray.size = xs.length := by rw [List.size_toArray]; exact r.length.symm
    refine ⟨"tuple", _, PyProof.Rows.slot_tuple_getitem.lookup, ht.typeIs, ?_⟩
    exact getItem_tuple_whole ht hs pl pu (by rw [hlen]; exact hw) ⟨.ref a, H, I, rfl, q1 hw⟩
  · cases rx
    obtain ⟨its, r, ht, hz⟩ := I.tuple hx
    have hlen : its.toArray.size = xs.length := by rw [List.size_toArray]; exact r.length.symm
    refine ⟨"tuple", _, PyProof.Rows.slot_tuple_getitem.lookup, ht.typeIs, ?_⟩
    refine HT.getItem_tuple_cut ht hs pl pu (by rw [hlen]; exact hw) ?_ (by rw [hlen]; exact hz)
    rw [hlen]
    refine ⟨.ref s.heap.objs.size, _, I.laid (t' := s.toks) (o := .frz { cls := .type "tuple", data := .seq (List.take (HT.sIx xs.length xs.length hi - HT.sIx xs.length 0 lo) (List.drop (HT.sIx xs.length 0 lo) its.toArray.toList)).toArray } (.tup (cutV xs lo hi))) (fun b ob q => Heap.get?_push_of_some _ q) (Nat.le_refl _) ?_, rfl, q2 hw _ _ rfl (I.hok.fresh (Nat.le_refl _))⟩
    exact ⟨Heap.get?_push_size _ rfl, Nat.le_trans (cutV_length xs lo hi) hz, _, (r.drop (HT.sIx xs.length 0 lo)).take (HT.sIx xs.length xs.length hi - HT.sIx xs.length 0 lo), IsTup.new _ _⟩
/-- t * k -/
def rRepF (K : PySem.W.Frag) : R2 := fun x y H Q => ∃ l k xs, x = .ref l ∧ y = .int k ∧ SqT K H l xs ∧ xs ≠ [] ∧ 2 ≤ k ∧ k ≤ 1000 ∧ xs.length ≤ 1000 ∧ NewT H (List.replicate k.toNat xs).flatten Q
theorem op_repF : OpR X (binaryOp .Mult) (rRepF X.K) := by
  intro pins s σ H x y v u Q I rx ry h
  obtain ⟨l, k, xs, rfl, rfl, hT, hne, h1, h2, hz, q⟩ := h
  cases rx
  obtain ⟨t, rfl⟩ := ry
  obtain ⟨its, r, ⟨⟨cls, dd, data, sl⟩, ho, hc, n, hd⟩, hs⟩ := I.tuple hT
  simp only at hc hd
  subst hc hd
  have hle : its.length = xs.length := r.length.symm
  have hn : its ≠ [] := fun e => hne (by
    rw [e] at hle
    exact List.eq_nil_of_length_eq_zero hle.symm)
  have hi : its.toArray.isEmpty = false := by
    cases its with
    | nil => exact absurd rfl hn
    | cons a b => rfl
  have hsz0 : its.toArray.size = xs.length := by rw [List.size_toArray, hle]
  have hm : ((its.toArray.size : Nat) : Int) * k ≤ 1000000 := by
    rw [hsz0]
    have a1 : ((xs.length : Nat) : Int) * k ≤ 1000 * k := Int.mul_le_mul_of_nonneg_right (by omega) (by omega)
    omega
  have flen : (List.replicate k.toNat its).flatten.length ≤ sizeLine := by
    rw [PyProof.Rows.lm_len_rep_flat, hle, sizeLine_eq]
    have a1 : k.toNat * xs.length ≤ 1000 * 1000 := Nat.mul_le_mul (by omega) hz
    omega
  have c0 : (decide (k < -(2 ^ 63)) || decide (k ≥ 2 ^ 63)) = false := by
    rw [decide_eq_false (by omega), decide_eq_false (by omega)] <;> rfl
  have c1 : (its.toArray.isEmpty || k == 1) = false := by
    rw [hi, Bool.false_or]
    exact beq_eq_false_iff_ne.mpr (by omega)
  have c2 : (decide (k ≤ 0) || its.toArray.isEmpty) = false := by
    rw [hi, Bool.or_false]
    exact decide_eq_false (by omega)
  have c4 : Builtin.Tuple.tupleTooMany (((its.toArray.size : Nat) : Int) * k) = false := by
    unfold Builtin.Tuple.tupleTooMany
    rw [sizeLine_eq]
    exact decide_eq_false (by omega)
  refine wpAny_binaryOp_repeat_ref (T := "tuple") (U := "int") (by decide) ⟨_, ho, rfl⟩ (fun s' => typeIs_int s' k t) noFill_tuple_mul F.fills_int_mul F.slot_int_rmul repeat_tuple F.slot_int_index.lookup
    (call_meets F.slot_int_rmul (typeIs_int s k t) F.entry_int_rmul (F.args_int_rmul_2 _ _) (int_rmul_tuple k t l its.toArray n dd sl)
      ⟨ho, rfl, ⟨_, ho, rfl⟩, call_meets F.slot_tuple_mul ⟨_, ho, rfl⟩ F.entry_tuple_mul (F.args_tuple_mul_2 _ _) (tuple_mulW l its.toArray n dd sl k t c0 c1 c2 (by omega) c4 (by rw [size_rep, List.size_toArray]; exact flen)) ⟨ho, ?_⟩⟩)
  rw [size_rep]
  refine ⟨.ref s.heap.objs.size, _, I.laid (t' := s.toks) (o := .frz { cls := .type "tuple", data := .seq (List.replicate k.toNat its).flatten.toArray } (.tup (List.replicate k.toNat xs).flatten)) (fun b ob q => Heap.get?_push_of_some _ q) (Nat.le_refl _) ?_, rfl, q _ _ rfl (I.hok.fresh (Nat.le_refl _))⟩
  exact ⟨Heap.get?_push_size _ rfl, by rw [PyProof.Rows.lm_len_rep_flat, sizeLine_eq]; have a1 : k.toNat * xs.length ≤ 1000 * 1000 := Nat.mul_le_mul (by omega) hz; omega, _, r.rep k.toNat, IsTup.new _ _⟩
end
end Mn

set_option Elab.async false
set_option linter.all false
set_option maxRecDepth 100000
set_option maxHeartbeats 4000000
set_option autoImplicit false
namespace Mn
open PySem PySem.Spec PyProof.Rows L2
variable [Tbs]

/-! expressions -/
def dVar (i : Nat) : DT := fun r m Q => ∃ d, r[i]? = some (some d) ∧ Q d m
def dC (d : D) : DT := fun _ m Q => Q d m
section
variable {X : Cx} {a b c : Expr} {es : List Expr} {ta tb tc : DT} {pos : Pos}
/-- a value that is the same whatever the state -/
theorem pd_of {e : Expr} {v : V} {d : D} (h : PE X e (tC v)) (r : ∀ G, Rp X.kf G d v) : PD X e (dC d) :=
  peM h fun s H Q ⟨G, ro, m, Qd, hs, hr, q, w⟩ => w.now hr (r G) q
theorem pd_var {i : Nat} {x : Str} (h : PE X (.Name x pos) (tVar i)) : PD X (.Name x pos) (dVar i) :=
  peM h fun s H Q ⟨G, ro, m, Qd, hs, hr, ⟨d, e, q⟩, w⟩ => let ⟨v, e1, rv⟩ := hs.get i d e; ⟨v, e1, w.now hr rv q⟩
theorem pd_int {i j} : PD X (.Constant (.int i) j pos) (dC (.int i)) := pd_of pe_int fun _ => .int i
theorem pd_bl {k j} : PD X (.Constant (.bool k) j pos) (dC (.bl k)) := pd_of pe_bl fun _ => .bl k
theorem pd_non {j} : PD X (.Constant .none j pos) (dC .non) := pd_of pe_non fun _ => .non
theorem pd_str {x j} : PD X (.Constant (.str x) j pos) (dC (.str x)) := pd_of pe_str fun _ => .str x

/-! two in a row -/
theorem lf2 {K : KF} {s : L2.St} {H : Hp} {R : V → V → Hp → Prop} {G : Hp} {r : Ro} {m : Mu} {P : D → D → Mu → Prop} (hs : RpS K G r s) (hr : Rl K G H m)
    (h : ta r m fun x m1 => tb r m1 fun y m2 => P x y m2)
    (w : ∀ x y dx dy H' G' m', Stp G H m G' H' m' → Rl K G' H' m' → Rp K G' dx x → Rp K G' dy y → P dx dy m' → R x y H') :
    lf K ta s H fun x H1 => lf K tb s H1 fun y H2 => R x y H2 := by
  refine ⟨G, r, m, _, hs, hr, h, fun v H1 G1 m1 d s1 r1 h1 q1 => ?_⟩
  refine ⟨G1, r, m1, _, hs.same s1.g, r1, q1, fun u H2 G2 m2 d2 s2 r2 h2 q2 => ?_⟩
  exact w v u d d2 H2 G2 m2 (s1.trans s2) r2 (h1.same s2.g) h2 q2
abbrev DR2 := D → D → Mu → DK → Prop
def C2 (K : KF) (r : R2) (dr : DR2) : Prop := ∀ (G H : Hp) (m : Mu) (x y : V) (dx dy : D) (Q : DK) (Qv : VK), Rl K G H m → Rp K G dx x → Rp K G dy y → dr dx dy m Q → WV K G H m Q Qv → r x y H Qv
def dOp (dr : DR2) (ta tb : DT) : DT := fun r m Q => ta r m fun x m1 => tb r m1 fun y m2 => dr x y m2 Q
theorem lfOp {r : R2} {dr : DR2} (hc : C2 X.kf r dr) {s : L2.St} {H : Hp} {Q : VK} (h : lf X.kf (dOp dr ta tb) s H Q) : tOp r (lf X.kf ta) (lf X.kf tb) s H Q := by
  obtain ⟨G, ro, m, Qd, hs, hr, q, w⟩ := h
  exact lf2 hs hr q fun x y dx dy H' G' m' st rl rx ry p => hc G' H' m' x y dx dy Qd Q rl rx ry p (w.after st)
theorem pd_op {op : Operator} {r : R2} {dr : DR2} (ho : OpR X (binaryOp op) r) (hc : C2 X.kf r dr) (ha : PD X a ta) (hb : PD X b tb) : PD X (.BinOp a op b pos) (dOp dr ta tb) :=
  peM (pe_op ho ha hb) fun _ _ _ h => lfOp hc h
theorem pd_cmp {op : CmpOp} {r : R2} {dr : DR2} (ho : OpR X (compareOp op) r) (hc : C2 X.kf r dr) (ha : PD X a ta) (hb : PD X b tb) (hm : behindInMarks op b = false) : PD X (.Compare a [op] [b] pos) (dOp dr ta tb) :=
  peM (pe_cmpR ho ha hb hm) fun _ _ _ h => lfOp hc h
/-- tests from values -/
def dTest (t : DT) : DB := fun r m Q => t r m fun d m1 => ∃ k, d = .bl k ∧ Q k m1
theorem lfTest {t : DT} {s : L2.St} {H : Hp} {Q : Bool → Hp → Prop} (h : lfB X.kf (dTest t) s H Q) : lf X.kf t s H fun x H1 => ∃ k, x = .bl k ∧ Q k H1 := by
  obtain ⟨G, ro, m, Qd, hs, hr, q, w⟩ := h
  refine ⟨G, ro, m, _, hs, hr, q, fun v H1 G1 m1 d s1 r1 h1 ⟨k, e, q1⟩ => ?_⟩
  subst e
  cases h1
  exact ⟨k, rfl, w k H1 G1 m1 s1 r1 q1⟩
theorem pdt_val {t : DT} (h : PD X a t) (he : ∀ whole, isTrue a X.env whole = (do let v ← whole; standAt a.pos; holding [v] (truthy v)) := by intro _; rfl) : PDT X a (dTest t) :=
  ptM (pt_val h he) fun _ _ _ h => lfTest h
theorem pdt_cmp {op : CmpOp} {r : R2} {dr : DR2} (ho : OpR X (compareOp op) r) (hc : C2 X.kf r dr) (ha : PD X a ta) (hb : PD X b tb) (hm : behindInMarks op b = false) : PDT X (.Compare a [op] [b] pos) (dTest (dOp dr ta tb)) := by
  refine ptM (pt_cmpR ho ha hb hm) fun s H Q h => ?_
  have h2 := lfTest h
  exact lfOp hc h2
/-- x op y op' z -/
def dChain (dr dr' : DR2) (ta tb tc : DT) : DT := fun r m Q => ta r m fun x m1 => tb r m1 fun y m2 => dr x y m2 fun k m3 => ∃ c, k = .bl c ∧ if c = true then tc r m3 fun z m4 => dr' y z m4 Q else Q (.bl false) m3
theorem lfChain {r r' : R2} {dr dr' : DR2} (hc : C2 X.kf r dr) (hc' : C2 X.kf r' dr') {s : L2.St} {H : Hp} {Q : VK} (h : lf X.kf (dChain dr dr' ta tb tc) s H Q) : tChain r r' (lf X.kf ta) (lf X.kf tb) (lf X.kf tc) s H Q := by
  obtain ⟨G, ro, m, Qd, hs, hr, q, w⟩ := h
  refine lf2 hs hr q fun x y dx dy H' G' m' st rl rx ry p => ?_
  refine hc G' H' m' x y dx dy _ _ rl rx ry p fun v H2 G2 m2 d s2 r2 h2 ⟨c, e, q2⟩ => ?_
  subst e
  cases h2
  refine ⟨c, rfl, ?_⟩
  cases c with
  | false => exact w _ _ _ _ _ (st.trans s2) r2 (.bl false) q2
  | true =>
    refine ⟨G2, ro, m2, _, (hs.same st.g).same s2.g, r2, q2, fun v3 H3 G3 m3 d3 s3 r3 h3 q3 => ?_⟩
    exact hc' G3 H3 m3 y v3 dy d3 Qd Q r3 ((ry.same s2.g).same s3.g) h3 q3 (w.after ((st.trans s2).trans s3))
theorem pd_chain {op op' : CmpOp} {r r' : R2} {dr dr' : DR2} (ho : OpR X (compareOp op) r) (ho' : OpR X (compareOp op') r') (hc : C2 X.kf r dr) (hc' : C2 X.kf r' dr') (ha : PD X a ta) (hb : PD X b tb) (hz : PD X c tc)
    (h1 : lastMarks [op, op'] [b, c] = false := by rfl) : PD X (.Compare a [op, op'] [b, c] pos) (dChain dr dr' ta tb tc) :=
  peM (pe_chain ho ho' ha hb hz h1) fun _ _ _ h => lfChain hc hc' h
theorem pdt_chain {op op' : CmpOp} {r r' : R2} {dr dr' : DR2} (ho : OpR X (compareOp op) r) (ho' : OpR X (compareOp op') r') (hc : C2 X.kf r dr) (hc' : C2 X.kf r' dr') (ha : PD X a ta) (hb : PD X b tb) (hz : PD X c tc)
    (h1 : lastMarks [op, op'] [b, c] = false := by rfl) : PDT X (.Compare a [op, op'] [b, c] pos) (dTest (dChain dr dr' ta tb tc)) := by
  refine ptM (pt_chain ho ho' ha hb hz h1) fun s H Q h => ?_
  have h2 := lfTest h
  exact lfChain hc hc' h2

/-! and, or, not -/
def dAndV (ta tb : DT) : DT := fun r m Q => ta r m fun x m1 => ∃ k, x = .bl k ∧ if k = true then tb r m1 Q else Q (.bl false) m1
def dOrV (ta tb : DT) : DT := fun r m Q => ta r m fun x m1 => ∃ k, x = .bl k ∧ if k = true then Q (.bl true) m1 else tb r m1 Q
def dNotV (ta : DT) : DT := fun r m Q => ta r m fun x m1 => ∃ k, x = .bl k ∧ Q (.bl (!k)) m1
variable {rest : List Expr}
theorem pd_one {op} (h : PD X a ta) : PD X (.BoolOp op [a] pos) ta := pe_one h
theorem pd_and (ha : PD X a ta) (hb : PD X (.BoolOp .And (b :: rest) pos) tb) : PD X (.BoolOp .And (a :: b :: rest) pos) (dAndV ta tb) := by
  refine peM (pe_and ha hb) fun s H Q ⟨G, ro, m, Qd, hs, hr, q, w⟩ => ?_
  refine ⟨G, ro, m, _, hs, hr, q, fun v H1 G1 m1 d s1 r1 h1 ⟨k, e, q1⟩ => ?_⟩
  subst e
  cases h1
  refine ⟨k, rfl, ?_⟩
  cases k with
  | true => exact ⟨G1, ro, m1, Qd, hs.same s1.g, r1, q1, w.after s1⟩
  | false => exact w _ _ _ _ _ s1 r1 (.bl false) q1
theorem pd_not (ha : PD X a ta) : PD X (.UnaryOp .Not a pos) (dNotV ta) := by
  refine peM (pe_not ha) fun s H Q ⟨G, ro, m, Qd, hs, hr, q, w⟩ => ?_
  refine ⟨G, ro, m, _, hs, hr, q, fun v H1 G1 m1 d s1 r1 h1 ⟨k, e, q1⟩ => ?_⟩
  subst e
  cases h1
  exact ⟨k, rfl, w _ _ _ _ _ s1 r1 (.bl (!k)) q1⟩
def dAnd (ta tb : DB) : DB := fun r m Q => ta r m fun k m1 => if k = true then tb r m1 Q else Q false m1
def dOr (ta tb : DB) : DB := fun r m Q => ta r m fun k m1 => if k = true then Q true m1 else tb r m1 Q
def dNot (ta : DB) : DB := fun r m Q => ta r m fun k m1 => Q (!k) m1
variable {ua ub : DB}
def PDW (X : Cx) (e : Expr) (t : DB) : Prop := PW X e (lfB X.kf t)
theorem pwM {e : Expr} {t t' : TT} (h : PW X e t) (i : ∀ s H Q, t' s H Q → t s H Q) : PW X e t' := ⟨fun wh pins s σ H Q I q => h.run wh pins s σ H Q I (i _ _ _ q)⟩
theorem pdt_w {e : Expr} {t : DB} (h : PDW X e t) : PDT X e t := PW.pt h
theorem pdw_or1 (h : PDT X a ua) : PDW X (.BoolOp .Or [a] pos) ua := pw_or1 h
theorem pdw_or (ha : PDT X a ua) (hb : PDW X (.BoolOp .Or (b :: rest) pos) ub) : PDW X (.BoolOp .Or (a :: b :: rest) pos) (dOr ua ub) := by
  refine pwM (pw_or ha hb) fun s H Q ⟨G, ro, m, Qd, hs, hr, q, w⟩ => ?_
  refine ⟨G, ro, m, _, hs, hr, q, fun k H1 G1 m1 s1 r1 q1 => ?_⟩
  cases k with
  | false => exact ⟨G1, ro, m1, Qd, hs.same s1.g, r1, q1, fun b H' G' m' s' r' q' => w b H' G' m' (s1.trans s') r' q'⟩
  | true => exact w _ _ _ _ s1 r1 q1
theorem pdt_not (ha : PDT X a ua) : PDT X (.UnaryOp .Not a pos) (dNot ua) := by
  refine ptM (pt_not ha) fun s H Q ⟨G, ro, m, Qd, hs, hr, q, w⟩ => ?_
  exact ⟨G, ro, m, _, hs, hr, q, fun k H1 G1 m1 s1 r1 q1 => w _ _ _ _ s1 r1 q1⟩
/-- a if t else b -/
def dIf (t : DB) (ta tb : DT) : DT := fun r m Q => t r m fun k m1 => if k = true then ta r m1 Q else tb r m1 Q
theorem pd_if (hc : PDT X c ua) (ha : PD X a ta) (hb : PD X b tb) : PD X (.IfExp c a b pos) (dIf ua ta tb) := by
  refine peM (pe_ifExp hc ha hb) fun s H Q ⟨G, ro, m, Qd, hs, hr, q, w⟩ => ?_
  refine ⟨G, ro, m, _, hs, hr, q, fun k H1 G1 m1 s1 r1 q1 => ?_⟩
  cases k with
  | true => exact ⟨G1, ro, m1, Qd, hs.same s1.g, r1, q1, w.after s1⟩
  | false => exact ⟨G1, ro, m1, Qd, hs.same s1.g, r1, q1, w.after s1⟩

/-! argument lists, displays -/
def dNil : DA := fun _ m Q => Q [] m
def dCons (ta : DT) (tr : DA) : DA := fun r m Q => ta r m fun x m1 => tr r m1 fun xs m2 => Q (x :: xs) m2
variable {tr : DA}
theorem pda_nil : PDA X [] dNil := paM pa_nil fun s H Q ⟨G, ro, m, Qd, hs, hr, q, w⟩ => w _ _ _ _ _ Stp.refl hr .nil q
theorem pda_cons (ha : PD X a ta) (hr : PDA X es tr) (hs : starEach (a :: es) X.env = (false, eval a X.env) :: starEach es X.env := by rfl) : PDA X (a :: es) (dCons ta tr) := by
  refine paM (pa_cons ha hr hs) fun s H Q ⟨G, ro, m, Qd, hs, hr, q, w⟩ => ?_
  refine ⟨G, ro, m, _, hs, hr, q, fun v H1 G1 m1 d s1 r1 h1 q1 => ?_⟩
  exact ⟨G1, ro, m1, _, hs.same s1.g, r1, q1, fun vs H2 G2 m2 ds s2 r2 h2 q2 => w _ _ _ _ _ (s1.trans s2) r2 (.cons (h1.same s2.g) h2) q2⟩
def dTup (t : DA) : DT := fun r m Q => t r m fun ds m1 => ds.length ≤ sizeLine ∧ Q (.tup ds) m1
def dLst (t : DA) : DT := fun r m Q => t r m fun ds m1 => ds.length ≤ sizeLine ∧ Q (.lst ds) m1
/-- a display whose list is to change -/
def dLstM (t : DA) : DT := fun r m Q => t r m fun ds m1 => ds.length ≤ sizeLine ∧ ∀ p, m1 p = none → Q (.ref p) (up m1 p (.lst ds))
theorem Rl.newTup {K : KF} {G H : Hp} {m : Mu} {Q : DK} {Qv : VK} {vs : List V} {ds : List D} (w : WV K G H m Q Qv) (r : Rl K G H m) (h : RpL K G ds vs) (z : ds.length ≤ sizeLine) (q : Q (.tup ds) m) : NewT H vs Qv := fun p o ho hp => by
  obtain ⟨r2, s2⟩ := r.new hp (.frz o (.tup vs))
  exact w _ _ _ _ _ s2 r2 (.tup ⟨o, ho, upd_same⟩ (h.same s2.g) z) q
theorem Rl.newLst {K : KF} {G H : Hp} {m : Mu} {Q : DK} {Qv : VK} {vs : List V} {ds : List D} (w : WV K G H m Q Qv) (r : Rl K G H m) (h : RpL K G ds vs) (z : ds.length ≤ sizeLine) (q : Q (.lst ds) m) : ∀ p, H p = none → Qv (.ref p) (upd H p (.lst vs)) := fun p hp => by
  obtain ⟨r2, s2⟩ := r.new hp (.lst vs)
  exact w _ _ _ _ _ s2 r2 (.lst upd_same (h.same s2.g) z) q
theorem Rl.newLstM {K : KF} {G H : Hp} {m : Mu} {Q : DK} {Qv : VK} {vs : List V} {ds : List D} (w : WV K G H m Q Qv) (r : Rl K G H m) (h : RpL K G ds vs) (z : ds.length ≤ sizeLine) (q : ∀ p, m p = none → Q (.ref p) (up m p (.lst ds))) : ∀ p, H p = none → Qv (.ref p) (upd H p (.lst vs)) := fun p hp => by
  obtain ⟨r2, s2⟩ := r.newM hp (o := .lst vs) (u := .lst ds) ⟨vs, rfl, h, z⟩
  exact w _ _ _ _ _ s2 r2 (.ref p) (q p (r.free hp).2)
theorem pd_tup {x1} (h : PDA X es tr) : PD X (.Tuple es x1 pos) (dTup tr) := by
  refine peM (pe_tupF h) fun s H Q ⟨G, ro, m, Qd, hs, hr, q, w⟩ => ?_
  exact ⟨G, ro, m, _, hs, hr, q, fun vs H1 G1 m1 ds s1 r1 h1 ⟨z, q1⟩ => ⟨by rw [← h1.len]; exact z, Rl.newTup (w.after s1) r1 h1 z q1⟩⟩
theorem pd_lst (h : PDA X es tr) : PD X (.List es pos) (dLst tr) := by
  refine peM (pe_lst h) fun s H Q ⟨G, ro, m, Qd, hs, hr, q, w⟩ => ?_
  exact ⟨G, ro, m, _, hs, hr, q, fun vs H1 G1 m1 ds s1 r1 h1 ⟨z, q1⟩ => ⟨by rw [← h1.len]; exact z, Rl.newLst (w.after s1) r1 h1 z q1⟩⟩
theorem pd_lstM (h : PDA X es tr) : PD X (.List es pos) (dLstM tr) := by
  refine peM (pe_lst h) fun s H Q ⟨G, ro, m, Qd, hs, hr, q, w⟩ => ?_
  exact ⟨G, ro, m, _, hs, hr, q, fun vs H1 G1 m1 ds s1 r1 h1 ⟨z, q1⟩ => ⟨by rw [← h1.len]; exact z, Rl.newLstM (w.after s1) r1 h1 z q1⟩⟩

/-! calls of what is built in -/
abbrev DRL := List D → Mu → DK → Prop
def CL (K : KF) (r : List V → Hp → VK → Prop) (dr : DRL) : Prop := ∀ (G H : Hp) (m : Mu) (vs : List V) (ds : List D) (Q : DK) (Qv : VK), Rl K G H m → RpL K G ds vs → dr ds m Q → WV K G H m Q Qv → r vs H Qv
def dCB (dr : DRL) (t : DA) : DT := fun r m Q => t r m fun ds m1 => dr ds m1 Q
theorem lfCB {r : List V → Hp → VK → Prop} {dr : DRL} (hc : CL X.kf r dr) {s : L2.St} {H : Hp} {Q : VK} (h : lf X.kf (dCB dr tr) s H Q) : tCB r (lfA X.kf tr) s H Q := by
  obtain ⟨G, ro, m, Qd, hs, hr, q, w⟩ := h
  exact ⟨G, ro, m, _, hs, hr, q, fun vs H1 G1 m1 ds s1 r1 h1 q1 => hc G1 H1 m1 vs ds Qd Q r1 h1 q1 (w.after s1)⟩
theorem pd_callB {x : Str} {id : String} {r : List V → Hp → VK → Prop} {dr : DRL} {p : Pos} (hcr : CallR X (.builtin id) r) (hc : CL X.kf r dr) (hg : Gl X x) (hm : X.mg x = none) (hv : bootBuiltins x = some (.builtin id)) (ha : PDA X (a :: es) tr) (hn : x ≠ "__name__" := by decide) (hdb : (x == ("__debug__" : Str)) = false := by decide)
    (he : starEach (a :: es) X.env = (false, eval a X.env) :: starEach es X.env := by rfl) (hpl : (backTo pos (starEach es X.env)).any (·.1) = false := by rfl) : PD X (.Call (.Name x p) (a :: es) [] pos) (dCB dr tr) :=
  peM (pe_callB hcr hg hm hv ha hn hdb he hpl) fun _ _ _ h => lfCB hc h
theorem pd_callTy {x : Str} {T : String} {r : List V → Hp → VK → Prop} {dr : DRL} {p : Pos} (hcr : CallR X (.type T) r) (hc : CL X.kf r dr) (hg : Gl X x) (hm : X.mg x = none) (hv : bootBuiltins x = some (.type T)) (ha : PDA X (a :: es) tr) (hn : x ≠ "__name__" := by decide) (hdb : (x == ("__debug__" : Str)) = false := by decide)
    (he : starEach (a :: es) X.env = (false, eval a X.env) :: starEach es X.env := by rfl) (hpl : (backTo pos (starEach es X.env)).any (·.1) = false := by rfl) : PD X (.Call (.Name x p) (a :: es) [] pos) (dCB dr tr) :=
  peM (pe_callTy hcr hg hm hv ha hn hdb he hpl) fun _ _ _ h => lfCB hc h
theorem callR_or {f : Value} {r r' : List V → Hp → VK → Prop} (h : CallR X f r) (h' : CallR X f r') : CallR X f (fun xs H Q => r xs H Q ∨ r' xs H Q) := by
  intro pins s σ H xs us Q I rv q
  rcases q with q | q
  · exact h pins s σ H xs us Q I rv q
  · exact h' pins s σ H xs us Q I rv q
end

/-! what a value is as a sequence -/
def seqOf (d : D) (m : Mu) : Option (List D) :=
  match d with
  | .lst ds => some ds
  | .tup ds => some ds
  | .pair ds => some ds
  | .scr ds => some ds
  | .ref a => match m a with
    | some (.lst ds) => some ds
    | _ => none
  | _ => none
def lstOf (d : D) (m : Mu) : Option (List D) :=
  match d with
  | .lst ds => some ds
  | .scr ds => some ds
  | .ref a => match m a with
    | some (.lst ds) => some ds
    | _ => none
  | _ => none
section
variable {K : KF} {G H : Hp} {m : Mu}
theorem lst_is {d : D} {v : V} {ds : List D} (r : Rl K G H m) (h : Rp K G d v) (e : lstOf d m = some ds) : ∃ a vs, v = .ref a ∧ SqL K H a vs ∧ RpL K G ds vs ∧ ds.length ≤ sizeLine := by
  cases h with
  | lst hq hr z => cases e; exact ⟨_, _, rfl, .inl (.inl (r.sub _ _ hq)), hr, z⟩
  | scr hq hr z => cases e; exact ⟨_, _, rfl, r.sub.seq hq, hr, z⟩
  | ref a =>
    simp only [lstOf] at e
    cases em : m a with
    | none => rw [em] at e; cases e
    | some o =>
      rw [em] at e
      cases o with
      | dN kvs => cases e
      | dE => cases e
      | ins c dx fs => cases e
      | own y => cases e
      | lst es =>
        cases e
        obtain ⟨_, u, hu, vs, e1, rv, z⟩ := r.mu a _ em
        subst e1
        exact ⟨a, vs, rfl, .inl (.inl hu), rv, z⟩
  | non => cases e
  | bl b => cases e
  | int i => cases e
  | str x => cases e
  | tup hq hr z => cases e
  | pair hq hr z => cases e
  | dct => cases e
theorem seq_is {d : D} {v : V} {ds : List D} (r : Rl K G H m) (h : Rp K G d v) (e : seqOf d m = some ds) : ∃ a vs, v = .ref a ∧ (SqL K H a vs ∨ SqT K H a vs) ∧ RpL K G ds vs ∧ ds.length ≤ sizeLine := by
  cases h with
  | tup hq hr z => cases e; exact ⟨_, _, rfl, .inr (hq.sq r.sub _), hr, z⟩
  | pair hq hr z => cases e; exact ⟨_, _, rfl, .inr (.inl (.inl (r.sub _ _ hq))), hr, z⟩
  | lst hq hr z => cases e; exact ⟨_, _, rfl, .inl (.inl (.inl (r.sub _ _ hq))), hr, z⟩
  | scr hq hr z => cases e; exact ⟨_, _, rfl, .inl (r.sub.seq hq), hr, z⟩
  | ref a =>
    obtain ⟨b, vs, e1, h1, h2, h3⟩ := lst_is r (Rp.ref a) (show lstOf (.ref a) m = some ds from e)
    exact ⟨b, vs, e1, .inl h1, h2, h3⟩
  | non => cases e
  | bl b => cases e
  | int i => cases e
  | str x => cases e
  | dct => cases e
end
end Mn

set_option Elab.async false
set_option linter.all false
set_option maxRecDepth 100000
set_option maxHeartbeats 4000000
set_option autoImplicit false
namespace Mn
open PySem PySem.Spec PyProof.Rows L2
variable [Tbs]

/-! data as the library's -/
mutual
def py : D → PyData
  | .non => .none
  | .bl b => .bool b
  | .int i => .int i
  | .str x => .str x
  | .tup ds => .tuple (pyL ds)
  | .pair ds => .tuple (pyL ds)
  | .lst ds => .list (pyL ds)
  | .scr ds => .list (pyL ds)
  | .ref _ => .none
  | .dct _ _ => .none
def pyL : List D → List PyData
  | [] => []
  | d :: ds => py d :: pyL ds
end
mutual
def pur : D → Bool
  | .non => true
  | .bl _ => true
  | .int _ => true
  | .str _ => true
  | .tup ds => purL ds
  | .pair ds => purL ds
  | .lst ds => purL ds
  | .scr ds => purL ds
  | .ref _ => false
  | .dct _ _ => false
def purL : List D → Bool
  | [] => true
  | d :: ds => pur d && purL ds
end
theorem pyL_map : ∀ ds : List D, pyL ds = ds.map py
  | [] => rfl
  | d :: ds => by rw [pyL, pyL_map ds]; rfl
section
variable {K : KF} {G H : Hp} {m : Mu}
mutual
theorem Rp.dp (r : Same G H) : ∀ {d : D} {v : V}, Rp K G d v → pur d = true → Dp K H v (py d)
  | _, _, .non, _ => by rw [py]; exact .non
  | _, _, .bl b, _ => by rw [py]; exact .bl b
  | _, _, .int i, _ => by rw [py]; exact .int i
  | _, _, .str x, _ => by rw [py]; exact .str x
  | _, _, .tup h q z, p => by rw [py]; rw [pur] at p; exact .tup (h.sq r _) (RpL.dp r q p)
  | _, _, .pair h q z, p => by rw [py]; rw [pur] at p; exact .tup (.inl (.inl (r _ _ h))) (RpL.dp r q p)
  | _, _, .lst h q z, p => by rw [py]; rw [pur] at p; exact .lst (.inl (.inl (r _ _ h))) (RpL.dp r q p)
  | _, _, .scr h q z, p => by rw [py]; rw [pur] at p; exact .lst (r.seq h) (RpL.dp r q p)
  | _, _, .ref a, p => by rw [pur] at p; cases p
  | _, _, .dct _ _ _ _ _ _ _ _, p => by rw [pur] at p; cases p
theorem RpL.dp (r : Same G H) : ∀ {ds : List D} {vs : List V}, RpL K G ds vs → purL ds = true → DpAll K H vs (pyL ds)
  | _, _, .nil, _ => by rw [pyL]; exact .nil
  | _, _, .cons h q, p => by
    rw [purL, Bool.and_eq_true] at p
    rw [pyL]
    exact .cons (Rp.dp r h p.1) (RpL.dp r q p.2)
end
end
/-- a mutable list is looked through -/
def pyM (d : D) (m : Mu) : PyData := match d with
  | .ref a => match m a with
    | some (.lst ds) => .list (pyL ds)
    | _ => .none
  | d => py d
def purM (d : D) (m : Mu) : Bool := match d with
  | .ref a => match m a with
    | some (.lst ds) => purL ds
    | _ => false
  | d => pur d
theorem Rp.dpM {K : KF} {G H : Hp} {m : Mu} (r : Rl K G H m) {d : D} {v : V} (h : Rp K G d v) (p : purM d m = true) : Dp K H v (pyM d m) := by
  cases d with
  | ref a =>
    cases h
    simp only [purM, pyM] at p ⊢
    cases e : m a with
    | none => rw [e] at p; cases p
    | some o =>
      rw [e] at p
      cases o with
      | dN kvs => cases p
      | dE => cases p
      | ins c dx fs => cases p
      | own y => cases p
      | lst ds =>
        obtain ⟨_, u, hu, vs, e1, rv, z⟩ := r.mu a _ e
        subst e1
        exact .lst (.inl (.inl hu)) (rv.dp r.sub p)
  | non => exact h.dp r.sub p
  | bl b => exact h.dp r.sub p
  | int i => exact h.dp r.sub p
  | str x => exact h.dp r.sub p
  | tup ds => exact h.dp r.sub p
  | pair ds => exact h.dp r.sub p
  | lst ds => exact h.dp r.sub p
  | scr ds => exact h.dp r.sub p
  | dct ks ds => exact h.dp r.sub p

/-! operators -/
/-- a list that is one of the heap's own -/
def lst1 (d : D) (m : Mu) : Option (List D) :=
  match d with
  | .lst ds => some ds
  | .ref a => match m a with
    | some (.lst ds) => some ds
    | _ => none
  | _ => none
theorem lst1_is {K : KF} {G H : Hp} {m : Mu} {d : D} {v : V} {ds : List D} (r : Rl K G H m) (h : Rp K G d v) (e : lst1 d m = some ds) : ∃ a vs, v = .ref a ∧ H a = some (.lst vs) ∧ RpL K G ds vs ∧ ds.length ≤ sizeLine := by
  cases h with
  | lst hq hr z => cases e; exact ⟨_, _, rfl, r.sub _ _ hq, hr, z⟩
  | ref a =>
    simp only [lst1] at e
    cases em : m a with
    | none => rw [em] at e; cases e
    | some o =>
      rw [em] at e
      cases o with
      | dN kvs => cases e
      | dE => cases e
      | ins c dx fs => cases e
      | own y => cases e
      | lst es =>
        cases e
        obtain ⟨_, u, hu, vs, e1, rv, z⟩ := r.mu a _ em
        subst e1
        exact ⟨a, vs, rfl, hu, rv, z⟩
  | non => cases e
  | bl b => cases e
  | int i => cases e
  | str x => cases e
  | tup hq hr z => cases e
  | pair hq hr z => cases e
  | dct => cases e
  | scr hq hr z => cases e
def aAdd : DR2 := fun x y m Q => match x, y with
  | .int i, .int j => Q (.int (i + j)) m
  | .str a, .str b => a.length + b.length ≤ sizeLine ∧ Q (.str (a ++ b)) m
  | .tup a, .tup b => a.length + b.length ≤ sizeLine ∧ Q (.tup (a ++ b)) m
  | x, y => ∃ a b, lst1 x m = some a ∧ lst1 y m = some b ∧ a.length + b.length ≤ sizeLine ∧ Q (.lst (a ++ b)) m
def aSub : DR2 := fun x y m Q => match x, y with
  | .int i, .int j => Q (.int (i - j)) m
  | _, _ => False
def aDiv : DR2 := fun x y m Q => match x, y with
  | .int i, .int j => CDiv i j ∧ Q (.int (i / j)) m
  | _, _ => False
def aMod : DR2 := fun x y m Q => match x, y with
  | .int i, .int j => 0 < j ∧ Q (.int (i % j)) m
  | _, _ => False
def aPow : DR2 := fun x y m Q => match x, y with
  | .int i, .int j => CPow i j ∧ Q (.int (i ^ j.toNat)) m
  | _, _ => False
def okD (d : D) (m : Mu) : Prop := purM d m = true ∧ SeqAt.shaped (pyM d m) = true
def aEq : DR2 := fun x y m Q => match x, y with
  | .str a, .str b => Q (.bl (decide (a = b))) m
  | x, y => okD x m ∧ okD y m ∧ Q (.bl (PyData.eqv (pyM x m) (pyM y m))) m
def aNe : DR2 := fun x y m Q => match x, y with
  | .str a, .str b => Q (.bl (!decide (a = b))) m
  | x, y => okD x m ∧ okD y m ∧ Q (.bl (!PyData.eqv (pyM x m) (pyM y m))) m
def aCmp (p : Int → Int → Bool) : DR2 := fun x y m Q => match x, y with
  | .int i, .int j => Q (.bl (p i j)) m
  | _, _ => False
abbrev aLt := aCmp fun i j => decide (i < j)
abbrev aLe := aCmp fun i j => decide (i ≤ j)
abbrev aGt := aCmp fun i j => decide (j < i)
abbrev aGe := aCmp fun i j => decide (j ≤ i)
def aIsN : DR2 := fun x y m Q => y = .non ∧ match x with
  | .non => Q (.bl true) m
  | _ => Q (.bl false) m
def aNotN : DR2 := fun x y m Q => y = .non ∧ match x with
  | .non => Q (.bl false) m
  | _ => Q (.bl true) m
section
variable {X : Cx} {K : KF}
/-- two ints under a condition -/
theorem c2I {C : Int → Int → Prop} {g : Int → Int → V} {gd : Int → Int → D} {dr : DR2} (hd : ∀ x y m Q, dr x y m Q → ∃ i j, x = .int i ∧ y = .int j ∧ C i j ∧ Q (gd i j) m) (hg : ∀ G i j, Rp K G (gd i j) (g i j)) : C2 K (rI C g) dr := by
  intro G H m x y dx dy Q Qv r rx ry q w
  obtain ⟨i, j, rfl, rfl, hc, q2⟩ := hd _ _ _ _ q
  cases rx
  cases ry
  exact ⟨i, j, rfl, rfl, hc, w.now r (hg G i j) q2⟩
theorem c2I0 {g : Int → Int → V} {gd : Int → Int → D} {dr : DR2} (hd : ∀ x y m Q, dr x y m Q → ∃ i j, x = .int i ∧ y = .int j ∧ Q (gd i j) m) (hg : ∀ G i j, Rp K G (gd i j) (g i j)) : C2 K (rI0 g) dr := by
  intro G H m x y dx dy Q Qv r rx ry q w
  obtain ⟨i, j, rfl, rfl, q2⟩ := hd _ _ _ _ q
  cases rx
  cases ry
  exact ⟨i, j, rfl, rfl, w.now r (hg G i j) q2⟩
theorem c2_sub : C2 K (rI0 fun i j => .int (i - j)) aSub := c2I0 (gd := fun i j => .int (i - j)) (fun x y m Q h => by cases x <;> cases y <;> first | exact ⟨_, _, rfl, rfl, h⟩ | exact False.elim h) fun _ _ _ => .int _
theorem c2_div : C2 K (rI CDiv fun i j => .int (i / j)) aDiv := c2I (gd := fun i j => .int (i / j)) (fun x y m Q h => by cases x <;> cases y <;> first | exact ⟨_, _, rfl, rfl, h.1, h.2⟩ | exact False.elim h) fun _ _ _ => .int _
theorem c2_mod : C2 K (rI (fun _ j => 0 < j) fun i j => .int (i % j)) aMod := c2I (gd := fun i j => .int (i % j)) (fun x y m Q h => by cases x <;> cases y <;> first | exact ⟨_, _, rfl, rfl, h.1, h.2⟩ | exact False.elim h) fun _ _ _ => .int _
theorem c2_pow : C2 K (rI CPow fun i j => .int (i ^ j.toNat)) aPow := c2I (gd := fun i j => .int (i ^ j.toNat)) (fun x y m Q h => by cases x <;> cases y <;> first | exact ⟨_, _, rfl, rfl, h.1, h.2⟩ | exact False.elim h) fun _ _ _ => .int _
theorem c2_cmp (p : Int → Int → Bool) : C2 K (rI0 fun i j => .bl (p i j)) (aCmp p) := c2I0 (gd := fun i j => .bl (p i j)) (fun x y m Q h => by cases x <;> cases y <;> first | exact ⟨_, _, rfl, rfl, h⟩ | exact False.elim h) fun _ _ _ => .bl _
def rAddA (K : KF) : R2 := fun x y H Q => rI0 (fun i j => .int (i + j)) x y H Q ∨ (∃ i j, x = .str i ∧ y = .str j ∧ i.length + j.length ≤ sizeLine ∧ Q (.str (i ++ j)) H) ∨ rCatF K x y H Q ∨ rCat x y H Q
theorem op_addA : OpR X (binaryOp .Add) (rAddA X.kf) := op_add.or (op_add_str.or (op_catF.or op_cat))
theorem rp_len {G : Hp} {ds : List D} {vs : List V} (h : RpL K G ds vs) : vs = [] ↔ ds = [] := by
  cases h with
  | nil => simp
  | cons a b => simp
theorem add_lsts {G H : Hp} {m : Mu} {x y : V} {dx dy : D} {Q : DK} {Qv : VK} (r : Rl K G H m) (rx : Rp K G dx x) (ry : Rp K G dy y) (q : ∃ a b, lst1 dx m = some a ∧ lst1 dy m = some b ∧ a.length + b.length ≤ sizeLine ∧ Q (.lst (a ++ b)) m) (w : WV K G H m Q Qv) : rCat x y H Qv := by
  obtain ⟨a, b, ea, eb, z, q⟩ := q
  obtain ⟨p1, v1, e1, h1, r1, z1⟩ := lst1_is r rx ea
  obtain ⟨p2, v2, e2, h2, r2, z2⟩ := lst1_is r ry eb
  exact ⟨p1, p2, v1, v2, e1, e2, h1, h2, by rw [← r1.len, ← r2.len]; exact z, Rl.newLst w r (r1.app r2) (by rw [List.length_append]; exact z) q⟩
theorem c2_add : C2 K (rAddA K) aAdd := by
  intro G H m x y dx dy Q Qv r rx ry q w
  have gen : (∃ a b, lst1 dx m = some a ∧ lst1 dy m = some b ∧ a.length + b.length ≤ sizeLine ∧ Q (.lst (a ++ b)) m) → rAddA K x y H Qv := fun h => .inr (.inr (.inr (add_lsts r rx ry h w)))
  cases rx with
  | int i =>
    cases ry with
    | int j => exact .inl ⟨i, j, rfl, rfl, w.now r (.int _) q⟩
    | _ => exact gen q
  | str i =>
    cases ry with
    | str j => exact .inr (.inl ⟨i, j, rfl, rfl, q.1, w.now r (.str _) q.2⟩)
    | _ => exact gen q
  | tup h1 r1 z1 =>
    cases ry with
    | tup h2 r2 z2 =>
      refine .inr (.inr (.inl ⟨_, _, _, _, rfl, rfl, h1.sq r.sub _, h2.sq r.sub _, by rw [← r1.len, ← r2.len]; exact q.1, fun e => ?_, fun _ e => ?_, fun _ _ => Rl.newTup w r (r1.app r2) (by rw [List.length_append]; exact q.1) q.2⟩))
      · have e' := (rp_len r1).mp e
        have q2 := q.2
        rw [e', List.nil_append] at q2
        exact w.now r (.tup h2 r2 z2) q2
      · have e' := (rp_len r2).mp e
        have q2 := q.2
        rw [e', List.append_nil] at q2
        exact w.now r (.tup h1 r1 z1) q2
    | _ => exact gen q
  | _ => exact gen q
def rEqA (K : KF) : R2 := fun x y H Q => rEq x y H Q ∨ rEqD K x y H Q
def rNeA (K : KF) : R2 := fun x y H Q => rNe x y H Q ∨ rNeD K x y H Q
theorem op_eqA (hu : X.A.units + 64 < cLine) : OpR X (compareOp .Eq) (rEqA X.kf) := op_eq.or (op_eqD hu)
theorem op_neA (hu : X.A.units + 64 < cLine) : OpR X (compareOp .NotEq) (rNeA X.kf) := op_ne.or (op_neD hu)
theorem decV (a b : Str) : decide (V.str a = V.str b) = decide (a = b) := by
  by_cases h : a = b
  · subst h; simp
  · rw [decide_eq_false h, decide_eq_false fun e => h (V.str.inj e)]
theorem c2_eq : C2 K (rEqA K) aEq := by
  intro G H m x y dx dy Q Qv r rx ry q w
  have gen : (okD dx m ∧ okD dy m ∧ Q (.bl (PyData.eqv (pyM dx m) (pyM dy m))) m) → rEqA K x y H Qv := fun ⟨o1, o2, q⟩ => .inr ⟨_, _, rx.dpM r o1.1, ry.dpM r o2.1, o1.2, o2.2, w.now r (.bl _) q⟩
  cases dx with
  | str a =>
    cases dy with
    | str b =>
      cases rx; cases ry
      refine .inl ⟨rfl, ?_⟩
      rw [decV]
      exact w.now r (.bl _) q
    | _ => exact gen q
  | _ => exact gen q
theorem c2_ne : C2 K (rNeA K) aNe := by
  intro G H m x y dx dy Q Qv r rx ry q w
  have gen : (okD dx m ∧ okD dy m ∧ Q (.bl (!PyData.eqv (pyM dx m) (pyM dy m))) m) → rNeA K x y H Qv := fun ⟨o1, o2, q⟩ => .inr ⟨_, _, rx.dpM r o1.1, ry.dpM r o2.1, o1.2, o2.2, w.now r (.bl _) q⟩
  cases dx with
  | str a =>
    cases dy with
    | str b =>
      cases rx; cases ry
      refine .inl ⟨rfl, ?_⟩
      rw [decV]
      exact w.now r (.bl _) q
    | _ => exact gen q
  | _ => exact gen q
theorem c2_isN : C2 K (fun x y H Q => y = .non ∧ Q (.bl (decide (x = .non))) H) aIsN := by
  intro G H m x y dx dy Q Qv r rx ry ⟨e, q⟩ w
  subst e
  cases ry
  refine ⟨rfl, ?_⟩
  cases rx <;> exact w.now r (.bl _) q
theorem c2_notN : C2 K (fun x y H Q => y = .non ∧ Q (.bl (!decide (x = .non))) H) aNotN := by
  intro G H m x y dx dy Q Qv r rx ry ⟨e, q⟩ w
  subst e
  cases ry
  refine ⟨rfl, ?_⟩
  cases rx <;> exact w.now r (.bl _) q
end

/-! isinstance -/
def tyN (d : D) (m : Mu) : Option String := match d with
  | .non => some "NoneType"
  | .bl _ => some "bool"
  | .int _ => some "int"
  | .str _ => some "str"
  | .tup _ => some "tuple"
  | .pair _ => none
  | .lst _ => some "list"
  | .scr _ => some "list"
  | .ref a => match m a with
    | some (.lst _) => some "list"
    | some .dE => some "dict"
    | some (.dN _) => some "dict"
    | some (.ins _ _ _) => some "object"
    | _ => none
  | .dct _ _ => some "dict"
def isiB (t T : String) : Bool := t == T || (t == "bool" && T == "int")
def tyNs : List String := ["NoneType", "bool", "int", "str", "tuple", "list", "dict"]
theorem kit_all : (tyNs.all fun t => ["bool", "int", "str", "tuple", "list", "dict"].all fun T => decide (kitB t T = some (isiB t T))) = true := by decide +kernel
theorem kit_is {t T : String} (ht : t ∈ tyNs) (hT : T ∈ ["bool", "int", "str", "tuple", "list", "dict"]) : kitB t T = some (isiB t T) := by
  have h := kit_all
  rw [List.all_eq_true] at h
  have h2 := h t ht
  rw [List.all_eq_true] at h2
  exact of_decide_eq_true (h2 T hT)
def isTs : List String := ["bool", "int", "str", "tuple", "list", "dict"]
/-- a thing whose object is known: a dict -/
theorem kit_ext {X : Cx} {pins : List (Addr × Obj)} {σ : L2.St} {H : Hp} {s : Shared} {a : Addr} {xs : List (NestedKey × Addr × V)} (I : Inv X pins σ H s) (e : H a = some (.ext (dictAt X.w a xs)) ∨ ∃ o, H a = some (.frz o (.ext (dictAt X.w a xs)))) : ∃ P : Heap → Prop, PySem.W.KitX X.K (.ref a) (.type "dict") P ∧ P s.heap ∧ Value.ref a ≠ .builtin "__main__.__loader__#opaque" := by
  obtain ⟨vs, r, o, es, ep, ho, hx, hd, he⟩ : dictAt X.w a xs s.heap := by
    rcases e with e | ⟨o, e⟩
    · exact (I.hok a _ e).1
    · exact (I.hok a _ e).2.1
  exact ⟨_, PySem.W.kitx_dict, ⟨o, ho, hx.1⟩, fun z => nomatch z⟩
inductive TyD (K : KF) (H : Hp) : V → Value → Prop
  | x {v : V} {c : Value} : TyX K H v c → TyD K H v c
  | d {a : Addr} {xs : List (NestedKey × Addr × V)} : (H a = some (.ext (dictAt K.wd a xs)) ∨ ∃ o, H a = some (.frz o (.ext (dictAt K.wd a xs)))) → TyD K H (.ref a) (.type "dict")
theorem ty_is {K : KF} {G H : Hp} {m : Mu} {d : D} {v : V} {t : String} (r : Rl K G H m) (h : Rp K G d v) (e : tyN d m = some t) : ∃ c, TyD K H v c ∧ ∀ T ∈ isTs, PySem.W.kitOne K c (.type T) = some (isiB t T) := by
  have go : ∀ t ∈ tyNs, ∀ T ∈ isTs, PySem.W.kitOne K (.type t) (.type T) = some (isiB t T) := fun t ht T hT => kit_ty (kit_is ht hT)
  cases h with
  | non => cases e; exact ⟨_, .x (.base .non), go _ (by decide)⟩
  | bl b => cases e; exact ⟨_, .x (.base (.bl b)), go _ (by decide)⟩
  | int i => cases e; exact ⟨_, .x (.base (.int i)), go _ (by decide)⟩
  | str x => cases e; exact ⟨_, .x (.base (.str x)), go _ (by decide)⟩
  | tup hq hr z => cases e; obtain ⟨o, _, hq⟩ := hq; exact ⟨_, .x (.fTuple (r.sub _ _ hq)), go _ (by decide)⟩
  | pair hq hr z => cases e
  | dct h1 => cases e; exact ⟨_, .d (.inr ⟨_, r.sub _ _ h1⟩), go _ (by decide)⟩
  | lst hq hr z => cases e; exact ⟨_, .x (.base (.lst (r.sub _ _ hq))), go _ (by decide)⟩
  | scr hq hr z =>
    cases e
    rcases r.sub.seq hq with (h | ⟨o, h⟩) | ⟨o, its, n, h1, h2, _⟩
    · exact ⟨_, .x (.base (.lst h)), go _ (by decide)⟩
    · exact ⟨_, .x (.base (.frz h)), go _ (by decide)⟩
    · exact ⟨_, .x (.kList h1 h2), go _ (by decide)⟩
  | ref a =>
    simp only [tyN] at e
    cases em : m a with
    | none => rw [em] at e; cases e
    | some o =>
      rw [em] at e
      obtain ⟨_, u, hu, ru⟩ := r.mu a _ em
      cases o with
      | lst es =>
        cases e
        obtain ⟨vs, e1, _⟩ := ru
        subst e1
        exact ⟨_, .x (.base (.lst hu)), go _ (by decide)⟩
      | dN kvs =>
        cases e
        obtain ⟨xs, e1, _⟩ := ru
        subst e1
        exact ⟨_, .d (.inl hu), go _ (by decide)⟩
      | dE =>
        cases e
        have e1 : u = .dT [] := ru
        subst e1
        exact ⟨_, .x (.base (.dT hu)), go _ (by decide)⟩
      | ins c dx fs =>
        cases e
        obtain ⟨C, vs, _, ic, e1, _⟩ := ru
        subst e1
        refine ⟨_, .x (.base (.ins hu ic.cl ic.ha ic.hn ic.htk ic.hm)), fun T hT => ?_⟩
        rw [ic.no T hT]
        have : ∀ T ∈ isTs, isiB "object" T = false := by decide
        rw [this T hT]
      | own y => cases e
def rIsiD (K : KF) : List V → Hp → VK → Prop := fun xs H Q => ∃ (x c : V) (t u : Value) (b : Bool), xs = [x, c] ∧ ClsV c u ∧ TyD K H x t ∧ PySem.W.kitOne K t u = some b ∧ Q (.bl b) H
theorem call_isiD {X : Cx} : CallR X (.builtin "isinstance") (rIsiD X.kf) := by
  intro pins s σ H xs us Q I r h
  obtain ⟨x, c, t, u, b, rfl, k, ty, e, q⟩ := h
  cases ty with
  | x ty => exact call_isi pins s σ H _ us Q I r ⟨x, c, t, u, b, rfl, k, ty, e, q⟩
  | d hq =>
    obtain ⟨u1, u2, rfl, r1, r2⟩ := vals2 r
    have e2 := k.eq r2
    subst e2
    cases (show u1 = Value.ref _ from r1)
    obtain ⟨P, Z, p, hx⟩ := kit_ext I hq
    exact PySem.W.kia_one Z I.kIn p e hx fun tk => ⟨.bl b, H, I.tok tk, rfl, q⟩
def dIsi (T : String) (ta : DT) : DT := fun r m Q => ta r m fun d m1 => ∃ t, tyN d m1 = some t ∧ Q (.bl (isiB t T)) m1
section
variable {X : Cx} {a b : Expr} {ta tb : DT} {pos p p2 : Pos}
theorem pd_isi {x : Str} {T : String} (ha : PD X a ta) (hg : Gl X "isinstance") (hm : X.mg "isinstance" = none) (hg2 : Gl X x) (hm2 : X.mg x = none) (hv2 : bootBuiltins x = some (.type T)) (hT : T ∈ ["bool", "int", "str", "tuple", "list", "dict"])
    (hs : starEach [a, .Name x p2] X.env = (false, eval a X.env) :: starEach [.Name x p2] X.env := by rfl) (hn : x ≠ "__name__" := by decide) (hdb : (x == ("__debug__" : Str)) = false := by decide) :
    PD X (.Call (.Name "isinstance" p) [a, .Name x p2] [] pos) (dIsi T ta) := by
  refine peM (pe_callB call_isiD hg hm (by decide +kernel) (pa_cons ha (pa_cons (pe_bltn (v := .ty T) hg2 hm2 hv2 rfl hn hdb) pa_nil) hs) (by decide) (by decide) hs) fun s H Q ⟨G, ro, m, Qd, hs, hr, q, w⟩ => ?_
  refine ⟨G, ro, m, _, hs, hr, q, fun v H1 G1 m1 d s1 r1 h1 ⟨t, e, q1⟩ => ?_⟩
  obtain ⟨c, h2, h3⟩ := ty_is r1 h1 e
  exact ⟨v, .ty T, c, .type T, isiB t T, rfl, .ty T, h2, h3 T hT, w _ _ _ _ _ s1 r1 (.bl _) q1⟩

/-! items, slices -/
def at_ (ds : List D) (i : Int) : Option D := if 0 ≤ i then ds[i.toNat]? else if -(ds.length : Int) ≤ i then ds[(i + ds.length).toNat]? else none
theorem at_V {K : KF} {G : Hp} {ds : List D} {vs : List V} {i : Int} {d : D} (h : RpL K G ds vs) (e : at_ ds i = some d) : ∃ v, atI vs i = some v ∧ Rp K G d v := by
  have hl := h.len
  unfold at_ at e
  by_cases h0 : 0 ≤ i
  · rw [if_pos h0] at e
    obtain ⟨v, ev, rv⟩ := h.get e
    refine ⟨v, ?_, rv⟩
    have : atI vs ((i.toNat : Nat) : Int) = some v := atI_nat ev
    rwa [Int.toNat_of_nonneg h0] at this
  · rw [if_neg h0] at e
    by_cases h1 : -(ds.length : Int) ≤ i
    · rw [if_pos h1] at e
      obtain ⟨v, ev, rv⟩ := h.get e
      refine ⟨v, ?_, rv⟩
      unfold atI ixN
      rw [if_neg h0, if_pos (by omega), ← hl]
      exact ev
    · rw [if_neg h1] at e; cases e
end
end Mn

set_option Elab.async false
set_option linter.all false
set_option maxRecDepth 100000
set_option maxHeartbeats 4000000
set_option autoImplicit false
namespace Mn
open PySem PySem.Spec PyProof.Rows L2
variable [Tbs]
section
variable {X : Cx} {K : KF}
/-! len -/
def aLen : DRL := fun ds m Q => match ds with
  | [.str x] => x.length ≤ sizeLine ∧ Q (.int x.length) m
  | [d] => ∃ es, seqOf d m = some es ∧ Q (.int es.length) m
  | _ => False
theorem callR_len : CallR X (.builtin "len") (fun xs H Q => (∃ p ys, xs = [.ref p] ∧ (SqL X.kf H p ys ∨ SqT X.kf H p ys) ∧ Q (.int ys.length) H) ∨ ∃ z, xs = [.str z] ∧ z.length ≤ sizeLine ∧ Q (.int z.length) H) := callR_or call_len_seq call_len_str
theorem RpL.one {G : Hp} {d : D} {vs : List V} (h : RpL K G [d] vs) : ∃ v, vs = [v] ∧ Rp K G d v := by
  cases h with
  | cons a b => cases b; exact ⟨_, rfl, a⟩
theorem RpL.two {G : Hp} {d e : D} {vs : List V} (h : RpL K G [d, e] vs) : ∃ v u, vs = [v, u] ∧ Rp K G d v ∧ Rp K G e u := by
  cases h with
  | cons a b => obtain ⟨u, e, r⟩ := b.one; subst e; exact ⟨_, _, rfl, a, r⟩
theorem cl_len : CL K (fun xs H Q => (∃ p ys, xs = [.ref p] ∧ (SqL K H p ys ∨ SqT K H p ys) ∧ Q (.int ys.length) H) ∨ ∃ z, xs = [.str z] ∧ z.length ≤ sizeLine ∧ Q (.int z.length) H) aLen := by
  intro G H m vs ds Q Qv r h q w
  match ds, h, q with
  | [.str x], h, q =>
    obtain ⟨v, e, rv⟩ := h.one
    subst e
    cases rv
    exact .inr ⟨x, rfl, q.1, w.now r (.int _) q.2⟩
  | [.non], h, ⟨es, e, q⟩ => cases e
  | [.bl b], h, ⟨es, e, q⟩ => cases e
  | [.int i], h, ⟨es, e, q⟩ => cases e
  | [.dct ks es0], h, ⟨es, e, q⟩ => cases e
  | [.tup t], h, ⟨es, e, q⟩ =>
    obtain ⟨v, e1, rv⟩ := h.one
    obtain ⟨p, us, e2, hq, hr, z⟩ := seq_is r rv e
    subst e1; subst e2
    exact .inl ⟨p, us, rfl, hq, by rw [← hr.len]; exact w.now r (.int _) q⟩
  | [.lst t], h, ⟨es, e, q⟩ =>
    obtain ⟨v, e1, rv⟩ := h.one
    obtain ⟨p, us, e2, hq, hr, z⟩ := seq_is r rv e
    subst e1; subst e2
    exact .inl ⟨p, us, rfl, hq, by rw [← hr.len]; exact w.now r (.int _) q⟩
  | [.scr t], h, ⟨es, e, q⟩ =>
    obtain ⟨v, e1, rv⟩ := h.one
    obtain ⟨p, us, e2, hq, hr, z⟩ := seq_is r rv e
    subst e1; subst e2
    exact .inl ⟨p, us, rfl, hq, by rw [← hr.len]; exact w.now r (.int _) q⟩
  | [.pair t], h, ⟨es, e, q⟩ =>
    obtain ⟨v, e1, rv⟩ := h.one
    obtain ⟨p, us, e2, hq, hr, z⟩ := seq_is r rv e
    subst e1; subst e2
    exact .inl ⟨p, us, rfl, hq, by rw [← hr.len]; exact w.now r (.int _) q⟩
  | [.ref t], h, ⟨es, e, q⟩ =>
    obtain ⟨v, e1, rv⟩ := h.one
    obtain ⟨p, us, e2, hq, hr, z⟩ := seq_is r rv e
    subst e1; subst e2
    exact .inl ⟨p, us, rfl, hq, by rw [← hr.len]; exact w.now r (.int _) q⟩
/-! all, any, sum over lists -/
def aAll : DRL := fun ds m Q => ∃ (d : D) (bs : List Bool), ds = [d] ∧ lstOf d m = some (bs.map D.bl) ∧ Q (.bl (bs.all id)) m
def aSum : DRL := fun ds m Q => ∃ (d : D) (ns : List Int), ds = [d] ∧ lstOf d m = some (ns.map D.int) ∧ Q (.int ns.sum) m
theorem cl_all : CL K (rAll K) aAll := by
  intro G H m vs ds Q Qv r h ⟨d, bs, e, el, q⟩ w
  subst e
  obtain ⟨v, e1, rv⟩ := h.one
  obtain ⟨p, us, e2, hq, hr, z⟩ := lst_is r rv el
  rw [hr.bls] at hq
  subst e1; subst e2
  exact ⟨p, bs, rfl, hq, w.now r (.bl _) q⟩
theorem cl_sum : CL K (rSum K) aSum := by
  intro G H m vs ds Q Qv r h ⟨d, bs, e, el, q⟩ w
  subst e
  obtain ⟨v, e1, rv⟩ := h.one
  obtain ⟨p, us, e2, hq, hr, z⟩ := lst_is r rv el
  rw [hr.ints] at hq
  subst e1; subst e2
  exact ⟨p, bs, rfl, hq, w.now r (.int _) q⟩
/-! max, min -/
theorem alike_ints (ns : List Int) : PySem.W.AlikeAll (ns.map PyData.int) := by
  refine ⟨fun x hx y hy => ?_, fun x hx => ?_⟩
  · obtain ⟨i, _, rfl⟩ := List.mem_map.mp hx
    obtain ⟨j, _, rfl⟩ := List.mem_map.mp hy
    rfl
  · obtain ⟨i, _, rfl⟩ := List.mem_map.mp hx
    exact fun z => nomatch z
theorem depth_ints : ∀ ns : List Int, PyData.depthAll (ns.map PyData.int) ≤ 1
  | [] => by simp [PyData.depthAll]
  | n :: ns => by
    have := depth_ints ns
    simp only [List.map_cons, PyData.depthAll, PyData.depth]
    omega
theorem dp_ints {K : PySem.W.Frag} {H : Hp} : ∀ ns : List Int, DpAll K H (ns.map V.int) (ns.map PyData.int)
  | [] => .nil
  | n :: ns => .cons (.int n) (dp_ints ns)
def rMaxT (K : KF) : List V → Hp → VK → Prop := fun vs H Q => ∃ (a : Addr) (n : Int) (ns : List Int), vs = [V.ref a] ∧ (SqL K H a ((n :: ns).map V.int) ∨ SqT K H a ((n :: ns).map V.int)) ∧ Q (.int (ns.foldl max n)) H
theorem cr_maxT (hc : X.calm = true) (hu : X.A.units + 64 < cLine) : CallR X (.builtin "max") (rMaxT X.kf) := by
  intro pins s σ H vs us Q I r h
  obtain ⟨a, n, ns, rfl, hs, q⟩ := h
  rw [Vals.ref1 r]
  have hd : X.A.units + 1 + PyData.depthAll (PyData.int n :: ns.map PyData.int) < cLine := by
    have := depth_ints (n :: ns)
    rw [List.map_cons] at this
    omega
  have al : PySem.W.AlikeAll (PyData.int n :: ns.map PyData.int) := alike_ints (n :: ns)
  rcases hs with hs | hs
  · obtain ⟨its, rv, hl, _⟩ := I.list hs
    obtain ⟨as, hr⟩ := Dp.readsAll I _ _ its (dp_ints (n :: ns)) rv
    refine PySem.W.max_list_data (I.ok.hd hc) hl.isList hr al hd fun i v h' tk bs hv rd hk => ?_
    rw [PySem.W.maxD_ints] at rd
    cases rd
    exact ⟨.int _, H, I.kept hk, ⟨_, rfl⟩, q⟩
  · obtain ⟨its, rv, hl, _⟩ := I.tuple hs
    obtain ⟨as, hr⟩ := Dp.readsAll I _ _ its (dp_ints (n :: ns)) rv
    refine PySem.W.max_tuple_data (I.ok.hd hc) (show s.heap.IsTuple a its.toArray from hl) hr al hd fun i v h' tk bs hv rd hk => ?_
    rw [PySem.W.maxD_ints] at rd
    cases rd
    exact ⟨.int _, H, I.kept hk, ⟨_, rfl⟩, q⟩
def aMax : DRL := fun ds m Q => match ds with
  | [.int i, .int j] => Q (.int (max i j)) m
  | [d] => ∃ (n : Int) (ns : List Int), seqOf d m = some (D.int n :: ns.map D.int) ∧ Q (.int (ns.foldl max n)) m
  | _ => False
def aMin : DRL := fun ds m Q => match ds with
  | [.int i, .int j] => Q (.int (min i j)) m
  | [d] => ∃ (n : Int) (ns : List Int), seqOf d m = some (D.int n :: ns.map D.int) ∧ Q (.int (ns.foldl min n)) m
  | _ => False
theorem callR_max (hc : X.calm = true) (hu : X.A.units + 64 < cLine) : CallR X (.builtin "max") (fun xs H Q => (∃ i j, xs = [.int i, .int j] ∧ Q (.int (if j > i then j else i)) H) ∨ rMaxT X.kf xs H Q) := callR_or (call_max2 hc) (cr_maxT hc hu)
theorem cl_max : CL K (fun xs H Q => (∃ i j, xs = [.int i, .int j] ∧ Q (.int (if j > i then j else i)) H) ∨ rMaxT K xs H Q) aMax := by
  intro G H m vs ds Q Qv r h q w
  match ds, h, q with
  | [.int i, .int j], h, q =>
    obtain ⟨v, u, e, r1, r2⟩ := h.two
    subst e; cases r1; cases r2
    refine .inl ⟨i, j, rfl, ?_⟩
    have e : (if j > i then j else i) = max i j := by split <;> omega
    rw [e]
    exact w.now r (.int _) q
  | [d], h, q =>
    have q' : ∃ (n : Int) (ns : List Int), seqOf d m = some (D.int n :: ns.map D.int) ∧ Q (.int (ns.foldl max n)) m := by
      cases d <;> exact q
    obtain ⟨n, ns, es, q⟩ := q'
    obtain ⟨v, e1, rv⟩ := h.one
    obtain ⟨p, us, e2, hq, hr, z⟩ := seq_is r rv es
    have e3 : us = (n :: ns).map V.int := RpL.ints (ns := n :: ns) hr
    subst e1; subst e2; subst e3
    exact .inr ⟨p, n, ns, rfl, hq, w.now r (.int _) q⟩
/-! tuple(x), list(x), int(x) -/
def aTuple : DRL := fun ds m Q => match ds with
  | [.tup es] => Q (.tup es) m
  | [d] => ∃ es, lstOf d m = some es ∧ Q (.tup es) m
  | _ => False
theorem cl_tuple : CL K (fun xs H Q => ∃ p ys, xs = [.ref p] ∧ ((SqL K H p ys ∧ NewT H ys Q) ∨ (SqT K H p ys ∧ Q (.ref p) H))) aTuple := by
  intro G H m vs ds Q Qv r h q w
  match ds, h, q with
  | [d], h, q =>
    obtain ⟨v, e1, rv⟩ := h.one
    subst e1
    have gen : (∃ es, lstOf d m = some es ∧ Q (.tup es) m) → ∃ p ys, [v] = [V.ref p] ∧ ((SqL K H p ys ∧ NewT H ys Qv) ∨ (SqT K H p ys ∧ Qv (.ref p) H)) := fun ⟨es, el, q⟩ => by
      obtain ⟨p, us, e2, hq, hr, z⟩ := lst_is r rv el
      subst e2
      exact ⟨p, us, rfl, .inl ⟨hq, Rl.newTup w r hr z q⟩⟩
    cases d with
    | tup es => cases rv with
      | tup h1 h2 h3 => exact ⟨_, _, rfl, .inr ⟨h1.sq r.sub _, w.now r (.tup h1 h2 h3) q⟩⟩
    | _ => exact gen q
  | a :: b :: c, h, q => exact False.elim (by cases a <;> exact q)
def aList : DRL := fun ds m Q => ∃ d es, ds = [d] ∧ seqOf d m = some es ∧ Q (.lst es) m
theorem cl_list : CL K (fun xs H Q => ∃ p ys, xs = [.ref p] ∧ (SqL K H p ys ∨ SqT K H p ys) ∧ ∀ l, H l = none → Q (.ref l) (upd H l (.lst ys))) aList := by
  intro G H m vs ds Q Qv r h ⟨d, es, e, el, q⟩ w
  subst e
  obtain ⟨v, e1, rv⟩ := h.one
  obtain ⟨p, us, e2, hq, hr, z⟩ := seq_is r rv el
  subst e1; subst e2
  exact ⟨p, us, rfl, hq, Rl.newLst w r hr z q⟩
def aInt : DRL := fun ds m Q => match ds with
  | [.int i] => Q (.int i) m
  | [.bl b] => Q (.int (if b then 1 else 0)) m
  | _ => False
/-! repr -/
def Shows (d : PyData) : Prop := d.showable = true ∧ d.hasDict = false ∧ d.depth ≤ 60 ∧ d.shown.length ≤ sizeLine
/-! len(set(t)), t a tuple of ints -/
def tLenSetT (K : KF) (ta : TE) : TE := fun σ H Q => ta σ H fun x H1 => ∃ (p : Addr) (ns : List Int), x = .ref p ∧ SqT K H1 p (ns.map V.int) ∧ ns.length ≤ 1000 ∧ ∀ out : List Int, out.Nodup → (∀ k, k ∈ out ↔ k ∈ ns) → Q (.int out.length) H1
theorem pe_lenSetT {a : Expr} {ta : TE} {p p2 q pos : Pos} (hg : Gl X "len") (hm : X.mg "len" = none) (hg2 : Gl X "set") (hm2 : X.mg "set" = none) (ha : PE X a ta) (hc : X.calm = true := by rfl)
    (na : starEach [a] X.env = (false, eval a X.env) :: starEach [] X.env := by rfl) : PE X (.Call (.Name "len" p) [.Call (.Name "set" p2) [a] [] q] [] pos) (tLenSetT X.kf ta) := by
  refine ⟨fun pins s σ H Q I h => ?_⟩
  refine Call_ (ld_blt I hg hm boot_len ?_)
  refine PyProof.Rows.callWith_builtin1 (PyProof.Rows.args_cons ?_ rfl) rfl rfl
  refine Call_ (ld_blt I hg2 hm2 boot_set ?_)
  refine PyProof.Rows.callWith_type1 (PyProof.Rows.args_cons (thn (ha.run pins s σ H _ I h) fun v s1 ⟨x, H1, I1, r1, q1⟩ => PyProof.Rows.args_nil ?_) na) na rfl
  obtain ⟨l, ns, rfl, hq, hl, q1⟩ := q1
  cases r1
  obtain ⟨its, r, pt, hz⟩ := I1.tuple hq
  have hi : IntsAre its.toArray.toList ns := ints_of_vals r
  refine call_set_tupI ns (I1.ok.hd hc) (show s1.heap.IsTuple l its.toArray from pt) hi (by unfold scanBound; omega) fun h' tk c R1 hcn k => ?_
  obtain ⟨o, es, ep, t, ho, hex, hdt, g, nd, hm3, hb, hf, hn, hr, hl2⟩ := R1
  refine PyProof.Rows.args_nil ?_
  have I2 : Inv X pins σ H1 { s1 with heap := h', toks := tk } := I1.kept k
  refine call_len_set ho hex hdt hf (by omega) ⟨.int es.size, H1, I2.tok _, ⟨_, rfl⟩, ?_⟩
  have z := q1 (es.toList.map keyOf) nd fun j => by rw [← hm3 j, decide_eq_true_eq]
  rw [List.length_map, Array.length_toList] at z
  exact z
def dLenSet (ta : DT) : DT := fun r m Q => ta r m fun d m1 => ∃ ns : List Int, d = .tup (ns.map D.int) ∧ ns.length ≤ 1000 ∧ ∀ out : List Int, out.Nodup → (∀ k, k ∈ out ↔ k ∈ ns) → Q (.int out.length) m1
theorem pd_lenSet {a : Expr} {ta : DT} {p p2 q pos : Pos} (hg : Gl X "len") (hm : X.mg "len" = none) (hg2 : Gl X "set") (hm2 : X.mg "set" = none) (ha : PD X a ta) (hc : X.calm = true := by rfl)
    (na : starEach [a] X.env = (false, eval a X.env) :: starEach [] X.env := by rfl) : PD X (.Call (.Name "len" p) [.Call (.Name "set" p2) [a] [] q] [] pos) (dLenSet ta) := by
  refine peM (pe_lenSetT hg hm hg2 hm2 ha hc na) fun s H Q ⟨G, ro, m, Qd, hs, hr, q, w⟩ => ?_
  refine ⟨G, ro, m, _, hs, hr, q, fun v H1 G1 m1 d s1 r1 h1 ⟨ns, e, hl, q1⟩ => ?_⟩
  subst e
  cases h1 with
  | tup h2 h3 h4 =>
    rw [h3.ints] at h2
    exact ⟨_, ns, rfl, h2.sq r1.sub _, hl, fun out h5 h6 => w _ _ _ _ _ s1 r1 (.int _) (q1 out h5 h6)⟩
/-! list(range(n)) -/
def rgD (a b : Int) : List D := (List.range (b - a).toNat).map fun i => D.int (a + (i : Nat))
theorem rgD_len (a b : Int) : (rgD a b).length = (b - a).toNat := by unfold rgD; rw [List.length_map, List.length_range]
def dListRg (ta : DT) : DT := fun r m Q => ta r m fun d m1 => ∃ n : Int, d = .int n ∧ 0 ≤ n ∧ n ≤ 16777216 ∧ Q (.lst (rgD 0 n)) m1
end
end Mn

set_option Elab.async false
set_option linter.all false
set_option maxRecDepth 100000
set_option maxHeartbeats 4000000
set_option autoImplicit false
namespace Mn
open PySem PySem.Spec PyProof.Rows L2
variable [Tbs]

/-! targets -/
abbrev DG := D → Ro → (Ro → Prop) → Prop
abbrev DGs := List D → Ro → (Ro → Prop) → Prop
def gV (i : Nat) : DG := fun d r P => P (r.set i (some d))
def gN : DGs := fun ds r P => ds = [] ∧ P r
def gC (g : DG) (gs : DGs) : DGs := fun ds r P => ∃ d ds', ds = d :: ds' ∧ g d r fun r' => gs ds' r' P
def tupOf (d : D) : Option (List D) := match d with
  | .tup ds => some ds
  | .pair ds => some ds
  | _ => none
theorem tupOf_tup (ds : List D) : tupOf (.tup ds) = some ds := rfl
theorem tupOf_pair (ds : List D) : tupOf (.pair ds) = some ds := rfl
def gT (n : Nat) (gs : DGs) : DG := fun d r P => ∃ ds, tupOf d = some ds ∧ ds.length = n ∧ gs ds r P
def GC (K : KF) (g : TG) (dg : DG) (vs : List Nat) : Prop := ∀ (G H : Hp) (m : Mu) (s : L2.St) (r : Ro) (x : V) (d : D) (P : Ro → Prop) (Pv : L2.St → Hp → Prop),
  Rl K G H m → RpS K G r s → Rp K G d x → dg d r P → (∀ s' r', RpS K G r' s' → wipe s' vs = wipe s vs → P r' → Pv s' H) → g x s H Pv
def GCs (K : KF) (g : TGs) (dg : DGs) (vs : List Nat) : Prop := ∀ (G H : Hp) (m : Mu) (s : L2.St) (r : Ro) (xs : List V) (ds : List D) (P : Ro → Prop) (Pv : L2.St → Hp → Prop),
  Rl K G H m → RpS K G r s → RpL K G ds xs → dg ds r P → (∀ s' r', RpS K G r' s' → wipe s' vs = wipe s vs → P r' → Pv s' H) → g xs s H Pv
theorem wipe_get (s : L2.St) (j : Nat) : ∀ vs : List Nat, (wipe s vs)[j]? = if j ∈ vs then (if j < s.length then some none else none) else s[j]?
  | [] => by simp [wipe]
  | v :: vs => by
    unfold wipe
    by_cases h : v = j
    · subst h
      rw [if_pos List.mem_cons_self]
      by_cases hl : v < s.length
      · rw [List.getElem?_set_self (by rw [wipe_length]; exact hl), if_pos hl]
      · rw [List.getElem?_eq_none (by rw [List.length_set, wipe_length]; omega), if_neg hl]
    · rw [List.getElem?_set_ne h, wipe_get s j vs]
      have e : j ∈ v :: vs ↔ j ∈ vs := by simp [Ne.symm h]
      simp only [e]
theorem wipe_set {s : L2.St} {i : Nat} {x : Option V} {vs : List Nat} (h : i ∈ vs) : wipe (s.set i x) vs = wipe s vs := by
  apply List.ext_getElem?
  intro j
  rw [wipe_get, wipe_get, List.length_set]
  by_cases hj : j ∈ vs
  · rw [if_pos hj, if_pos hj]
  · rw [if_neg hj, if_neg hj, List.getElem?_set_ne (fun e : i = j => hj (by rw [← e]; exact h))]
theorem wipe_wipe (s : L2.St) (vs : List Nat) : wipe (wipe s vs) vs = wipe s vs := by
  apply List.ext_getElem?
  intro j
  rw [wipe_get, wipe_get, wipe_length]
  by_cases hj : j ∈ vs
  · rw [if_pos hj, if_pos hj]
  · rw [if_neg hj, if_neg hj]
section
variable {X : Cx} {K : KF} {vs : List Nat}
theorem gc_name {i : Nat} (h : i ∈ vs) : GC K (gName i) (gV i) vs := fun G H m s r x d P Pv rl rs rx q k => k _ _ (rs.set rx i) (wipe_set h) q
theorem gcs_nil : GCs K gNil gN vs := by
  intro G H m s r xs ds P Pv rl rs rx ⟨e, q⟩ k
  subst e
  cases rx
  exact ⟨rfl, k _ _ rs rfl q⟩
theorem gcs_cons {g : TG} {gs : TGs} {dg : DG} {dgs : DGs} (h1 : GC K g dg vs) (h2 : GCs K gs dgs vs) : GCs K (gCons g gs) (gC dg dgs) vs := by
  intro G H m s r xs ds P Pv rl rs rx ⟨d, ds', e, q⟩ k
  subst e
  cases rx with
  | cons ra rb =>
    refine ⟨_, _, rfl, h1 G H m s r _ d _ _ rl rs ra q fun s' r' rs' hw q' => ?_⟩
    exact h2 G H m s' r' _ ds' P Pv rl rs' rb q' fun s2 r2 rs2 hw2 q2 => k s2 r2 rs2 (hw2.trans hw) q2
theorem gc_tup {n : Nat} {gs : TGs} {dgs : DGs} (h : GCs K gs dgs vs) : GC K (gTup K n gs) (gT n dgs) vs := by
  intro G H m s r x d P Pv rl rs rx ⟨ds, e, hl, q⟩ k
  cases rx with
  | tup h1 h2 h3 => cases e; exact ⟨_, _, rfl, h1.sq rl.sub _, by rw [← h2.len]; exact hl, h G H m s r _ ds P Pv rl rs h2 q k⟩
  | pair h1 h2 h3 => cases e; exact ⟨_, _, rfl, .inl (.inl (rl.sub _ _ h1)), by rw [← h2.len]; exact hl, h G H m s r _ ds P Pv rl rs h2 q k⟩
  | _ => cases e

/-! what is walked -/
structure Wk (K : KF) (G0 : Hp) (J : It) (items : List D) : Prop where
  go : ∀ (G H : Hp) (m : Mu) (i : Nat) (d : D), Same G0 G → Rl K G H m → items[i]? = some d → J.go i H ∧ ∀ x H', J.yld i H x H' → ∃ G', Rl K G' H' m ∧ Stp G H m G' H' m ∧ Rp K G' d x
  stop : ∀ (G H : Hp) (m : Mu), Same G0 G → Rl K G H m → J.stop items.length H
abbrev DI := Ro → Mu → (List D → Mu → Prop) → Prop
def lfI (K : KF) (src : DI) : TI := fun s H R => ∃ G r m Q, RpS K G r s ∧ Rl K G H m ∧ src r m Q ∧
  ∀ J H' G' m' items, Stp G H m G' H' m' → Rl K G' H' m' → Wk K G' J items → Q items m' → R J H'
def PDI (X : Cx) (tg iter : Expr) (src : DI) : Prop := PI X tg iter (lfI X.kf src)
theorem piM {tg iter : Expr} {w w' : TI} (h : PI X tg iter w) (i : ∀ s H R, w' s H R → w s H R) : PI X tg iter w' := ⟨fun pins s σ H R I q => h.run pins s σ H R I (i _ _ _ q)⟩
/-- a list or a tuple that does not change -/
def sSeq (t : DT) : DI := fun r m Q => t r m fun d m1 => ∃ ds, (d = .lst ds ∨ d = .tup ds) ∧ Q ds m1
theorem wk_list {G : Hp} {a : Addr} {ds : List D} {us : List V} (h : G a = some (.lst us)) (hr : RpL K G ds us) : Wk K G (Itl K a) ds := by
  refine ⟨fun G1 H m i d sm rl e => ?_, fun G1 H m sm rl => ?_⟩
  · obtain ⟨v, ev, rv⟩ := hr.get e
    have hq : SqL K H a us := .inl (.inl (rl.sub _ _ (sm _ _ h)))
    refine ⟨⟨us, v, hq, ev⟩, fun x H' ⟨eH, y⟩ => ?_⟩
    subst eH
    have ex := y us hq
    rw [ev] at ex
    cases ex
    exact ⟨G1, rl, Stp.refl, rv.same sm⟩
  · exact ⟨us, .inl (.inl (rl.sub _ _ (sm _ _ h))), by rw [hr.len]; exact Nat.le_refl _⟩
theorem wk_tup {G : Hp} {a : Addr} {ds : List D} {us : List V} (h : TpG G a us) (hr : RpL K G ds us) : Wk K G (Itt K a) ds := by
  refine ⟨fun G1 H m i d sm rl e => ?_, fun G1 H m sm rl => ?_⟩
  · obtain ⟨v, ev, rv⟩ := hr.get e
    have hq : SqT K H a us := (h.same sm).sq rl.sub _
    refine ⟨⟨us, v, hq, ev⟩, fun x H' ⟨eH, y⟩ => ?_⟩
    subst eH
    have ex := y us hq
    rw [ev] at ex
    cases ex
    exact ⟨G1, rl, Stp.refl, rv.same sm⟩
  · exact ⟨us, (h.same sm).sq rl.sub _, by rw [hr.len]; exact Nat.le_refl _⟩
theorem pe_split {e : Expr} {t : DT} (h : PD X e t) {tg : Expr} : PI X tg e (fun s H R => lf X.kf t s H fun x H1 => ∃ a, x = .ref a ∧ (((∃ us, SqL X.kf H1 a us) ∧ R (Itl X.kf a) H1) ∨ ((∃ us, SqT X.kf H1 a us) ∧ R (Itt X.kf a) H1))) := by
  refine ⟨fun pins s σ H R I q => ?_⟩
  refine thn (PE.run h pins s σ H _ I q) fun v s1 ⟨x, H1, I1, r1, q1⟩ => ?_
  obtain ⟨a, e1, q1⟩ := q1
  subst e1
  cases r1
  rcases q1 with ⟨⟨us, hq⟩, q2⟩ | ⟨⟨us, hq⟩, q2⟩
  · obtain ⟨its, rv, p, hz⟩ := I1.list hq
    refine wpAny_pyIter_list p.isList ?_
    refine ⟨s1.heap.objs.size, [s1.heap.objs.size], _, _, H1, rfl, I1.kept (t' := s1.toks) fun b o e => Heap.get?_push_of_some _ e, turn_list a _, ⟨_, Heap.get?_push_size _ rfl, rfl, rfl⟩, fun b hb => ?_, q2⟩
    obtain rfl : b = s1.heap.objs.size := by simpa using hb
    exact I1.fpOk (Nat.le_refl _) (I1.hok.fresh (Nat.le_refl _))
  · obtain ⟨its, rv, p, hz⟩ := I1.tuple hq
    refine wpAny_pyIter_tuple (show s1.heap.IsTuple a its.toArray from p) ?_
    refine ⟨s1.heap.objs.size, [s1.heap.objs.size], _, _, H1, rfl, I1.kept (t' := s1.toks) fun b o e => Heap.get?_push_of_some _ e, turn_tuple a _, ⟨_, Heap.get?_push_size _ rfl, rfl, rfl⟩, fun b hb => ?_, q2⟩
    obtain rfl : b = s1.heap.objs.size := by simpa using hb
    exact I1.fpOk (Nat.le_refl _) (I1.hok.fresh (Nat.le_refl _))
theorem pdi_seq {tg e : Expr} {t : DT} (h : PD X e t) : PDI X tg e (sSeq t) := by
  refine piM (pe_split h) fun s H R ⟨G, r, m, Q, hs, hr, q, w⟩ => ?_
  refine ⟨G, r, m, _, hs, hr, q, fun v H1 G1 m1 d s1 r1 h1 ⟨ds, e, q1⟩ => ?_⟩
  rcases e with e | e
  · subst e
    cases h1 with
    | lst h2 h3 h4 => exact ⟨_, rfl, .inl ⟨⟨_, .inl (.inl (r1.sub _ _ h2))⟩, w _ _ _ _ _ s1 r1 (wk_list h2 h3) q1⟩⟩
  · subst e
    cases h1 with
    | tup h2 h3 h4 => exact ⟨_, rfl, .inr ⟨⟨_, h2.sq r1.sub _⟩, w _ _ _ _ _ s1 r1 (wk_tup h2 h3) q1⟩⟩
/-- range(n), range(a, b) -/
def sRg1 (t : DT) : DI := fun r m Q => t r m fun d m1 => ∃ n : Int, d = .int n ∧ -(2 ^ 62) ≤ n ∧ n < 2 ^ 62 ∧ Q (rgD 0 n) m1
def sRg2 (t u : DT) : DI := fun r m Q => t r m fun d m1 => u r m1 fun e m2 => ∃ a b : Int, d = .int a ∧ e = .int b ∧ (-(2 ^ 62) ≤ a ∧ a < 2 ^ 62 ∧ -(2 ^ 62) ≤ b ∧ b < 2 ^ 62) ∧ Q (rgD a b) m2
theorem wk_rg {G : Hp} (a b : Int) : Wk K G (Itr a (b - a).toNat) (rgD a b) := by
  refine ⟨fun G1 H m i d sm rl e => ?_, fun G1 H m sm rl => ?_⟩
  · unfold rgD at e
    rw [List.getElem?_map] at e
    by_cases hi : i < (b - a).toNat
    · rw [List.getElem?_range hi] at e
      cases e
      refine ⟨hi, fun x H' ⟨eH, ex⟩ => ?_⟩
      subst eH; subst ex
      exact ⟨G1, rl, Stp.refl, .int _⟩
    · rw [List.getElem?_eq_none (by rw [List.length_range]; omega)] at e
      cases e
  · rw [rgD_len]; exact Nat.le_refl _
theorem pdi_rg1 {tg a : Expr} {t : DT} {p pos : Pos} (h : PD X a t) (hg : Gl X "range") (hm : X.mg "range" = none) (hs : starEach [a] X.env = [(false, eval a X.env)] := by rfl) (na : starEach [a] X.env = (false, eval a X.env) :: starEach [] X.env := by rfl) : PDI X tg (.Call (.Name "range" p) [a] [] pos) (sRg1 t) := by
  refine piM (pi_range1 hg hm (pa_cons h pa_nil na) hs) fun s H R ⟨G, r, m, Q, hs, hr, q, w⟩ => ?_
  refine ⟨G, r, m, _, hs, hr, q, fun v H1 G1 m1 d s1 r1 h1 ⟨n, e, l1, l2, q1⟩ => ?_⟩
  subst e
  cases h1
  have z := w (Itr 0 (n - 0).toNat) H1 G1 m1 _ s1 r1 (wk_rg 0 n) q1
  rw [Int.sub_zero] at z
  exact ⟨n, rfl, l1, l2, z⟩
end

/-! list comprehensions -/
def lcGo (g : DG) (tt : DB) (te : DT) (r : Ro) : List D → List D → Mu → (List D → Mu → Prop) → Prop
  | [], acc, m, Q => Q acc m
  | d :: ds, acc, m, Q => g d r fun r1 => tt r1 m fun b m1 => if b = true then te r1 m1 fun y m2 => lcGo g tt te r ds (acc ++ [y]) m2 Q else lcGo g tt te r ds acc m1 Q
def wipeD (r : Ro) : List Nat → Ro
  | [] => r
  | v :: vs => (wipeD r vs).set v none
theorem RpS.wipe {K : KF} {G : Hp} {r : Ro} {s : L2.St} (h : RpS K G r s) : ∀ vs : List Nat, RpS K G (wipeD r vs) (L2.wipe s vs)
  | [] => h
  | v :: vs => (RpS.wipe h vs).forget v none
def dYes : DB := fun _ m Q => Q true m
def dLc (src : DI) (vs : List Nat) (g : DG) (tt : DB) (te : DT) : DT := fun r m Q => src r m fun items m1 => items.length ≤ sizeLine ∧ lcGo g tt te (wipeD r vs) items [] m1 fun acc m2 => Q (.lst acc) m2
def dLcM (src : DI) (vs : List Nat) (g : DG) (tt : DB) (te : DT) : DT := fun r m Q => src r m fun items m1 => items.length ≤ sizeLine ∧ lcGo g tt te (wipeD r vs) items [] m1 fun acc m2 => ∀ p, m2 p = none → Q (.ref p) (up m2 p (.lst acc))
section
variable {X : Cx} {elt tg iter : Expr} {ifs : List Expr} {scope : Scope} {own : List (Str × Nat)} {pos : Pos} {src : DI} {g : TG} {dg : DG} {tt : DB} {te : DT}
/-- the loop behind what is walked -/
theorem lc_loop {vs : List Nat} (gc : GC X.kf g dg vs) {s : L2.St} {H : Hp} {Q : VK} {QL : List D → Mu → Prop} {G : Hp} {r : Ro} {m : Mu} (hs : RpS X.kf G r s) {J : It} {H1 G1 : Hp} {m1 : Mu} {items : List D} (s1 : Stp G H m G1 H1 m1) (r1 : Rl X.kf G1 H1 m1) (wk : Wk X.kf G1 J items) (hl : items.length ≤ sizeLine) (q1 : lcGo dg tt te (wipeD r vs) items [] m1 QL)
    (fin : ∀ D us acc H' G' m', H D = none → Stp G H m G' H' m' → Rl X.kf G' H' m' → H' D = some (.lst us) → G' D = none → m' D = none → RpL X.kf G' acc us → acc.length ≤ sizeLine → QL acc m' → Q (.ref D) H') :
    ∀ D, H1 D = none → ∃ W : Nat → Nat → Hp → Prop, (∃ m, W 0 m (upd H1 D (.lst []))) ∧ ∀ i m H, W i m H →
  (J.stop i H ∧ Q (.ref D) H) ∨ (J.go i H ∧ ∃ Nx : Hp → Prop, (∀ H', Nx H' → ∃ m', m' < m ∧ W (i + 1) m' H') ∧ ∀ x H', J.yld i H x H' → g x (wipe s vs) H' fun σ2 H2 => wipe σ2 vs = wipe s vs ∧ lfB X.kf tt σ2 H2 fun b H3 =>
    if b = true then lf X.kf te σ2 H3 fun y H4 => ∃ acc, H4 D = some (.lst acc) ∧ acc.length < sizeLine ∧ Nx (upd H4 D (.lst (acc ++ [y]))) else Nx H3) := by
  intro D hD
  obtain ⟨gD, mD⟩ := r1.free hD
  -- G, m as they stand at each turn; the list at D is neither
  refine ⟨fun i k H' => i + k = items.length ∧ ∃ G' m' us acc, Stp G1 H1 m1 G' H' m' ∧ Rl X.kf G' H' m' ∧ H' D = some (.lst us) ∧ G' D = none ∧ m' D = none ∧ RpL X.kf G' acc us ∧ acc.length ≤ i ∧ lcGo dg tt te (wipeD r vs) (items.drop i) acc m' QL,
    ⟨items.length, by omega, G1, m1, [], [], ⟨Same.refl _, fun b o e1 e2 e3 _ => by rw [upd_ne (ne_of_none e1 hD)]; exact ⟨e1, e2, e3⟩, fun b o e => ⟨o, by rw [upd_ne (ne_of_none e hD)]; exact e⟩⟩, ?_, upd_same, gD, mD, .nil, Nat.le_refl _, by rw [List.drop_zero]; exact q1⟩, fun i k H' hW => ?_⟩
  · exact r1.hid gD mD (.inl hD) _
  · obtain ⟨ek, G', m', us, acc, st, rl, hD', gD', mD', ra, la, qq⟩ := hW
    by_cases hi : i < items.length
    · have ed : items[i]? = some items[i] := List.getElem?_eq_getElem hi
      rw [List.drop_eq_getElem_cons hi] at qq
      obtain ⟨go, yl⟩ := wk.go G' H' m' i _ st.g rl ed
      refine .inr ⟨go, fun H2 => (i + 1) + (k - 1) = items.length ∧ ∃ G' m' us acc, Stp G1 H1 m1 G' H2 m' ∧ Rl X.kf G' H2 m' ∧ H2 D = some (.lst us) ∧ G' D = none ∧ m' D = none ∧ RpL X.kf G' acc us ∧ acc.length ≤ i + 1 ∧ lcGo dg tt te (wipeD r vs) (items.drop (i + 1)) acc m' QL,
        fun H2 h2 => ⟨k - 1, by omega, h2⟩, fun x H2 hy => ?_⟩
      obtain ⟨G2, rl2, st2, rx⟩ := yl x H2 hy
      obtain ⟨hD2, gD2, _⟩ := st2.fr D _ hD' gD' mD' (fun _ z => nomatch z)
      refine gc G2 H2 m' (wipe s vs) (wipeD r vs) x _ _ _ rl2 ((((hs.same s1.g).same st.g).same st2.g).wipe vs) rx qq fun s3 r3 rs3 hw q3 => ⟨by rw [hw]; exact wipe_wipe s vs, ?_⟩
      refine ⟨G2, r3, m', _, rs3, rl2, q3, fun b H3 G3 m3 st3 rl3 q4 => ?_⟩
      obtain ⟨hD3, gD3, mD3⟩ := st3.fr D _ hD2 gD2 mD' (fun _ z => nomatch z)
      cases b with
      | false =>
        rw [if_neg Bool.false_ne_true] at q4 ⊢
        exact ⟨by omega, G3, m3, us, acc, (st.trans st2).trans st3, rl3, hD3, gD3, mD3, (ra.same st2.g).same st3.g, by omega, q4⟩
      | true =>
        rw [if_pos rfl] at q4 ⊢
        refine ⟨G3, r3, m3, _, rs3.same st3.g, rl3, q4, fun y H4 G4 m4 d4 st4 rl4 ry q5 => ?_⟩
        obtain ⟨hD4, gD4, mD4⟩ := st4.fr D _ hD3 gD3 mD3 (fun _ z => nomatch z)
        have lu : us.length ≤ i := by rw [← ra.len]; exact la
        refine ⟨us, hD4, by omega, by omega, G4, m4, us ++ [y], acc ++ [d4], ?_, ?_, upd_same, gD4, mD4, (((ra.same st2.g).same st3.g).same st4.g).app (.cons ry .nil), by rw [List.length_append, List.length_singleton]; omega, q5⟩
        · have stt := ((st.trans st2).trans st3).trans st4
          refine ⟨stt.g, fun b o e1 e2 e3 nt => ?_, fun b o e => ?_⟩
          · by_cases hb : b = D
            · rw [hb, hD] at e1; cases e1
            · obtain ⟨z1, z2, z3⟩ := stt.fr b o e1 e2 e3 nt
              rw [upd_ne hb]; exact ⟨z1, z2, z3⟩
          · obtain ⟨o', z⟩ := stt.up b o e
            by_cases hb : b = D
            · exact ⟨_, by rw [hb]; exact upd_same⟩
            · exact ⟨o', by rw [upd_ne hb]; exact z⟩
        · exact rl4.hid gD4 mD4 (.inr ⟨_, hD4⟩) _
    · have ei : i = items.length := by omega
      subst ei
      rw [List.drop_length] at qq
      exact .inl ⟨wk.stop G' H' m' st.g rl, fin D us acc H' G' m' (s1.free hD) (s1.trans st) rl hD' gD' mD' ra (by omega) qq⟩
/-- the loop, whatever is done with the list -/
theorem lc_data {vs : List Nat} (gc : GC X.kf g dg vs) {s : L2.St} {H : Hp} {Q : VK} {QL : List D → Mu → Prop} {G : Hp} {r : Ro} {m : Mu} (hs : RpS X.kf G r s) (hr : Rl X.kf G H m)
    (q : src r m fun items m1 => items.length ≤ sizeLine ∧ lcGo dg tt te (wipeD r vs) items [] m1 QL)
    (fin : ∀ D us acc H' G' m', H D = none → Stp G H m G' H' m' → Rl X.kf G' H' m' → H' D = some (.lst us) → G' D = none → m' D = none → RpL X.kf G' acc us → acc.length ≤ sizeLine → QL acc m' → Q (.ref D) H') :
    tLc (lfI X.kf src) g (lfB X.kf tt) (lf X.kf te) vs s H Q := by
  exact ⟨G, r, m, _, hs, hr, q, fun J H1 G1 m1 items s1 r1 wk ⟨hl, q1⟩ => lc_loop gc hs s1 r1 wk hl q1 fin⟩
end
end Mn

set_option Elab.async false
set_option linter.all false
set_option maxRecDepth 100000
set_option maxHeartbeats 4000000
set_option autoImplicit false
namespace Mn
open PySem PySem.Spec PyProof.Rows L2
variable [Tbs]
section
variable {X : Cx} {elt tg iter : Expr} {ifs : List Expr} {scope : Scope} {own : List (Str × Nat)} {pos : Pos} {src : DI} {g : TG} {dg : DG} {tt : DB} {te : DT}
def PDTs (X : Cx) (ifs : List Expr) (t : DB) : Prop := PTs X ifs (lfB X.kf t)
theorem pdts_nil : PDTs X [] dYes := ⟨fun pins s σ H Q I ⟨G, r, m, Qd, hs, hr, q, w⟩ => pts_nil.run pins s σ H Q I (w _ _ _ _ Stp.refl hr q)⟩
theorem pdts_one {c : Expr} {t : DB} (h : PDT X c t) : PDTs X [c] t := pts_one h
theorem lc_frz {vs : List Nat} (gc : GC X.kf g dg vs) {s : L2.St} {H : Hp} {Q : VK} (h : lf X.kf (dLc src vs dg tt te) s H Q) : tLc (lfI X.kf src) g (lfB X.kf tt) (lf X.kf te) vs s H Q := by
  obtain ⟨G, r, m, Qd, hs, hr, q, w⟩ := h
  refine lc_data gc hs hr q fun D us acc H' G' m' new st rl hD gD mD ra la qq => ?_
  have sm : Same G' (upd G' D (.lst us)) := fun b o e => by rw [upd_ne (ne_of_none e gD)]; exact e
  refine w _ _ (upd G' D (.lst us)) m' (.lst acc) ⟨st.g.trans sm, fun b o e1 e2 e3 nt => ?_, st.up⟩ (rl.hidG hD gD mD) (.lst upd_same (ra.same sm) la) qq
  · obtain ⟨z1, z2, z3⟩ := st.fr b o e1 e2 e3 nt
    rw [upd_ne (ne_of_none e1 new)]; exact ⟨z1, z2, z3⟩
theorem pd_lc (hc : X.calm = true) (hN : X.N.Nodup) (hi : PDI X tg iter src) (ok : BlkOk X.N X.env.scope scope own) (gc : GC X.kf g dg (own.map (·.2)))
    (hg : ∀ (s : Shared) (H : Hp) (C : Addr) (cl : List (Str × Addr)) (fp : List Addr), PG (X.blk s H scope (compEnvC scope cl C X.env) fp) tg g) (ht : ∀ (s : Shared) (H : Hp) (C : Addr) (cl : List (Str × Addr)) (fp : List Addr), PDTs (X.blk s H scope (compEnvC scope cl C X.env) fp) ifs tt)
    (he : ∀ (s : Shared) (H : Hp) (C : Addr) (cl : List (Str × Addr)) (fp : List Addr), PD (X.blk s H scope (compEnvC scope cl C X.env) fp) elt te) (hs : ∀ x, foldedSetIterable iter X.env x = pure x := by intro _; rfl) :
    PD X (.ListComp elt [⟨tg, iter, ifs, 0⟩] scope pos) (dLc src (own.map (·.2)) dg tt te) :=
  peM (pe_lc (tt := lfB X.kf tt) (te := lf X.kf te) hc hN hi ok hg ht he hs) fun _ _ _ h => lc_frz gc h
end

/-! statements -/
def xNext : DS := fun De r m => De.nx r m
def xSeq (t u : DS) : DS := fun De r m => t { De with nx := u De } r m
def xAsg (t : DT) (g : DG) : DS := fun De r m => t r m fun d m1 => g d r fun r1 => De.nx r1 m1
def xRet (t : DT) : DS := fun De r m => t r m De.rt
def xRetF (i : Nat) : DS := fun De r m => ∃ p ds, r[i]? = some (some (.ref p)) ∧ m p = some (.lst ds) ∧ De.rt (.lst ds) (er m p)
def xDrop (t : DT) : DS := fun De r m => t r m fun _ m1 => De.nx r m1
def xIf (c : DB) (t u : DS) : DS := fun De r m => c r m fun b m1 => if b = true then t De r m1 else u De r m1
def xNever : DS := fun _ _ _ => False
section
variable {X : Cx} {st : Stmt} {rest : List Stmt} {t u : DS} {e : Expr} {te : DT} {pos : Pos}
theorem pdss_nil : PDSs X [] xNext := pssM pss_nil fun E s H ⟨G, r, m, De, hs, hr, q, w⟩ => w.nx _ _ _ _ _ Stp.refl hs hr q
theorem lfSeq {E : Ends} {s : L2.St} {H : Hp} (h : lfS X.kf X.wx (xSeq t u) E s H) : tSeq (lfS X.kf X.wx t) (lfS X.kf X.wx u) E s H := by
  obtain ⟨G, r, m, De, hs, hr, q, w⟩ := h
  exact ⟨G, r, m, _, hs, hr, q, ⟨fun s' H' G' r' m' st' rs rl q' => ⟨G', r', m', De, rs, rl, q', w.after st'⟩, w.rt, w.bk, w.ct, w.ex⟩⟩
theorem pdss_cons (h1 : PDS X st t) (h2 : PDSs X rest u) : PDSs X (st :: rest) (xSeq t u) := pssM (pss_cons h1 h2) fun _ _ _ h => lfSeq h
theorem pdss_one (h1 : PDS X st t) : PDSs X [st] t := pss_one h1
theorem pds_drop (he : PD X e te) (hs : swapsWith e none pos.line X.env = pure false := by rfl) : PDS X (.Expr e pos) (xDrop te) :=
  psM (ps_expr he hs) fun E s H ⟨G, r, m, De, hs, hr, q, w⟩ => ⟨G, r, m, _, hs, hr, q, fun v H1 G1 m1 d s1 r1 h1 q1 => w.nx _ _ _ _ _ s1 (hs.same s1.g) r1 q1⟩
theorem pds_ret (he : PD X e te) : PDS X (.Return (some e) pos) (xRet te) :=
  psM (ps_ret he) fun E s H ⟨G, r, m, De, hs, hr, q, w⟩ => ⟨G, r, m, _, hs, hr, q, w.rt⟩
/-- a mutable list of a name is handed back, and not changed any more -/
theorem pds_retF {i : Nat} {x : Str} {p : Pos} (h : PE X (.Name x p) (tVar i)) : PDS X (.Return (some (.Name x p)) pos) (xRetF i) := by
  refine psM (ps_ret h) fun E s H ⟨G, r, m, De, hs, hr, ⟨a, ds, e1, e2, q⟩, w⟩ => ?_
  obtain ⟨v, ev, rv⟩ := hs.get i _ e1
  cases rv
  obtain ⟨G', rl, st, rp⟩ := hr.freeze e2
  exact ⟨.ref a, ev, w.rt _ _ _ _ _ st rl rp q⟩
theorem pds_if {c : Expr} {a b : List Stmt} {tc : DB} (hc : PDT X c tc) (ha : PDSs X a t) (hb : PDSs X b u) : PDS X (.If c a b pos) (xIf tc t u) := by
  refine psM (ps_if hc ha hb) fun E s H ⟨G, r, m, De, hs, hr, q, w⟩ => ?_
  refine ⟨G, r, m, _, hs, hr, q, fun k H1 G1 m1 s1 r1 q1 => ?_⟩
  cases k with
  | true => exact ⟨G1, r, m1, De, hs.same s1.g, r1, q1, w.after s1⟩
  | false => exact ⟨G1, r, m1, De, hs.same s1.g, r1, q1, w.after s1⟩
theorem lfAsg {vs : List Nat} {g : TG} {dg : DG} (gc : GC X.kf g dg vs) {E : Ends} {s : L2.St} {H : Hp} (h : lfS X.kf X.wx (xAsg te dg) E s H) : tAsg (lf X.kf te) g E s H := by
  obtain ⟨G, r, m, De, hs, hr, q, w⟩ := h
  refine ⟨G, r, m, _, hs, hr, q, fun v H1 G1 m1 d s1 r1 h1 q1 => ?_⟩
  exact gc G1 H1 m1 s r v d _ _ r1 (hs.same s1.g) h1 q1 fun s' r' rs' _ q2 => w.nx _ _ _ _ _ s1 rs' r1 q2
theorem pds_set {i : Nat} {x : Str} {pos' : Pos} (hN : X.N.Nodup) (hi : X.N[i]? = some x) (hx : Loc X.env.scope x) (he : PD X e te) (hs : swapsWith e (some (.Name x pos')) pos.line X.env = pure false := by rfl) (hf : X.fn x = true ∨ X.env.scope.names.lookup x = some .local := by first | exact .inl rfl | exact .inr rfl | assumption) :
    PDS X (.Assign [.Name x pos'] e pos) (xAsg te (gV i)) := psM (ps_set hN hi hx he hs hf) fun _ _ _ h => lfAsg (vs := [i]) (gc_name (by simp)) h
theorem pds_asg {tg : Expr} {vs : List Nat} {g : TG} {dg : DG} (he : PD X e te) (hg : PG X tg g) (gc : GC X.kf g dg vs) (hs : swapsWithSole [tg] e pos.line X.env = pure false := by rfl) (hw : swappedStores [tg] e X.env = pure none := by rfl)
    (h1 : (assignEach [tg] X.env).map (·.2) = [assign tg X.env] := by rfl) : PDS X (.Assign [tg] e pos) (xAsg te dg) := psM (ps_asg he hg hs hw h1) fun _ _ _ h => lfAsg gc h
/-- a, b = x, y -/
def xPar (i j : Nat) (ta : DA) : DS := fun De r m => ta r m fun ds m1 => ∃ d e, ds = [d, e] ∧ De.nx ((r.set i (some d)).set j (some e)) m1
theorem pds_par {i j : Nat} {x y : Str} {a b : Expr} {ta : DA} {px py pt : Pos} {kt k2 pt2} (hc : X.calm = true) (hN : X.N.Nodup) (hi : X.N[i]? = some x) (hj : X.N[j]? = some y) (hij : i ≠ j)
    (hx : X.env.scope.names.lookup x = some .local) (hy : X.env.scope.names.lookup y = some .local) (ha : PDA X [a, b] ta)
    (hw : swappedStores [.Tuple [.Name x px, .Name y py] kt pt] (.Tuple [a, b] k2 pt2) X.env = pure (some [x, y]))
    (hs : swapsWithSole [.Tuple [.Name x px, .Name y py] kt pt] (.Tuple [a, b] k2 pt2) pos.line X.env = pure false := by rfl) :
    PDS X (.Assign [.Tuple [.Name x px, .Name y py] kt pt] (.Tuple [a, b] k2 pt2) pos) (xPar i j ta) := by
  refine psM (ps_par hc hN hi hj hij hx hy ha hw hs) fun E s H ⟨G, r, m, De, hs, hr, q, w⟩ => ?_
  refine ⟨G, r, m, _, hs, hr, q, fun vs H1 G1 m1 ds s1 r1 h1 ⟨d, e, ed, q1⟩ => ?_⟩
  subst ed
  obtain ⟨v, u, ev, rv, ru⟩ := h1.two
  exact ⟨v, u, ev, w.nx _ _ _ _ _ s1 (((hs.same s1.g).set rv i).set ru j) r1 q1⟩
/-- x op= e of ints -/
def xAug (i : Nat) (te : DT) (f : Int → Int → Int) : DS := fun De r m => ∃ k, r[i]? = some (some (.int k)) ∧ te r m fun d m1 => ∃ j, d = .int j ∧ De.nx (r.set i (some (.int (f k j)))) m1
end

/-! loops -/
def forGo (g : DG) (tb : DS) (De : DE) : List D → Ro → Mu → Prop
  | [], r, m => De.nx r m
  | d :: ds, r, m => g d r fun r1 => tb { De with nx := forGo g tb De ds, ct := forGo g tb De ds, bk := De.nx } r1 m
def xFor (src : DI) (g : DG) (tb : DS) : DS := fun De r m => src r m fun items m1 => forGo g tb De items r m1
section
variable {X : Cx} {tg iter : Expr} {body : List Stmt} {src : DI} {g : TG} {dg : DG} {tb : DS} {pos : Pos} {vs : List Nat}
theorem pds_for (hp : PassesOwn (model X.prog X.w) X.A X.env X.xe) (hc : X.calm = true) (hi : PDI X tg iter src) (hg : PG X tg g) (gc : GC X.kf g dg vs) (hb : PDSs X body tb)
    (hs : ∀ x, foldedSetIterable iter X.env x = pure x := by intro _; rfl) : PDS X (.For tg iter body [] pos) (xFor src dg tb) := by
  refine psM (ps_for hp hc hi hg hb hs) fun E s H ⟨G, r, m, De, hs, hr, q, w⟩ => ?_
  refine ⟨G, r, m, _, hs, hr, q, fun J H1 G1 m1 items s1 r1 wk q1 => ?_⟩
  refine ⟨fun i k s' H' => i + k = items.length ∧ ∃ G' r' m', Stp G1 H1 m1 G' H' m' ∧ RpS X.kf G' r' s' ∧ Rl X.kf G' H' m' ∧ forGo dg tb De (items.drop i) r' m',
    ⟨items.length, by omega, G1, r, m1, Stp.refl, hs.same s1.g, r1, by rw [List.drop_zero]; exact q1⟩, fun i k s' H' hW => ?_⟩
  obtain ⟨ek, G', r', m', st, rs, rl, qq⟩ := hW
  by_cases hi : i < items.length
  · have ed : items[i]? = some items[i] := List.getElem?_eq_getElem hi
    rw [List.drop_eq_getElem_cons hi] at qq
    obtain ⟨go, yl⟩ := wk.go G' H' m' i _ st.g rl ed
    refine .inr ⟨go, fun s2 H2 => (i + 1) + (k - 1) = items.length ∧ ∃ G' r' m', Stp G1 H1 m1 G' H2 m' ∧ RpS X.kf G' r' s2 ∧ Rl X.kf G' H2 m' ∧ forGo dg tb De (items.drop (i + 1)) r' m',
      fun s2 H2 h2 => ⟨k - 1, by omega, h2⟩, fun x H2 hy => ?_⟩
    obtain ⟨G2, rl2, st2, rx⟩ := yl x H2 hy
    refine gc G2 H2 m' s' r' x _ _ _ rl2 (rs.same st2.g) rx qq fun s3 r3 rs3 _ q3 => ?_
    have base := s1.trans (st.trans st2)
    refine ⟨G2, r3, m', _, rs3, rl2, q3, ⟨fun s4 H4 G4 r4 m4 st4 rs4 rl4 q4 => ⟨by omega, G4, r4, m4, (st.trans st2).trans st4, rs4, rl4, q4⟩, w.rt.after base,
      fun s4 H4 G4 r4 m4 st4 rs4 rl4 q4 => w.nx _ _ _ _ _ (base.trans st4) rs4 rl4 q4, fun s4 H4 G4 r4 m4 st4 rs4 rl4 q4 => ⟨by omega, G4, r4, m4, (st.trans st2).trans st4, rs4, rl4, q4⟩, (w.after base).ex⟩⟩
  · have ei : i = items.length := by omega
    subst ei
    rw [List.drop_length] at qq
    exact .inl ⟨wk.stop G' H' m' st.g rl, w.nx _ _ _ _ _ (s1.trans st) rs rl qq⟩
end

/-! methods of mutable lists -/
def dAppend (to te : DT) : DT := fun r m Q => to r m fun o m1 => ∃ p ds0, o = .ref p ∧ m1 p = some (.lst ds0) ∧ te r m1 fun d m2 => ∃ ds, m2 p = some (.lst ds) ∧ ds.length < sizeLine ∧ Q .non (up m2 p (.lst (ds ++ [d])))
section
variable {X : Cx} {o e : Expr} {to te : DT} {apos cpos : Pos}
theorem tyV_ref {K : KF} {G H : Hp} {m : Mu} {p : Addr} {ds : List D} (r : Rl K G H m) (e : m p = some (.lst ds)) : tyV K "list" (.ref p) H := by
  obtain ⟨_, x, hx, us, ex, _⟩ := r.mu p _ e
  subst ex
  exact .inl ⟨rfl, us, .inl (.inl hx)⟩
theorem pd_append (ho : PD X o to) (he : PD X e te) (hs : starEach [e] X.env = (false, eval e X.env) :: starEach [] X.env := by rfl) (hbase : attributeBase o "append" X.env (eval o X.env) = eval o X.env := by rfl)
    (hfew : ((backTo cpos (starEach [e] X.env)).all (fun x => !x.1) && (backToKw cpos (keywordEach [] X.env)).all (fun x => x.1.isSome)
      && decide ([e].length + ([] : List Keyword).length + (if ([] : List Keyword).isEmpty then 0 else 1) < 30)) = true := by rfl)
    (hline : (apos.endLine == cpos.line) = true := by rfl) (hplain : (backTo cpos (starEach [] X.env)).any (·.1) = false := by rfl) :
    PD X (.Call (.Attribute o "append" apos) [e] [] cpos) (dAppend to te) := by
  refine peM (pe_bm PySem.F.plainAttrs_list PySem.F.slot_list_append PySem.F.type_list_append mt_append ho (pa_cons he pa_nil hs) hbase hfew hline hs hplain) fun s H Q ⟨G, ro, m, Qd, hs, hr, q, w⟩ => ?_
  refine ⟨G, ro, m, _, hs, hr, q, fun v H1 G1 m1 d s1 r1 h1 ⟨p, ds0, e1, e2, q1⟩ => ?_⟩
  subst e1
  cases h1
  refine ⟨tyV_ref r1 e2, G1, ro, m1, _, hs.same s1.g, r1, q1, fun v2 H2 G2 m2 d2 s2 r2 h2 ⟨ds, e3, z, q2⟩ => ?_⟩
  obtain ⟨_, x, hx, us, ex, ru, z2⟩ := r2.mu p _ e3
  subst ex
  obtain ⟨r4, s4⟩ := r2.put e3 (o := .lst (us ++ [v2])) (u := .lst (ds ++ [d2])) ⟨_, rfl, ru.app (.cons h2 .nil), by rw [List.length_append, List.length_singleton]; omega⟩
  exact ⟨p, us, v2, rfl, rfl, hx, by rw [← ru.len]; exact z, w _ _ _ _ _ ((s1.trans s2).trans s4) r4 .non q2⟩
end
end Mn

set_option Elab.async false
set_option linter.all false
set_option maxRecDepth 100000
set_option maxHeartbeats 4000000
set_option autoImplicit false
namespace Mn
open PySem PySem.Spec PyProof.Rows L2
variable [Tbs]

/-! a def's promise, where no text of a container is under way around the call -/
structure FnG (P : Program) (w : World) (K : PySem.W.Frag) (mg : Str → Option Value) (base : Heap) (CX : CXT) (k : Nat) (f : Addr) (fd : FuncData) (ps : List Str) (sp : Sp) : Prop where
  len : ∀ vs H Q E, sp vs H Q E → vs.length = ps.length
  run : ∀ (A : Around) (outer : List Env) (s : Shared) (H : Hp) (args : Args) (us : List Value) (vs : List V) (Q : VK) (E : XK), Room k A → A.guards = some [] → Env0 P w K mg base A outer s H →
    BindsTo s fd args (ps.zip us) → Vals vs us → sp vs H Q E → codeAny (model P w) A (.call (.ref f) args) (CR CX outer P w H s Q E) s
section
variable {P : Program} {w : World} {K : PySem.W.Frag} {mg : Str → Option Value} {base : Heap} {CX : CXT}
theorem FnG.mono {j k : Nat} {f : Addr} {fd : FuncData} {ps : List Str} {sp : Sp} (F : FnG P w K mg base CX j f fd ps sp) (h : j ≤ k) : FnG P w K mg base CX k f fd ps sp :=
  ⟨F.len, fun A outer s H args us vs Q E room gd => F.run A outer s H args us vs Q E (room.mono h) gd⟩
theorem gn_of {k : Nat} {f : Addr} {name qual : Str} {params : Arguments} {body : List Stmt} {scope : Scope} {dV kV doc pm cdv ct oc : Value} {an od : Option Addr} {osl : Array (Option Value)} {N ps : List Str} {sp : Sp}
    (lk : K.lookup f = some ⟨oc, od, .func (PySem.W.fnOf name qual params body scope dV kV doc pm an cdv ct), osl⟩) (hcd : PySem.W.codeIn K cdv qual = true) (S : FnScope N ps scope) (len : ∀ vs H Q E, sp vs H Q E → vs.length = ps.length)
    (hbody : ∀ (A : Around) (outer : List Env) (s : Shared) (H : Hp) (vs : List V) (Q : VK) (E : XK), Room k (A.deeper (envOfC qual scope s.heap.objs.size f cdv)) → A.guards = some [] → sp vs H Q E →
      ∃ t, PSs (cxOf CX P w K mg base N qual scope f cdv A outer s H E) body t ∧ t { nx := fun _ H' => Q .non H', rt := Q } (L2.start N vs) H) :
    FnG P w K mg base CX (k + 1) f (PySem.W.fnOf name qual params body scope dV kV doc pm an cdv ct) ps sp := by
  refine ⟨len, fun A outer s H args us vs Q E room gd e0 bd rv hsp => ?_⟩
  have inK : K.In s.heap := e0.mod.kin.keeps fun b o e => (e0.bs b o e).1
  have noLim : s.heap.NoLimit := e0.mod.nolimit.keeps fun b o e => (e0.bs b o e).1
  refine codeAny_call_function room.depth (inK _ _ lk) rfl S.co S.gen rfl (PySem.W.codeRec_of inK hcd) (bd _ _ _ _ (wpAny_newFunctionEnv_cells S.kind (fun y hy => ?_) fun env he s1 ic => ?_))
  · obtain ⟨n, v⟩ := y
    rcases S.par n (List.of_mem_zip hy).1 with q | q
    · exact .inl q
    · exact .inr ⟨q, PySem.W.cellsFrom_some _ _ _ (.inl q)⟩
  · subst he
    refine ⟨noLim.keeps ic.toInCall.keep, codeAny_func ?_⟩
    obtain ⟨t, ht, hq⟩ := hbody A outer s H vs Q E (room.deeper _) gd hsp
    refine wpAny_mono (ht.run [] s1 (L2.start N vs) H _ (inv_start S room.hd e0 (len _ _ _ _ hsp) rv ic) hq) (fun fl s' hs => ?_) fun e s' hs => hs
    cases fl with
    | ret u => obtain ⟨v, σ', H', J, r1, q⟩ := hs; exact ⟨v, H', J.os, J.bare, J.base, J.hok, r1, q⟩
    | next => obtain ⟨σ', H', J, q⟩ := hs; exact ⟨.non, H', J.os, J.bare, J.base, J.hok, rfl, q⟩
    | brk => obtain ⟨_, _, _, q⟩ := hs; exact q.elim
    | cont => obtain ⟨_, _, _, q⟩ := hs; exact q.elim
end

/-! promises over data -/
abbrev DSp := List D → Mu → DK → Prop
def lfSp (K : KF) (d : DSp) : Sp := fun vs H Q _ => ∃ G ds m Qd, RpL K G ds vs ∧ Rl K G H m ∧ d ds m Qd ∧ WV K G H m Qd Q
abbrev FnD (P : Program) (w : World) (K : PySem.W.Frag) (mg : Str → Option Value) (base : Heap) (k : Nat) (f : Addr) (fd : FuncData) (ps : List Str) (d : DSp) : Prop := FnG P w K mg base CX0 k f fd ps (lfSp ⟨K, w, Tbs.T⟩ d)
def startD (n : Nat) (ds : List D) : Ro := ds.map some ++ List.replicate (n - ds.length) none
/-- what a body is to show -/
def endD (m0 : Mu) (Q : DK) : DE := { nx := fun _ m' => ∃ m'', (∀ a o, m'' a = some o → m' a = some o) ∧ Q .non m'', rt := fun d m' => ∃ m'', (∀ a o, m'' a = some o → m' a = some o) ∧ Q d m'' }
def Body (n : Nat) (t : DS) (d : DSp) : Prop := ∀ ds m Q, d ds m Q → t (endD m Q) (startD n ds) m
theorem rps_start {K : KF} {G : Hp} {ds : List D} {vs : List V} {N : List Str} (h : RpL K G ds vs) : RpS K G (startD N.length ds) (L2.start N vs) := by
  refine ⟨?_, fun i d e => ?_⟩
  · unfold startD L2.start
    rw [List.length_append, List.length_append, List.length_map, List.length_map, List.length_replicate, List.length_replicate, h.len]
  · unfold startD at e
    unfold L2.start
    by_cases hi : i < ds.length
    · rw [List.getElem?_append_left (by rw [List.length_map]; exact hi), List.getElem?_map] at e
      rw [List.getElem?_append_left (by rw [List.length_map, ← h.len]; exact hi), List.getElem?_map]
      cases q : ds[i]? with
      | none => rw [q] at e; cases e
      | some x =>
        rw [q] at e
        cases e
        obtain ⟨v, ev, rv⟩ := h.get q
        exact ⟨v, by rw [ev]; rfl, rv⟩
    · rw [List.getElem?_append_right (by rw [List.length_map]; omega), List.getElem?_replicate] at e
      split at e <;> cases e
section
variable {P : Program} {w : World} {K : PySem.W.Frag} {mg : Str → Option Value} {base : Heap}
theorem lfS_start {K : KF} {xw : WX} {N : List Str} {t : DS} {d : DSp} (hb : Body N.length t d) {vs : List V} {H : Hp} {Q : VK} {E : XK} (h : lfSp K d vs H Q E) :
    lfS K xw t { nx := fun _ H' => Q .non H', rt := Q } (L2.start N vs) H := by
  obtain ⟨G, ds, m, Qd, rp, rl, q, w⟩ := h
  refine ⟨G, _, m, endD m Qd, rps_start rp, rl, hb ds m Qd q, ⟨fun s' H' G' r' m' st rs rl' ⟨m2, le, q2⟩ => ?_, fun v H' G' m' d' st rl' rv ⟨m2, le, q2⟩ => ?_, fun _ _ _ _ _ _ _ _ z => z.elim, fun _ _ _ _ _ _ _ _ z => z.elim, fun _ _ _ _ _ _ _ _ _ _ _ _ z => z.elim⟩⟩
  · exact w _ _ _ m2 _ (st.less le) (rl'.less le) .non q2
  · exact w _ _ _ m2 _ (st.less le) (rl'.less le) rv q2
end
section
variable {X : Cx} {k : Nat} {f : Addr} {fd : FuncData} {ps : List Str} {d : DSp} {x : Str} {p pos : Pos} {e : Expr} {es : List Expr} {tr : DA}
theorem run_D {pins : List (Addr × Obj)} {σ : L2.St} {H : Hp} {s : Shared} {Q : VK} {us : List Value} {vs : List V} (F : FnD X.prog X.w X.K X.mg X.base k f fd ps d) (room : Room k X.A) (gd : X.A.guards = some []) (bd : Binds X.K fd ps [])
    (I : Inv X pins σ H s) (rv : Vals vs us) (h : lfSp X.kf d vs H Q E0) : wpAny (model X.prog X.w) X.A (call (.ref f) us) (EP X pins σ Q) X.xe s := by
  have hl : us.length = ps.length := by rw [← rv.length]; exact F.len _ _ _ _ h
  have bz := bd s us I.kIn (by rw [List.append_nil]; exact hl)
  rw [List.append_nil] at bz
  refine wpAny_call (codeAny_mono (F.run X.A X.stack s H ⟨us, []⟩ us vs Q E0 room gd I.env0 bz rv h) fun res s' hq => ?_)
  cases res with
  | error e => exact False.elim hq
  | ok fl => cases fl with
    | ret u => exact I.after hq
    | next => exact False.elim hq
    | brk => exact False.elim hq
    | cont => exact False.elim hq
theorem pd_call (F : FnD X.prog X.w X.K X.mg X.base k f fd ps d) (room : Room k X.A) (gd : X.A.guards = some []) (hg : Gl X x) (hm : X.mg x = some (.ref f)) (hk : PySem.W.keepIn X.K (.ref f) = true) (bd : Binds X.K fd ps [])
    (ha : PDA X (e :: es) tr) (hdb : (x == ("__debug__" : Str)) = false := by decide) (he : starEach (e :: es) X.env = (false, eval e X.env) :: starEach es X.env := by rfl) (hpl : (backTo pos (starEach es X.env)).any (·.1) = false := by rfl) :
    PD X (.Call (.Name x p) (e :: es) [] pos) (dCB d tr) := by
  refine ⟨fun pins s σ H Q I ⟨G, ro, m, Qd, hs, hr, q, w⟩ => ?_⟩
  have h : lfA X.kf tr σ H fun vs H1 => lfSp X.kf d vs H1 Q E0 := ⟨G, ro, m, _, hs, hr, q, fun vs H1 G1 m1 ds s1 r1 h1 q1 => ⟨G1, ds, m1, Qd, h1, r1, q1, w.after s1⟩⟩
  refine wpAny_Call_Name_kw (ld_glob I hg hm ?_ hdb)
  exact PySem.W.callWith_K (h₀ := X.base) I.ok.mod.kin hk (thn (PA.run ha pos pins s σ H _ I h) fun us s1 ⟨vs, H1, I1, r, q⟩ => ⟨I1.kIn, run_D F room gd bd I1 r q⟩) he hpl
end
end Mn

set_option Elab.async false
set_option linter.all false
set_option maxRecDepth 100000
set_option maxHeartbeats 4000000
set_option autoImplicit false
namespace Mn
open PySem PySem.Spec PyProof.Rows L2
variable [Tbs]

end Mn

set_option Elab.async false
set_option linter.all false
set_option maxRecDepth 100000
set_option maxHeartbeats 4000000
set_option autoImplicit false
namespace Mn
open PySem PySem.Spec PyProof.Rows L2
variable [Tbs]

/-! zip over lists and tuples in any mix -/
def ItAt (k : Bool) (h : Heap) (it a : Addr) (i : Nat) : Prop := if k = true then h.IsListIter it a i else h.IsTupleIter it a i
def SqB (K : PySem.W.Frag) (k : Bool) (H : Hp) (a : Addr) (xs : List V) : Prop := if k = true then SqL K H a xs else SqT K H a xs
def IsB (k : Bool) (h : Heap) (a : Addr) (items : Array Value) : Prop := if k = true then h.IsList a items else h.IsTuple a items
theorem ItAt.at {k : Bool} {h h' : Heap} {it a : Addr} {i : Nat} (x : ItAt k h it a i) (q : ∀ o, h.get? it = some o → h'.get? it = some o) : ItAt k h' it a i := by
  cases k with
  | true => exact Heap.IsListIter.at (show h.IsListIter it a i from x) q
  | false => exact Heap.IsTupleIter.at (show h.IsTupleIter it a i from x) q
theorem ItAt.obj {k : Bool} {h : Heap} {it a : Addr} {i : Nat} (x : ItAt k h it a i) : ∃ o, h.get? it = some o ∧ ∀ v, o.data ≠ .cell v := by
  cases k with
  | true => obtain ⟨o, e, _, d⟩ := (show h.IsListIter it a i from x); exact ⟨o, e, fun v z => by rw [d] at z; cases z⟩
  | false => obtain ⟨o, e, _, d⟩ := (show h.IsTupleIter it a i from x); exact ⟨o, e, fun v z => by rw [d] at z; cases z⟩
section
variable {X : Cx} {pins : List (Addr × Obj)} {σ : L2.St} {H : Hp} {s : Shared}
theorem sqb_raw {k : Bool} {a : Addr} {xs : List V} (I : Inv X pins σ H s) (h : SqB X.K k H a xs) : ∃ its : List Value, Vals xs its ∧ IsB k s.heap a its.toArray ∧ xs.length ≤ sizeLine ∧ a < s.heap.objs.size := by
  cases k with
  | true =>
    obtain ⟨its, rv, p, hz⟩ := I.list h
    exact ⟨its, rv, p.isList, hz, p.lt⟩
  | false =>
    obtain ⟨its, rv, p, hz⟩ := I.tuple h
    exact ⟨its, rv, p, hz, p.lt⟩
theorem sqb_inj {k : Bool} {a : Addr} {xs ys : List V} (I : Inv X pins σ H s) (h : SqB X.K k H a xs) (h' : SqB X.K k H a ys) : xs = ys := by
  cases k with
  | true => exact I.list_inj h h'
  | false => exact I.tuple_inj h h'
end
theorem drawsB {prog : Program} {w : World} {A : Around} (hh : A.handled = none) (k : Bool) (it a : Addr) (hne : a ≠ it) (items : Array Value) :
    Draws prog w A it [it, a] items.size (fun i v => items[i]? = some v) (fun i h => ItAt k h it a i ∧ IsB k h a items) := by
  cases k with
  | true => exact Draws.list hh it a hne items
  | false => exact Draws.tuple hh it a hne items
def itObj (k : Bool) (a : Addr) : Obj := if k = true then { cls := .type "list_iterator", data := .fields #[.ref a, .int 0 0] } else { cls := .type "tuple_iterator", data := .fields #[.ref a, .int 0 0] }
theorem beginsB (k : Bool) (a : Addr) (items : Array Value) : Begins (.ref a) (itObj k a) fun h => IsB k h a items := by
  cases k with
  | true => exact begins_list a items
  | false => exact begins_tuple a items
theorem itObj_at {k : Bool} {h : Heap} {it a : Addr} (e : h.get? it = some (itObj k a)) : ItAt k h it a 0 := by
  cases k with
  | true => exact ⟨_, e, rfl, rfl⟩
  | false => exact ⟨_, e, rfl, rfl⟩
/-- the pairs -/
def Itz2 (K : PySem.W.Frag) (k1 k2 : Bool) (a b : Addr) : It :=
  ⟨fun i H => ∃ (xs ys : List V) (x y : V), SqB K k1 H a xs ∧ SqB K k2 H b ys ∧ xs[i]? = some x ∧ ys[i]? = some y,
    fun i H v H' => ∃ T x y, v = .ref T ∧ H T = none ∧ H' = upd H T (.tup [x, y]) ∧ (∀ xs, SqB K k1 H a xs → xs[i]? = some x) ∧ ∀ ys, SqB K k2 H b ys → ys[i]? = some y,
    fun i H => ∃ xs ys : List V, SqB K k1 H a xs ∧ SqB K k2 H b ys ∧ i = min xs.length ys.length⟩
theorem turn_z2 {P : Program} {w : World} {K : PySem.W.Frag} {elts : List Expr} {kk : Nat} {tpos : Pos} {k1 k2 : Bool} {a b z TI TO i1 i2 : Addr} (S : ZipSep2 z TI TO i1 i2 [i1, a] [i2, b]) (n1 : a ≠ i1) (n2 : b ≠ i2) :
    Turn P w K (.Tuple elts kk tpos) (Itz2 K k1 k2 a b) [z, TI, TO, i1, i2] z (fun i h => IsZip h z TI TO .none ∧ IsTupOf2 h TI (.ref i1) (.ref i2) ∧ (∃ x y, IsTupOf2 h TO x y) ∧ ItAt k1 h i1 a i ∧ ItAt k2 h i2 b i) where
  mem := by simp
  obj := fun i h ⟨hz, hTI, ⟨x, y, hTO⟩, h1, h2⟩ c hc => by
    have e' : c = z ∨ c = TI ∨ c = TO ∨ c = i1 ∨ c = i2 := by simpa using hc
    rcases e' with q | q | q | q | q <;> subst q
    · exact ⟨_, hz, fun v q => nomatch q⟩
    · exact ⟨_, hTI, fun v q => nomatch q⟩
    · exact ⟨_, hTO, fun v q => nomatch q⟩
    · exact h1.obj
    · exact h2.obj
  keep := fun i h h' ⟨hz, hTI, ⟨x, y, hTO⟩, h1, h2⟩ k => ⟨k z (by simp) _ hz, k TI (by simp) _ hTI, ⟨x, y, k TO (by simp) _ hTO⟩, h1.at fun o q => k i1 (by simp) o q, h2.at fun o q => k i2 (by simp) o q⟩
  item := by
    intro X hP hw hK hc i pins s σ H E I hf ⟨hz, hTI, ⟨x0, y0, hTO⟩, h1, h2⟩ ⟨xs, ys, x, y, hqx, hqy, hx, hy⟩
    subst hP hw hK
    obtain ⟨its, rv, p1, _, la⟩ := sqb_raw I hqx
    obtain ⟨its2, rv2, p2, _, lb⟩ := sqb_raw I hqy
    obtain ⟨u, hu, ru⟩ := rv.get hx
    obtain ⟨u2, hu2, ru2⟩ := rv2.get hy
    have hh : X.A.in1.handled = none := I.ok.hd hc
    have W := GoesN.zip2 (prog := X.prog) (w := X.w) (A := X.A) (elts := elts) (x1 := kk) (pos := tpos) S (drawsB hh k1 i1 a n1 its.toArray) (drawsB hh k2 i2 b n2 its2.toArray)
    have hl1 : i < its.toArray.size := by rw [List.size_toArray]; exact (List.getElem?_eq_some_iff.mp hu).1
    have hl2 : i < its2.toArray.size := by rw [List.size_toArray]; exact (List.getElem?_eq_some_iff.mp hu2).1
    refine wpAny_mono (W.goes i s (fun v s2 => ∃ xv H', Inv X pins σ H' s2 ∧ RelV xv v ∧ (Itz2 X.K k1 k2 a b).yld i H xv H' ∧ (IsZip s2.heap z TI TO .none ∧ IsTupOf2 s2.heap TI (.ref i1) (.ref i2) ∧ (∃ x y, IsTupOf2 s2.heap TO x y) ∧ ItAt k1 s2.heap i1 a (i + 1) ∧ ItAt k2 s2.heap i2 b (i + 1)) ∧ ∀ b ∈ [z, TI, TO, i1, i2], H' b = none) E (by omega) ⟨hz, hTI, ⟨x0, y0, hTO⟩, ⟨h1, p1⟩, h2, p2⟩ fun v h' tk hY st' hk htk => ?_) (fun r s1 h => h) fun _ _ h => h
    obtain ⟨T, xv, yv, rfl, hT, ex, ey, hTup⟩ := hY
    have ex' : xv = u := by
      have : its.toArray[i]? = some u := by simpa using hu
      rw [this] at ex; cases ex; rfl
    have ey' : yv = u2 := by
      have : its2.toArray[i]? = some u2 := by simpa using hu2
      rw [this] at ey; cases ey; rfl
    subst ex'; subst ey'
    have new : ObjOk X.prog X.w (upd H T (.tup [x, y])) h' T (.tup [x, y]) := ⟨by show 2 ≤ sizeLine; decide, [xv, yv], .cons ru (.cons ru2 .nil), hTup⟩
    have I1 : Inv X pins σ (upd H T (.tup [x, y])) { s with heap := h', toks := tk } := I.turnedNew (t' := tk) (ch := [z, TI, TO, i1, i2]) (fun c o hb q => hk c o (fun q' => hb (by
      have : c = z ∨ c = TO ∨ c = i1 ∨ c = i2 := by simpa using q'
      rcases this with q | q | q | q <;> simp [q])) q) hf hT new
    refine ⟨.ref T, _, I1, rfl, ⟨T, x, y, rfl, I.hok.fresh hT, rfl, fun l hl => by rw [sqb_inj I hl hqx]; exact hx, fun l hl => by rw [sqb_inj I hl hqy]; exact hy⟩, ⟨st'.1, st'.2.1, st'.2.2.1, st'.2.2.2.1.1, st'.2.2.2.2.1⟩, fun c hcm => ?_⟩
    have hlt : c < s.heap.objs.size := by
      have e' : c = z ∨ c = TI ∨ c = TO ∨ c = i1 ∨ c = i2 := by simpa using hcm
      rcases e' with q | q | q | q | q <;> subst q
      · exact Heap.lt_size hz
      · exact Heap.lt_size hTI
      · exact Heap.lt_size hTO
      · obtain ⟨_, e, _⟩ := h1.obj; exact Heap.lt_size e
      · obtain ⟨_, e, _⟩ := h2.obj; exact Heap.lt_size e
    rw [upd_ne (Nat.ne_of_lt (Nat.lt_of_lt_of_le hlt hT))]
    exact (hf c hcm).1
  done := by
    intro X hP hw hK hc i pins s σ H E I hf ⟨hz, hTI, ⟨x0, y0, hTO⟩, h1, h2⟩ ⟨xs, ys, hqx, hqy, hend⟩
    subst hP hw hK
    obtain ⟨its, rv, p1, _, la⟩ := sqb_raw I hqx
    obtain ⟨its2, rv2, p2, _, lb⟩ := sqb_raw I hqy
    have hh : X.A.in1.handled = none := I.ok.hd hc
    have W := GoesN.zip2 (prog := X.prog) (w := X.w) (A := X.A) (elts := elts) (x1 := kk) (pos := tpos) S (drawsB hh k1 i1 a n1 its.toArray) (drawsB hh k2 i2 b n2 its2.toArray)
    have e1 : i = min its.toArray.size its2.toArray.size := by rw [hend, List.size_toArray, List.size_toArray, rv.length, rv2.length]
    subst e1
    refine wpAny_mono (W.stops s (fun s1 => Inv X pins σ H s1) E ⟨hz, hTI, ⟨x0, y0, hTO⟩, ⟨h1, p1⟩, h2, p2⟩ fun h' tk hk htk => ?_) (fun r s1 h => h) fun _ _ h => h
    exact I.turnedL (t' := tk) (ch := [z, TI, TO, i1, i2]) (fun c o hb q => hk c o (fun q' => hb (by
      have : c = z ∨ c = TO ∨ c = i1 ∨ c = i2 := by simpa using q'
      rcases this with q | q | q | q <;> simp [q])) q) hf
  self := fun A i s Q E st h => wpAny_pyIter_zip st.1 h
theorem one_lt {a : Addr} {n : Nat} (h : a < n) : ∀ b ∈ [a], b < n := fun b hb => by
  have e : b = a := by simpa using hb
  rw [e]; exact h
/-- zip(e, e2) -/
def iZip2 (K : PySem.W.Frag) (ta : TA) : TI := fun σ H R => ta σ H fun vs H1 => ∃ k1 k2 a b xs ys, vs = [.ref a, .ref b] ∧ SqB K k1 H1 a xs ∧ SqB K k2 H1 b ys ∧ R (Itz2 K k1 k2 a b) H1
theorem pi_zip2 {X : Cx} {e e2 : Expr} {ta : TA} {p pos tpos : Pos} {elts : List Expr} {kk : Nat} (hg : Gl X "zip") (hm : X.mg "zip" = none) (ha : PA X [e, e2] ta)
    (hs : starEach [e, e2] X.env = (false, eval e X.env) :: starEach [e2] X.env := by rfl) (hpl : (backTo pos (starEach [e2] X.env)).any (·.1) = false := by rfl) :
    PI X (.Tuple elts kk tpos) (.Call (.Name "zip" p) [e, e2] [] pos) (iZip2 X.K ta) := by
  refine ⟨fun pins s σ H R I h => ?_⟩
  refine Call_ (ld_blt I hg hm PyProof.Rows.boot_zip (PyProof.Rows.callWith_type1 (thn (ha.run pos pins s σ H _ I h) fun us s1 ⟨vs, H1, I1, r1, q1⟩ => ?_) hs hpl))
  obtain ⟨k1, k2, a, b, xs, ys, ex, hqx, hqy, q⟩ := q1
  subst ex
  obtain ⟨u1, u2, rfl, ra, rb⟩ := vals2 r1
  cases ra; cases rb
  obtain ⟨its, rv, p1, _, la⟩ := sqb_raw I1 hqx
  obtain ⟨its2, rv2, p2, _, lb⟩ := sqb_raw I1 hqy
  refine zip_begins2 (beginsB k1 a its.toArray) (beginsB k2 b its2.toArray) p1 p2 fun h' hz hTI hTO h1 h2 hsz hk => wpAny_pyIter_zip hz ?_
  have I2 : Inv X pins σ H1 { s1 with heap := h' } := I1.kept (t' := s1.toks) hk
  have sep : ZipSep2 (s1.heap.objs.size + 4) (s1.heap.objs.size + 2) (s1.heap.objs.size + 3) s1.heap.objs.size (s1.heap.objs.size + 1) [s1.heap.objs.size, a] [s1.heap.objs.size + 1, b] :=
    zip_sep2 (fp1 := [a]) (fp2 := [b]) (one_lt la) (one_lt lb)
  refine ⟨s1.heap.objs.size + 4, [s1.heap.objs.size + 4, s1.heap.objs.size + 2, s1.heap.objs.size + 3, s1.heap.objs.size, s1.heap.objs.size + 1], _, _, H1, rfl, I2, turn_z2 sep (Nat.ne_of_lt la) (Nat.ne_of_lt (Nat.lt_succ_of_lt lb)), ⟨hz, hTI, ⟨_, _, hTO⟩, itObj_at h1, itObj_at h2⟩, fun c hc => ?_, q⟩
  have hle : s1.heap.objs.size ≤ c := by
    have e' : c = s1.heap.objs.size + 4 ∨ c = s1.heap.objs.size + 2 ∨ c = s1.heap.objs.size + 3 ∨ c = s1.heap.objs.size ∨ c = s1.heap.objs.size + 1 := by simpa using hc
    rcases e' with z | z | z | z | z <;> rw [z]
    · exact Nat.le_add_right _ _
    · exact Nat.le_add_right _ _
    · exact Nat.le_add_right _ _
    · exact Nat.le_refl _
    · exact Nat.le_add_right _ _
  exact I1.fpOk hle (I1.hok.fresh hle)
/-! over data -/
def seqB : D → Option (Bool × List D)
  | .lst ds => some (true, ds)
  | .tup ds => some (false, ds)
  | _ => none
def seqI (d : D) : Option (List D) := (seqB d).map (·.2)
theorem seqB_is {K : KF} {G : Hp} {d : D} {v : V} {ds : List D} (h : Rp K G d v) (e : seqI d = some ds) : ∃ k a vs, v = .ref a ∧ (∀ H, Same G H → SqB K k H a vs) ∧ RpL K G ds vs := by
  cases h with
  | tup h1 h2 h3 => cases e; exact ⟨false, _, _, rfl, fun H sm => (h1.sq sm _ : SqT K H _ _), h2⟩
  | lst h1 h2 h3 => cases e; exact ⟨true, _, _, rfl, fun H sm => (.inl (.inl (sm _ _ h1)) : SqL K H _ _), h2⟩
  | _ => cases e
def zip2 (xs ys : List D) : List D := List.zipWith (fun x y => .pair [x, y]) xs ys
def zip3 : List D → List D → List D → List D
  | x :: xs, y :: ys, z :: zs => .pair [x, y, z] :: zip3 xs ys zs
  | _, _, _ => []
def sZip2 (t u : DT) : DI := fun r m Q => t r m fun d m1 => u r m1 fun e m2 => ∃ xs ys, seqI d = some xs ∧ seqI e = some ys ∧ Q (zip2 xs ys) m2
def sZip3 (t u v : DT) : DI := fun r m Q => t r m fun d m1 => u r m1 fun e m2 => v r m2 fun f m3 => ∃ xs ys zs, seqI d = some xs ∧ seqI e = some ys ∧ seqI f = some zs ∧ Q (zip3 xs ys zs) m3
section
variable {K : KF}
theorem wk_z2 {G : Hp} {k1 k2 : Bool} {a b : Addr} {xs ys : List D} {us vs : List V} (h1 : ∀ H, Same G H → SqB K k1 H a us) (r1 : RpL K G xs us) (h2 : ∀ H, Same G H → SqB K k2 H b vs) (r2 : RpL K G ys vs) : Wk K G (Itz2 K k1 k2 a b) (zip2 xs ys) := by
  refine ⟨fun G1 H m i d sm rl e => ?_, fun G1 H m sm rl => ?_⟩
  · have q1 := h1 H (sm.trans rl.sub)
    have q2 := h2 H (sm.trans rl.sub)
    unfold zip2 at e
    rw [List.getElem?_zipWith] at e
    cases ex : xs[i]? with
    | none => rw [ex] at e; cases ys[i]? <;> cases e
    | some x => cases ey : ys[i]? with
      | none => rw [ex, ey] at e; cases e
      | some y =>
        rw [ex, ey] at e
        cases e
        obtain ⟨v, ev, rv⟩ := r1.get ex
        obtain ⟨u, eu, ru⟩ := r2.get ey
        refine ⟨⟨us, vs, v, u, q1, q2, ev, eu⟩, fun x' H' ⟨T, x1, y1, e1, hT, eH, f1, f2⟩ => ?_⟩
        have z1 := f1 us q1
        have z2 := f2 vs q2
        rw [ev] at z1; rw [eu] at z2
        cases z1; cases z2
        subst e1; subst eH
        obtain ⟨rl2, st2⟩ := rl.new hT (.tup [v, u])
        exact ⟨_, rl2, st2, .pair upd_same (.cons ((rv.same sm).same st2.g) (.cons ((ru.same sm).same st2.g) .nil)) (by show 2 ≤ sizeLine; decide)⟩
  · refine ⟨us, vs, h1 H (sm.trans rl.sub), h2 H (sm.trans rl.sub), ?_⟩
    unfold zip2
    rw [List.length_zipWith, r1.len, r2.len]
end
section
variable {X : Cx} {e e2 e3 : Expr} {t u v : DT} {p pos tpos : Pos} {elts : List Expr} {kk : Nat}
theorem pdi_zip2 (h1 : PD X e t) (h2 : PD X e2 u) (hg : Gl X "zip") (hm : X.mg "zip" = none)
    (hs : starEach [e, e2] X.env = (false, eval e X.env) :: starEach [e2] X.env := by rfl) (hs2 : starEach [e2] X.env = (false, eval e2 X.env) :: starEach [] X.env := by rfl) (hpl : (backTo pos (starEach [e2] X.env)).any (·.1) = false := by rfl) :
    PDI X (.Tuple elts kk tpos) (.Call (.Name "zip" p) [e, e2] [] pos) (sZip2 t u) := by
  refine piM (pi_zip2 hg hm (pa_cons h1 (pa_cons h2 pa_nil hs2) hs) hs hpl) fun s H R ⟨G, r, m, Q, hs, hr, q, w⟩ => ?_
  refine lf2 (K := X.kf) hs hr q fun x y dx dy H' G' m' st rl rx ry ⟨xs, ys, e1, e2, q1⟩ => ?_
  obtain ⟨k1, a, us, ea, ha, ra⟩ := seqB_is rx e1
  obtain ⟨k2, b, vs, eb, hb, rb⟩ := seqB_is ry e2
  subst ea; subst eb
  exact ⟨k1, k2, a, b, us, vs, rfl, ha _ rl.sub, hb _ rl.sub, w _ _ _ _ _ st rl (wk_z2 ha ra hb rb) q1⟩
end
end Mn

set_option Elab.async false
set_option linter.all false
set_option maxRecDepth 100000
set_option maxHeartbeats 4000000
set_option autoImplicit false
namespace Mn
open PySem PySem.Spec PyProof.Rows L2
variable [Tbs]
/-! enumerate(x) -/
theorem meets_enum1 {v : Value} {o : Obj} {H : Heap → Prop} (B : Begins v o H) :
    Meets (Builtin.«enumerate.__new__» ⟨[.type "enumerate", v], []⟩) (fun _ R s => H s.heap ∧
      R (.ok (.ret (.ref (s.heap.push o).objs.size))) { s with heap := (s.heap.push o).push { cls := .type "enumerate", data := .fields #[.none, .bool false, .ref s.heap.objs.size, rawInt 0, .none, .none] } }) :=
  .of_wp fun prog w A R s ⟨h1, h⟩ => by
    obtain ⟨hp, g, d, tk, os⟩ := s
    have hsub := sub_enumerate
    have go : ∀ {A' : Around} {E : Value → Shared → Prop} {Q : Value → Shared → Prop}, Q (.ref hp.objs.size) ⟨hp.push o, g, d, tk, os⟩ → wpAny (model prog w) A' (pyIter v) Q E ⟨hp, g, d, tk, os⟩ :=
      fun q => B.iter prog w _ _ ⟨hp, g, d, tk, os⟩ _ h1 q
    wp_walk using go
    refine wpAny_stack_any fun st => wpAny_pure ?_
    split
    · rename_i c _ _ _ _ _
      cases (c == Value.type "enumerate") <;> (wp_walk using go; exact ⟨_, rfl, h⟩)
    · wp_walk using go
      exact ⟨_, rfl, h⟩
theorem enum_one {prog : Program} {w : World} {A : Around} {E : Value → Shared → Prop} {s : Shared} {v : Value} {o : Obj} {H : Heap → Prop} {Q : Value → Shared → Prop} (B : Begins v o H) (h1 : H s.heap)
    (h : ∀ h', IsEnum h' (s.heap.objs.size + 1) s.heap.objs.size 0 .none → h'.get? s.heap.objs.size = some o → h'.objs.size = s.heap.objs.size + 2 → (∀ b o, s.heap.get? b = some o → h'.get? b = some o) → Q (.ref (s.heap.objs.size + 1)) { s with heap := h' }) :
    wpAny (model prog w) A (call (.type "enumerate") [v]) Q E s := by
  refine callType_new F.called_enumerate (by decide) (F.typeCall_enumerate_1 _) (F.newCall_enumerate_1 _) (fun obj => F.args_object_init_2 obj _) F.entry_enumerate_new (meets_enum1 B) ⟨h1, ?_⟩
  have sz : (s.heap.push o).objs.size = s.heap.objs.size + 1 := Heap.size_push ..
  show _ ∧ _
  rw [sz]
  have en : IsEnum ((s.heap.push o).push { cls := .type "enumerate", data := .fields #[.none, .bool false, .ref s.heap.objs.size, rawInt 0, .none, .none] }) (s.heap.objs.size + 1) s.heap.objs.size 0 .none := by
    have z := Heap.get?_push_size (s.heap.push o) (o := { cls := .type "enumerate", data := .fields #[.none, .bool false, .ref s.heap.objs.size, rawInt 0, .none, .none] }) rfl
    rw [sz] at z; exact z
  exact ⟨⟨_, en, rfl⟩, h _ en (Heap.get?_push_of_some _ (Heap.get?_push_size _ B.free)) (by rw [Heap.size_push, sz]) fun b o x => Heap.get?_push_of_some _ (Heap.get?_push_of_some _ x)⟩
def IteB (K : PySem.W.Frag) (k : Bool) (a : Addr) : It :=
  ⟨fun i H => ∃ (xs : List V) (x : V), SqB K k H a xs ∧ xs[i]? = some x, fun i H v H' => ∃ T x, v = .ref T ∧ H T = none ∧ H' = upd H T (.tup [.int (i : Nat), x]) ∧ ∀ xs, SqB K k H a xs → xs[i]? = some x, fun i H => ∃ xs : List V, SqB K k H a xs ∧ i = xs.length⟩
theorem turn_en {P : Program} {w : World} {K : PySem.W.Frag} {elts : List Expr} {kk : Nat} {tpos : Pos} {k : Bool} {a e it : Addr} (n1 : a ≠ it) (n2 : e ≠ it) (n3 : e ≠ a) :
    Turn P w K (.Tuple elts kk tpos) (IteB K k a) [e, it] e (fun i h => (∃ old, IsEnum h e it (0 + ((i : Nat) : Int)) old) ∧ ItAt k h it a i) where
  mem := by simp
  obj := fun i h ⟨⟨old, he⟩, h1⟩ c hc => by
    have e' : c = e ∨ c = it := by simpa using hc
    rcases e' with q | q <;> subst q
    · exact ⟨_, he, fun v q => nomatch q⟩
    · exact h1.obj
  keep := fun i h h' ⟨⟨old, he⟩, h1⟩ q => ⟨⟨old, q e (by simp) _ he⟩, h1.at fun o z => q it (by simp) o z⟩
  item := by
    intro X hP hw hK hc i pins s σ H E I hf ⟨⟨old, he⟩, h1⟩ ⟨xs, x, hqx, hx⟩
    subst hP hw hK
    obtain ⟨its, rv, p1, _, la⟩ := sqb_raw I hqx
    obtain ⟨u, hu, ru⟩ := rv.get hx
    have hh : X.A.in1.handled = none := I.ok.hd hc
    have W := GoesN.enumFrom (prog := X.prog) (w := X.w) (A := X.A) (elts := elts) (x1 := kk) (pos := tpos) 0 (drawsB hh k it a n1 its.toArray) e n2 (by simp [n2, n3]) (by simp)
    have hl1 : i < its.toArray.size := by rw [List.size_toArray]; exact (List.getElem?_eq_some_iff.mp hu).1
    refine wpAny_mono (W.goes i s (fun v s2 => ∃ xv H', Inv X pins σ H' s2 ∧ RelV xv v ∧ (IteB X.K k a).yld i H xv H' ∧ ((∃ old, IsEnum s2.heap e it (0 + ((i + 1 : Nat) : Int)) old) ∧ ItAt k s2.heap it a (i + 1)) ∧ ∀ b ∈ [e, it], H' b = none) E hl1 ⟨⟨old, he⟩, h1, p1⟩ fun v h' tk hY st' hk htk => ?_) (fun r s1 h => h) fun _ _ h => h
    obtain ⟨T, t, xv, rfl, hT, ex, hTup⟩ := hY
    have ex' : xv = u := by
      have : its.toArray[i]? = some u := by simpa using hu
      rw [this] at ex; cases ex; rfl
    subst ex'
    rw [Int.zero_add] at hTup
    have new : ObjOk X.prog X.w (upd H T (.tup [.int (i : Nat), x])) h' T (.tup [.int (i : Nat), x]) := ⟨by show 2 ≤ sizeLine; decide, [.int (i : Nat) t, xv], .cons ⟨_, rfl⟩ (.cons ru .nil), hTup⟩
    have I1 : Inv X pins σ (upd H T (.tup [.int (i : Nat), x])) { s with heap := h', toks := tk } := I.turnedNew (t' := tk) (ch := [e, it]) (fun c o hb q => hk c o hb q) hf hT new
    refine ⟨.ref T, _, I1, rfl, ⟨T, x, rfl, I.hok.fresh hT, rfl, fun l hl => by rw [sqb_inj I hl hqx]; exact hx⟩, ⟨st'.1, st'.2.1⟩, fun c hcm => ?_⟩
    have hlt : c < s.heap.objs.size := by
      have e' : c = e ∨ c = it := by simpa using hcm
      rcases e' with q | q <;> subst q
      · exact Heap.lt_size he
      · obtain ⟨_, z, _⟩ := h1.obj; exact Heap.lt_size z
    rw [upd_ne (Nat.ne_of_lt (Nat.lt_of_lt_of_le hlt hT))]
    exact (hf c hcm).1
  done := by
    intro X hP hw hK hc i pins s σ H E I hf ⟨⟨old, he⟩, h1⟩ ⟨xs, hqx, hend⟩
    subst hP hw hK
    obtain ⟨its, rv, p1, _, la⟩ := sqb_raw I hqx
    have hh : X.A.in1.handled = none := I.ok.hd hc
    have W := GoesN.enumFrom (prog := X.prog) (w := X.w) (A := X.A) (elts := elts) (x1 := kk) (pos := tpos) 0 (drawsB hh k it a n1 its.toArray) e n2 (by simp [n2, n3]) (by simp)
    have e1 : i = its.toArray.size := by rw [hend, List.size_toArray, rv.length]
    subst e1
    refine wpAny_mono (W.stops s (fun s1 => Inv X pins σ H s1) E ⟨⟨old, he⟩, h1, p1⟩ fun h' tk hk htk => ?_) (fun r s1 h => h) fun _ _ h => h
    exact I.turnedL (t' := tk) (ch := [e, it]) (fun c o hb q => hk c o hb q) hf
  self := fun A i s Q E ⟨⟨_, he⟩, _⟩ h => wpAny_pyIter_enum he h
def iEnB (K : PySem.W.Frag) (te : TE) : TI := fun σ H R => te σ H fun v H1 => ∃ k a xs, v = .ref a ∧ SqB K k H1 a xs ∧ R (IteB K k a) H1
theorem pi_en {X : Cx} {e : Expr} {te : TE} {p pos tpos : Pos} {elts : List Expr} {kk : Nat} (hg : Gl X "enumerate") (hm : X.mg "enumerate" = none) (ha : PE X e te)
    (hs : starEach [e] X.env = (false, eval e X.env) :: starEach [] X.env := by rfl) : PI X (.Tuple elts kk tpos) (.Call (.Name "enumerate" p) [e] [] pos) (iEnB X.K te) := by
  refine ⟨fun pins s σ H R I h => ?_⟩
  refine Call_ (ld_blt I hg hm boot_enumerate (PyProof.Rows.callWith_type1 (PyProof.Rows.args_cons (thn (ha.run pins s σ H _ I h) fun v s1 ⟨x, H1, I1, r1, q1⟩ => PyProof.Rows.args_nil ?_) hs) hs rfl))
  obtain ⟨k, a, xs, ex, hqx, q⟩ := q1
  subst ex
  cases r1
  obtain ⟨its, rv, p1, _, la⟩ := sqb_raw I1 hqx
  refine enum_one (beginsB k a its.toArray) p1 fun h' he h1 hsz hk => wpAny_pyIter_enum he ?_
  have I2 : Inv X pins σ H1 { s1 with heap := h' } := I1.kept (t' := s1.toks) hk
  refine ⟨s1.heap.objs.size + 1, [s1.heap.objs.size + 1, s1.heap.objs.size], _, _, H1, rfl, I2, turn_en (Nat.ne_of_lt la) (Nat.succ_ne_self _) (Nat.ne_of_gt (Nat.lt_succ_of_lt la)), ⟨⟨.none, he⟩, itObj_at h1⟩, fun c hc => ?_, q⟩
  have hle : s1.heap.objs.size ≤ c := by
    have e' : c = s1.heap.objs.size + 1 ∨ c = s1.heap.objs.size := by simpa using hc
    rcases e' with z | z <;> rw [z]
    · exact Nat.le_add_right _ _
    · exact Nat.le_refl _
  exact I1.fpOk hle (I1.hok.fresh hle)
def enumD : Nat → List D → List D
  | _, [] => []
  | i, d :: ds => .pair [.int (i : Nat), d] :: enumD (i + 1) ds
theorem enumD_get : ∀ (ds : List D) (j i : Nat), (enumD j ds)[i]? = (ds[i]?).map fun d => D.pair [.int ((j + i : Nat) : Int), d]
  | [], _, _ => by simp [enumD]
  | d :: ds, j, 0 => by simp [enumD]
  | d :: ds, j, i + 1 => by
    rw [enumD, List.getElem?_cons_succ, List.getElem?_cons_succ, enumD_get ds (j + 1) i]
    have e : j + 1 + i = j + (i + 1) := by omega
    rw [e]
theorem enumD_len : ∀ (ds : List D) (j : Nat), (enumD j ds).length = ds.length
  | [], _ => rfl
  | d :: ds, j => by rw [enumD, List.length_cons, List.length_cons, enumD_len ds (j + 1)]
def sEnum (t : DT) : DI := fun r m Q => t r m fun d m1 => ∃ xs, seqI d = some xs ∧ Q (enumD 0 xs) m1
theorem wk_en {K : KF} {G : Hp} {k : Bool} {a : Addr} {xs : List D} {us : List V} (h1 : ∀ H, Same G H → SqB K k H a us) (r1 : RpL K G xs us) : Wk K G (IteB K k a) (enumD 0 xs) := by
  refine ⟨fun G1 H m i d sm rl e => ?_, fun G1 H m sm rl => ?_⟩
  · have q1 := h1 H (sm.trans rl.sub)
    rw [enumD_get] at e
    cases ex : xs[i]? with
    | none => rw [ex] at e; cases e
    | some x =>
      rw [ex, Nat.zero_add] at e
      cases e
      obtain ⟨v, ev, rv⟩ := r1.get ex
      refine ⟨⟨us, v, q1, ev⟩, fun x' H' ⟨T, x1, e1, hT, eH, f1⟩ => ?_⟩
      have z1 := f1 us q1
      rw [ev] at z1
      cases z1
      subst e1; subst eH
      obtain ⟨rl2, st2⟩ := rl.new hT (.tup [.int (i : Nat), v])
      exact ⟨_, rl2, st2, .pair upd_same (.cons (.int _) (.cons ((rv.same sm).same st2.g) .nil)) (by show 2 ≤ sizeLine; decide)⟩
  · refine ⟨us, h1 H (sm.trans rl.sub), ?_⟩
    rw [enumD_len, r1.len]
theorem pdi_enum {X : Cx} {e : Expr} {t : DT} {p pos tpos : Pos} {elts : List Expr} {kk : Nat} (h1 : PD X e t) (hg : Gl X "enumerate") (hm : X.mg "enumerate" = none)
    (hs : starEach [e] X.env = (false, eval e X.env) :: starEach [] X.env := by rfl) : PDI X (.Tuple elts kk tpos) (.Call (.Name "enumerate" p) [e] [] pos) (sEnum t) := by
  refine piM (pi_en hg hm h1 hs) fun s H R ⟨G, r, m, Q, hs, hr, q, w⟩ => ?_
  refine ⟨G, r, m, _, hs, hr, q, fun x H1 G1 m1 dx s1 r1 rx ⟨xs, e1, q1⟩ => ?_⟩
  obtain ⟨k1, a, us, ea, ha, ra⟩ := seqB_is rx e1
  subst ea
  exact ⟨k1, a, us, rfl, ha _ r1.sub, w _ _ _ _ _ s1 r1 (wk_en ha ra) q1⟩
end Mn

set_option Elab.async false
set_option linter.all false
set_option maxRecDepth 100000
set_option maxHeartbeats 4000000
set_option autoImplicit false
namespace Mn
open PySem PySem.Spec PyProof.Rows L2
variable [Tbs]
section
variable {X : Cx} {elt tg iter : Expr} {ifs : List Expr} {scope : Scope} {own : List (Str × Nat)} {pos spos py : Pos} {src : DI} {g : TG} {dg : DG} {tt : DB} {te : DT} {i : Nat} {y : Str}
theorem pds_setLc (hc : X.calm = true) (hN : X.N.Nodup) (hy : X.N[i]? = some y) (hyl : X.env.scope.names.lookup y = some .local)
    (hsw : swapsWith (.ListComp elt [⟨tg, iter, ifs, 0⟩] scope pos) (some (.Name y py)) spos.line X.env = pure true) (hi : PDI X tg iter src) (ok : BlkOk X.N X.env.scope scope own) (gc : GC X.kf g dg (own.map (·.2)))
    (hg : ∀ (s : Shared) (H : Hp) (C : Addr) (cl : List (Str × Addr)) (fp : List Addr), PG (X.blk s H scope (compEnvC scope cl C X.env) fp) tg g) (ht : ∀ (s : Shared) (H : Hp) (C : Addr) (cl : List (Str × Addr)) (fp : List Addr), PDTs (X.blk s H scope (compEnvC scope cl C X.env) fp) ifs tt)
    (he : ∀ (s : Shared) (H : Hp) (C : Addr) (cl : List (Str × Addr)) (fp : List Addr), PD (X.blk s H scope (compEnvC scope cl C X.env) fp) elt te) (hs : ∀ x, foldedSetIterable iter X.env x = pure x := by intro _; rfl) :
    PDS X (.Assign [.Name y py] (.ListComp elt [⟨tg, iter, ifs, 0⟩] scope pos) spos) (xAsg (dLc src (own.map (·.2)) dg tt te) (gV i)) :=
  psM (ps_setLc (tt := lfB X.kf tt) (te := lf X.kf te) hc hN hy hyl hsw hi ok hg ht he hs) fun _ _ _ h => lc_frz gc (lfAsg (vs := [i]) (gc_name (by simp)) h)
end
/-! a whole number that the top has named; a def of the top; a def that keeps its promise -/
def Ci (mg : Str → Option Value) (x : Str) (v : Int) : Prop := ∃ t, mg x = some (.int v t)
theorem pd_globI {X : Cx} {x : Str} {v : Int} {pos : Pos} (h : Ci X.mg x v) (hg : Gl X x) (hd : (x == ("__debug__" : Str)) = false := by decide) : PD X (.Name x pos) (dC (.int v)) := by
  obtain ⟨t, e⟩ := h
  exact pd_of (pe_glob (v := .int v) hg e ⟨_, rfl⟩ hd) fun _ => .int v
structure Df (K : PySem.W.Frag) (mg : Str → Option Value) (x : Str) (st : Stmt) (ps : List Str) (f : Addr) (fd : FuncData) : Prop where
  F : Fun K x x st f fd
  g : mg x = some (.ref f)
  b : Binds K fd ps []
def Cl (P : Program) (w : World) (K : PySem.W.Frag) (mg : Str → Option Value) (base : Heap) (x : Str) (k : Nat) (ps : List Str) (d : DSp) : Prop :=
  ∃ f fd, mg x = some (.ref f) ∧ PySem.W.keepIn K (.ref f) = true ∧ Binds K fd ps [] ∧ FnD P w K mg base k f fd ps d
theorem fnC {P : Program} {w : World} {K : PySem.W.Frag} {mg : Str → Option Value} {base : Heap} {x : Str} {st : Stmt} {N ps : List Str} {k : Nat} {t : DS} {d : DSp} (h : ∃ f fd, Df K mg x st ps f fd) (S : FnScope N ps (defScope st)) (hl : ∀ ds m Q, d ds m Q → ds.length = ps.length) (hb : Body N.length t d)
    (der : ∀ (f : Addr) (cdv : Value) (A : Around) (outer : List Env) (s : Shared) (H : Hp) (E : XK), A.guards = some [] → Room k (A.deeper (envOfC x (defScope st) s.heap.objs.size f cdv)) → PDSs (cxOf CX0 P w K mg base N x (defScope st) f cdv A outer s H E).nox (defBody st) t) :
    Cl P w K mg base x (k + 1) ps d := by
  obtain ⟨f, fd, Dd⟩ := h
  refine ⟨f, fd, Dd.g, Dd.F.kp, Dd.b, ?_⟩
  obtain ⟨oc, od, kV, doc, pm, an, cdv, ct, osl, rfl, lk, hcd⟩ := Dd.F.ex
  refine gn_of lk hcd S (fun vs H Q E ⟨G, ds, m, Qd, rp, rl, q, w⟩ => by rw [← rp.len]; exact hl _ _ _ q) fun A outer s H vs Q E room gd h => ?_
  exact ⟨_, PSs.nox (der f cdv A outer s H E gd room), lfS_start hb h⟩
theorem pd_callC {X : Cx} {k : Nat} {ps : List Str} {d : DSp} {x : Str} {p pos : Pos} {e : Expr} {es : List Expr} {tr : DA} (C : Cl X.prog X.w X.K X.mg X.base x k ps d) (room : Room k X.A) (gd : X.A.guards = some []) (hg : Gl X x)
    (ha : PDA X (e :: es) tr) (hdb : (x == ("__debug__" : Str)) = false := by decide) (he : starEach (e :: es) X.env = (false, eval e X.env) :: starEach es X.env := by rfl) (hpl : (backTo pos (starEach es X.env)).any (·.1) = false := by rfl) :
    PD X (.Call (.Name x p) (e :: es) [] pos) (dCB d tr) := by
  obtain ⟨f, fd, hm, hk, bd, F⟩ := C
  exact pd_call F room gd hg hm hk bd ha hdb he hpl
/-- the built-in names are the built-in things -/
structure Bts (mg : Str → Option Value) : Prop where
  len : mg "len" = none
  isi : mg "isinstance" = none
  int : mg "int" = none
  bool : mg "bool" = none
  str : mg "str" = none
  tuple : mg "tuple" = none
  list : mg "list" = none
  dict : mg "dict" = none
  set : mg "set" = none
  all : mg "all" = none
  any : mg "any" = none
  sum : mg "sum" = none
  max : mg "max" = none
  min : mg "min" = none
  zip : mg "zip" = none
  range : mg "range" = none
  enum : mg "enumerate" = none
  repr : mg "repr" = none
  sorted : mg "sorted" = none
end Mn

set_option Elab.async false
set_option linter.all false
set_option maxRecDepth 100000
set_option maxHeartbeats 4000000
set_option autoImplicit false
namespace Mn
open PySem PySem.Spec PyProof.Rows L2
variable [Tbs]
theorem _root_.L2.Room.u65 {k : Nat} {A : Around} (r : Room k A) : A.units + 65 < cLine := by have := r.un; omega
/-! keys in the abstract heap -/
mutual
inductive KyH (H : Hp) : NestedKey → V → Prop
  | non : KyH H .none .non
  | num (i : Int) : KyH H (.num i) (.int i)
  | text (x : Str) : KyH H (.text x) (.str x)
  | tup {a : Addr} {vs : List V} {ks : List NestedKey} : Rd H a (.tup vs) → KyAll H ks vs → KyH H (.tup ks) (.ref a)
inductive KyAll (H : Hp) : List NestedKey → List V → Prop
  | nil : KyAll H [] []
  | cons {k : NestedKey} {v : V} {ks : List NestedKey} {vs : List V} : KyH H k v → KyAll H ks vs → KyAll H (k :: ks) (v :: vs)
end
section
variable {X : Cx} {pins : List (Addr × Obj)} {σ : L2.St} {H : Hp} {s : Shared}
mutual
theorem KyH.is (I : Inv X pins σ H s) : ∀ {k : NestedKey} {v : V} {u : Value}, KyH H k v → RelV v u → NestedIs s.heap k u
  | _, _, _, .non, r => by cases r; exact .none
  | _, _, _, .num i, r => by obtain ⟨t, rfl⟩ := r; exact .int i t
  | _, _, _, .text x, r => by obtain ⟨t, rfl⟩ := r; exact .text x t
  | _, _, _, .tup h q, r => by
    cases r
    obtain ⟨_, its, rv, o, ho, hc, n, hd⟩ := h.ok I.hok
    exact .tup ho hc hd (by simpa using KyAll.is I q rv)
theorem KyAll.is (I : Inv X pins σ H s) : ∀ {ks : List NestedKey} {vs : List V} {us : List Value}, KyAll H ks vs → Vals vs us → NestedAll s.heap ks us
  | _, _, _, .nil, r => by cases r; exact .nil
  | _, _, _, .cons h q, r => by
    cases r with
    | cons r1 r2 => exact .cons (KyH.is I h r1) (KyAll.is I q r2)
end
end
section
variable {K : KF} {G H : Hp}
mutual
theorem ky_of (e : Same G H) : ∀ {k : NestedKey} {v : V}, Rp K G (keyD k) v → KyH H k v
  | .none, v, h => by rw [keyD] at h; cases h; exact .non
  | .num i, v, h => by rw [keyD] at h; cases h; exact .num i
  | .text x, v, h => by rw [keyD] at h; cases h; exact .text x
  | .tup ks, v, h => by
    rw [keyD] at h
    cases h with
    | tup h1 h2 _ =>
      obtain ⟨o, _, q⟩ := h1
      exact .tup (.inr ⟨o, e _ _ q⟩) (kys_of e h2)
theorem kys_of (e : Same G H) : ∀ {ks : List NestedKey} {vs : List V}, RpL K G (keyDs ks) vs → KyAll H ks vs
  | [], _, h => by rw [keyDs] at h; cases h; exact .nil
  | k :: ks, _, h => by
    rw [keyDs] at h
    cases h with
    | cons h1 h2 => exact .cons (ky_of e h1) (kys_of e h2)
end
end
/-! the dict in the abstract heap -/
abbrev Row3 := List (NestedKey × Addr × V)
abbrev PairX : Row3 → List (NestedKey × Addr × Value) → Prop := Paired fun (p : NestedKey × Addr × V) (q : NestedKey × Addr × Value) => p.1 = q.1 ∧ p.2.1 = q.2.1 ∧ RelV p.2.2 q.2.2
structure DN (wd : World) (H : Hp) (a : Addr) (xs : Row3) : Prop where
  at_ : H a = some (.ext (dictAt wd a xs)) ∨ ∃ o, H a = some (.frz o (.ext (dictAt wd a xs)))
  ns : (a == sysModules) = false
  nd : (xs.map (·.1)).Nodup
  ks : ∀ x ∈ xs, KyH H x.1 (.ref x.2.1) ∧ x.1.depth ≤ 8
  sz : xs.length ≤ sizeLine
def atV (xs : Row3) (k : NestedKey) : Option V := (xs.find? fun x => decide (x.1 = k)).map (·.2.2)
def putV (xs : Row3) (k : NestedKey) (b : Addr) (v : V) : Row3 := if (atV xs k).isSome = true then xs.map (fun x => if x.1 = k then (x.1, x.2.1, v) else x) else xs ++ [(k, b, v)]
theorem pairX_at {k : NestedKey} : ∀ {xs : Row3} {vs : List (NestedKey × Addr × Value)}, PairX xs vs → RelO (atV xs k) ((atKey vs k).map (·.2))
  | _, _, .nil => by simp [atV, atKey, RelO]
  | x :: xs, y :: vs, .cons h r => by
    obtain ⟨e1, e2, e3⟩ := h
    by_cases hk : x.1 = k
    · have hk2 : y.1 = k := e1 ▸ hk
      simp only [atV, atKey, List.find?_cons, hk, hk2, decide_true, Option.map_some, RelO]
      exact e3
    · have hk2 : ¬ y.1 = k := fun z => hk (e1.trans z)
      have ih := pairX_at (k := k) r
      simp only [atV, atKey, List.find?_cons, hk, hk2, decide_false] at ih ⊢
      exact ih
theorem pairX_put {k : NestedKey} {b : Addr} {v : V} {u : Value} (rv : RelV v u) {xs : Row3} {vs : List (NestedKey × Addr × Value)} (h : PairX xs vs) : PairX (putV xs k b v) (storedH vs k b u) := by
  have hs : (atV xs k).isSome = (atKey vs k).isSome := by
    have := (pairX_at (k := k) h).isSome_eq
    rw [Option.isSome_map] at this
    exact this
  unfold putV storedH
  rw [hs]
  by_cases hk : (atKey vs k).isSome = true
  · rw [if_pos hk, if_pos hk]
    clear hs hk
    induction h with
    | nil => exact .nil
    | cons hh _ ih =>
      rename_i x y _ _ _
      obtain ⟨e1, e2, e3⟩ := hh
      rw [List.map_cons, List.map_cons]
      refine .cons ?_ ih
      unfold putAt
      by_cases hx : x.1 = k
      · have hy : y.1 = k := e1 ▸ hx
        rw [if_pos hx, if_pos hy]
        exact ⟨e1, e2, rv⟩
      · have hy : ¬ y.1 = k := fun z => hx (e1.trans z)
        rw [if_neg hx, if_neg hy]
        exact ⟨e1, e2, e3⟩
  · rw [if_neg hk, if_neg hk]
    clear hs hk
    induction h with
    | nil => exact .cons ⟨rfl, rfl, rv⟩ .nil
    | cons hh _ ih => exact .cons hh ih
theorem pairX_len : ∀ {xs : Row3} {vs : List (NestedKey × Addr × Value)}, PairX xs vs → xs.length = vs.length := Paired.length
theorem pairX_keys : ∀ {xs : Row3} {vs : List (NestedKey × Addr × Value)}, PairX xs vs → xs.map (·.1) = vs.map (·.1) ∧ xs.map (·.2.1) = vs.map (·.2.1)
  | _, _, .nil => ⟨rfl, rfl⟩
  | _, _, .cons h r => by
    obtain ⟨e1, e2, _⟩ := h
    obtain ⟨i1, i2⟩ := pairX_keys r
    exact ⟨by rw [List.map_cons, List.map_cons, e1, i1], by rw [List.map_cons, List.map_cons, e2, i2]⟩
theorem pairX_mem : ∀ {xs : Row3} {vs : List (NestedKey × Addr × Value)} {y : NestedKey × Addr × Value}, PairX xs vs → y ∈ vs → ∃ x ∈ xs, x.1 = y.1 ∧ x.2.1 = y.2.1
  | _, _, _, .nil, h => by cases h
  | _, _, y, .cons h r, hy => by
    rcases List.mem_cons.mp hy with rfl | hy
    · exact ⟨_, List.mem_cons_self, h.1, h.2.1⟩
    · obtain ⟨x, hx, e⟩ := pairX_mem r hy
      exact ⟨x, List.mem_cons_of_mem _ hx, e⟩
theorem putV_keys (xs : Row3) (k : NestedKey) (b : Addr) (v : V) : (putV xs k b v).map (·.1) = if (atV xs k).isSome = true then xs.map (·.1) else xs.map (·.1) ++ [k] := by
  unfold putV
  split
  · rw [List.map_map]
    refine List.map_congr_left fun x _ => ?_
    simp only [Function.comp]
    split <;> rfl
  · rw [List.map_append]; rfl
theorem atV_none {xs : Row3} {k : NestedKey} (h : ¬ (atV xs k).isSome = true) : k ∉ xs.map (·.1) := fun hm => h (by
  obtain ⟨x, hx, rfl⟩ := List.mem_map.mp hm
  unfold atV
  rw [Option.isSome_map, List.find?_isSome]
  exact ⟨x, hx, by simp⟩)
theorem putV_nodup {xs : Row3} {k : NestedKey} {b : Addr} {v : V} (h : (xs.map (·.1)).Nodup) : ((putV xs k b v).map (·.1)).Nodup := by
  rw [putV_keys]
  split
  · exact h
  · rename_i hk
    rw [List.nodup_append]
    exact ⟨h, List.pairwise_singleton _ _, fun a ha c hc => by rw [List.mem_singleton.mp hc]; rintro rfl; exact atV_none hk ha⟩
theorem putV_mem {xs : Row3} {k : NestedKey} {b : Addr} {v : V} {y : NestedKey × Addr × V} (h : y ∈ putV xs k b v) : (∃ x ∈ xs, x.1 = y.1 ∧ x.2.1 = y.2.1) ∨ (y.1 = k ∧ y.2.1 = b) := by
  unfold putV at h
  split at h
  · obtain ⟨x, hx, rfl⟩ := List.mem_map.mp h
    refine .inl ⟨x, hx, ?_⟩
    split <;> exact ⟨rfl, rfl⟩
  · rcases List.mem_append.mp h with h | h
    · exact .inl ⟨y, h, rfl, rfl⟩
    · rw [List.mem_singleton.mp h]; exact .inr ⟨rfl, rfl⟩
section
variable {X : Cx} {pins : List (Addr × Obj)} {σ : L2.St} {H : Hp} {s : Shared} {a : Addr} {xs : Row3} {A : Around} {E : Value → Shared → Prop}
theorem DN.dict (d : DN X.w H a xs) (I : Inv X pins σ H s) : ∃ vs, PairX xs vs ∧ s.heap.DictOfH (nestedKind X.prog X.w) a vs := by
  obtain ⟨vs, r, o, es, ep, ho, hx, hd, he⟩ : dictAt X.w a xs s.heap := by
    rcases d.at_ with e | ⟨o, e⟩
    · exact (I.hok a _ e).1
    · exact (I.hok a _ e).2.1
  refine ⟨vs, r, o, es, ep, ho, hx, hd, he, fun y hy => ?_, by rw [← (pairX_keys r).1]; exact d.nd⟩
  obtain ⟨x, hx, e1, e2⟩ := pairX_mem r hy
  obtain ⟨k1, k2⟩ := d.ks x hx
  rw [e1, e2] at k1
  rw [e1] at k2
  exact ⟨k1.is I rfl, k2⟩
theorem dn_room (hu : A.units + 65 < cLine) : (nestedKind X.prog X.w).room A.in1 := by
  show A.units + 1 + 8 < cLine
  omega
/-- d[k] -/
theorem dn_getItem {k : NestedKey} {b : Addr} {v : V} {Q : Value → Shared → Prop} (hu : A.units + 65 < cLine) (I : Inv X pins σ H s) (d : DN X.w H a xs) (hk : KyH H k (.ref b)) (h8 : k.depth ≤ 8) (hv : atV xs k = some v)
    (h : ∀ w' s', Inv X pins σ H s' → RelV v w' → Q w' s') : wpAny (model X.prog X.w) A (getItem (.ref a) (.ref b)) Q E s := by
  obtain ⟨vs, r, dd⟩ := d.dict I
  obtain ⟨w', hw, rw'⟩ := RelO.some_of (v := v) (o := (atKey vs k).map (·.2)) (by rw [← hv]; exact pairX_at r)
  obtain ⟨p, hp, hp2⟩ := Option.map_eq_some_iff.mp hw
  refine wpAny_getItem_heap (dn_room hu) ⟨hk.is I rfl, h8⟩ dd hp ?_
  rw [hp2]
  exact h w' _ (I.tok _) rw'
theorem ix_dN (hu : X.A.units + 65 < cLine) : IxR X (fun x y H Q => ∃ a xs k b v, x = .ref a ∧ y = .ref b ∧ DN X.w H a xs ∧ KyH H k (.ref b) ∧ k.depth ≤ 8 ∧ atV xs k = some v ∧ Q v H) := by
  intro value slice pins s σ H x y v u Q I rx ry ⟨a, xs, k, b, w0, e1, e2, d, hk, h8, hv, q⟩ hs
  subst e1; subst e2
  cases rx; cases ry
  obtain ⟨vs, r, dd⟩ := d.dict I
  unfold subscriptTail
  refine wpAny_bind ?_
  rw [getitemInPython_of_ne dd.typeIs.not_modules]
  refine wpAny_bind (wpAny_specialOf dd.typeIs PySem.F.slot_dict_getitem.lookup ?_)
  have fin : wpAny (model X.prog X.w) X.A (subscripted slice false (.ref a) (.ref b)) (fun r s₃ => wpAny (model X.prog X.w) X.A (letTemporaryGo value (.ref a) r >>= fun _ => pure r) (EP X pins σ Q) X.xe s₃) X.xe s := by
    rw [hs]
    exact wpAny_operating (dn_getItem hu I d hk h8 hv fun w' s' I' rw' => wpAny_bind (wpAny_letTemporaryGo (wpAny_pure ⟨w0, H, I', rw', q⟩)))
  first
    | exact wpAny_pure (wpAny_bind fin)
    | exact wpAny_bind (wpAny_pure (wpAny_bind fin))
    | exact wpAny_bind fin
/-- d[k] = v -/
def rSetN (wd : World) : V → V → V → Hp → (Hp → Prop) → Prop := fun o i v H Q => ∃ a xs k b, o = .ref a ∧ i = .ref b ∧ DN wd H a xs ∧ H a = some (.ext (dictAt wd a xs)) ∧ KyH H k (.ref b) ∧ k.depth ≤ 8 ∧ xs.length < sizeLine ∧ Q (upd H a (.ext (dictAt wd a (putV xs k b v))))
theorem dictAt_st {wd : World} {h1 h2 : Heap} (h : dictAt wd a xs h1) (k : ∀ o, h1.get? a = some o → h2.get? a = some o) : dictAt wd a xs h2 := by
  obtain ⟨vs, r, o, es, ep, ho, rest⟩ := h
  exact ⟨vs, r, o, es, ep, k o ho, rest⟩
theorem set_dN (hu : X.A.units + 65 < cLine) : PSet X (rSetN X.w) := by
  intro pins s σ H o i v ov iv u Q I ro ri rv ⟨a, xs, k, b, e1, e2, d, hat, hk, h8, hz, q⟩
  subst e1; subst e2
  cases ro; cases ri
  obtain ⟨vs, r, dd⟩ := d.dict I
  refine wpAny_setItem_heap (hsz := by rw [← pairX_len r]; exact d.sz) (dn_room hu) ⟨hk.is I rfl, h8⟩ dd fun h' dd' hs => ?_
  obtain ⟨o, es, ep, ho, h2, h3, h4, _, h5⟩ := dd'
  have da : dictAt X.w a (putV xs k b v) h' := ⟨_, pairX_put rv r, o, es, ep, ho, h2, h3, h4⟩
  exact ⟨_, d_write (ob := .ext (dictAt X.w a (putV xs k b v))) I (by rw [hat]; exact True.intro) hs ⟨o, ho⟩ ⟨da, ⟨o, ho⟩, fun h1 h2 x k => dictAt_st x k⟩, q⟩
/-- {} -/
def tDNewN (wd : World) : TE := fun _ H Q => ∀ p, H p = none → (p == sysModules) = false → Q (.ref p) (upd H p (.ext (dictAt wd p [])))
theorem pe_dnewN {pos : Pos} : PE X (.Dict [] [] pos) (tDNewN X.w) := ⟨fun pins s σ H Q I h => by
  have hb : (s.heap.objs.size == sysModules) = false := beq_eq_false_iff_ne.mpr (Ne.symm (Nat.ne_of_lt I.big))
  refine wpAny_Dict_empty ⟨.ref s.heap.objs.size, _, I.laid (a := s.heap.objs.size) (o := .ext (dictAt X.w s.heap.objs.size [])) (t' := s.toks) (fun _ _ q => Heap.get?_push_of_some _ q) (Nat.le_refl _) ?_, rfl, h _ (I.hok.fresh (Nat.le_refl _)) hb⟩
  exact ⟨⟨[], .nil, _, #[], 0, Heap.get?_push_size _ rfl, ⟨rfl, rfl, rfl⟩, rfl, rfl⟩, ⟨_, Heap.get?_push_size _ rfl⟩, fun h1 h2 x k => dictAt_st x k⟩⟩
end
/-! over data -/
def lookN (kvs : List (NestedKey × D)) (k : NestedKey) : Option D := (kvs.find? fun kv => decide (kv.1 = k)).map (·.2)
def putN (kvs : List (NestedKey × D)) (k : NestedKey) (d : D) : List (NestedKey × D) := if (lookN kvs k).isSome = true then kvs.map (fun kv => if kv.1 = k then (kv.1, d) else kv) else kvs ++ [(k, d)]
section
variable {K : KF} {G H : Hp} {m : Mu}
theorem look_is {k : NestedKey} {d : D} : ∀ {kvs : List (NestedKey × D)} {xs : Row3}, kvs.map (·.1) = xs.map (·.1) → RpL K G (kvs.map (·.2)) (xs.map (·.2.2)) → lookN kvs k = some d → ∃ v, atV xs k = some v ∧ Rp K G d v
  | [], [], _, _, h => by simp [lookN] at h
  | [], _ :: _, e, _, _ => by simp at e
  | _ :: _, [], e, _, _ => by simp at e
  | p :: kvs, x :: xs, e, r, h => by
    rw [List.map_cons, List.map_cons] at e r
    obtain ⟨e1, e2⟩ := List.cons.inj e
    cases r with
    | cons r1 r2 =>
      by_cases hk : p.1 = k
      · have hx : x.1 = k := e1 ▸ hk
        simp only [lookN, List.find?_cons, hk, decide_true, Option.map_some, Option.some.injEq] at h
        refine ⟨x.2.2, by simp only [atV, List.find?_cons, hx, decide_true, Option.map_some], h ▸ r1⟩
      · have hx : ¬ x.1 = k := fun z => hk (e1.trans z)
        have := look_is (k := k) (d := d) e2 r2 (by simpa [lookN, List.find?_cons, hk] using h)
        simpa [atV, List.find?_cons, hx] using this
theorem look_some {k : NestedKey} : ∀ {kvs : List (NestedKey × D)} {xs : Row3}, kvs.map (·.1) = xs.map (·.1) → (lookN kvs k).isSome = (atV xs k).isSome
  | [], [], _ => rfl
  | [], _ :: _, e => by simp at e
  | _ :: _, [], e => by simp at e
  | p :: kvs, x :: xs, e => by
    rw [List.map_cons, List.map_cons] at e
    obtain ⟨e1, e2⟩ := List.cons.inj e
    by_cases hk : p.1 = k
    · have hx : x.1 = k := e1 ▸ hk
      simp [lookN, atV, List.find?_cons, hk, hx]
    · have hx : ¬ x.1 = k := fun z => hk (e1.trans z)
      have := look_some (k := k) e2
      simpa [lookN, atV, List.find?_cons, hk, hx] using this
theorem put_is {k : NestedKey} {d : D} {v : V} {b : Addr} (rd : Rp K G d v) {kvs : List (NestedKey × D)} {xs : Row3} (e : kvs.map (·.1) = xs.map (·.1)) (r : RpL K G (kvs.map (·.2)) (xs.map (·.2.2))) :
    (putN kvs k d).map (·.1) = (putV xs k b v).map (·.1) ∧ RpL K G ((putN kvs k d).map (·.2)) ((putV xs k b v).map (·.2.2)) := by
  have hs := look_some (k := k) e
  unfold putN putV
  rw [hs]
  split
  · clear hs
    rename_i hk
    clear hk
    induction kvs generalizing xs with
    | nil =>
      cases xs with
      | nil => exact ⟨rfl, .nil⟩
      | cons x xs => simp at e
    | cons p kvs ih =>
      cases xs with
      | nil => simp at e
      | cons x xs =>
        rw [List.map_cons, List.map_cons] at e r
        obtain ⟨e1, e2⟩ := List.cons.inj e
        cases r with
        | cons r1 r2 =>
          obtain ⟨i1, i2⟩ := ih e2 r2
          by_cases hk : p.1 = k
          · have hx : x.1 = k := e1 ▸ hk
            simp only [List.map_cons, hk, hx, ↓reduceIte]
            exact ⟨by rw [i1], .cons rd i2⟩
          · have hx : ¬ x.1 = k := fun z => hk (e1.trans z)
            simp only [List.map_cons, hk, hx, ↓reduceIte]
            exact ⟨by rw [i1, e1], .cons r1 i2⟩
  · rw [List.map_append, List.map_append, List.map_append, List.map_append, e]
    exact ⟨rfl, r.app (.cons rd .nil)⟩
theorem putN_len (kvs : List (NestedKey × D)) (k : NestedKey) (d : D) : (putN kvs k d).length ≤ kvs.length + 1 := by
  unfold putN
  split
  · rw [List.length_map]; omega
  · rw [List.length_append, List.length_singleton]; omega
theorem Rl.dn (r : Rl K G H m) {p : Addr} {kvs : List (NestedKey × D)} (e : m p = some (.dN kvs)) : ∃ xs, DN K.wd H p xs ∧ kvs.map (·.1) = xs.map (·.1) ∧ RpL K G (kvs.map (·.2)) (xs.map (·.2.2)) ∧ (∀ x ∈ xs, Rp K G (keyD x.1) (.ref x.2.1) ∧ x.1.depth ≤ 8) ∧ kvs.length ≤ sizeLine ∧ H p = some (.ext (dictAt K.wd p xs)) := by
  obtain ⟨_, u, hu, xs, eu, ns, nd, ek, rv, ky, z⟩ := r.mu p _ e
  subst eu
  have hl : kvs.length = xs.length := by have := congrArg List.length ek; simpa using this
  exact ⟨xs, ⟨.inl hu, ns, nd, fun x hx => ⟨ky_of r.sub (ky x hx).1, (ky x hx).2⟩, by rw [← hl]; exact z⟩, ek, rv, ky, z, hu⟩
end
/-! items -/
def aIx : DR2 := fun x y m Q => match y with
  | .int i => ∃ ds d, seqOf x m = some ds ∧ at_ ds i = some d ∧ Q d m
  | .tup ks => match x with
    | .dct kl dl => ∃ k d, D.tup ks = keyD k ∧ k.depth ≤ 8 ∧ lookN (kl.zip dl) k = some d ∧ Q d m
    | x => ∃ p kvs k d, x = .ref p ∧ m p = some (.dN kvs) ∧ D.tup ks = keyD k ∧ k.depth ≤ 8 ∧ lookN kvs k = some d ∧ Q d m
  | _ => False
/-- a dict that is never changed -/
theorem dct_is {K : KF} {G H : Hp} {kl : List NestedKey} {dl : List D} {v : V} (sb : Same G H) (h : Rp K G (.dct kl dl) v) : ∃ a xs, v = .ref a ∧ DN K.wd H a xs ∧ kl = xs.map (·.1) ∧ RpL K G dl (xs.map (·.2.2)) ∧ kl.length = dl.length ∧ (kl.zip dl).map (·.1) = xs.map (·.1) ∧ RpL K G ((kl.zip dl).map (·.2)) (xs.map (·.2.2)) ∧ RpL K G (kl.map keyD) (xs.map fun x => V.ref x.2.1) := by
  cases h with
  | @dct a _ _ _ xs h1 h2 h3 h4 h5 h6 h7 h8 =>
    have el : kl.length = dl.length := by rw [h5.len, h3, List.length_map, List.length_map]
    refine ⟨a, xs, rfl, ⟨.inr ⟨_, sb _ _ h1⟩, h2, by rw [← h3]; exact h4, fun x hx => ?_, by rw [h3, List.length_map] at h8; exact h8⟩, h3, h5, el, ?_, ?_, h6⟩
    · obtain ⟨i, hi, rfl⟩ := List.mem_iff_getElem.mp hx
      have e1 : (kl.map keyD)[i]? = some (keyD xs[i].1) := by rw [h3]; simp [hi]
      obtain ⟨v, ev, rv⟩ := h6.get e1
      have e2 : (xs.map fun x => V.ref x.2.1)[i]? = some (V.ref xs[i].2.1) := by simp [hi]
      rw [e2] at ev
      cases ev
      exact ⟨ky_of sb rv, h7 _ (by rw [h3]; exact List.mem_map_of_mem hx)⟩
    · rw [List.map_fst_zip (by omega), h3]
    · rw [List.map_snd_zip (by omega)]; exact h5
def rIxA (K : KF) : R2 := fun x y H Q => rIxL K x y H Q ∨ rIxT K x y H Q ∨ ∃ a xs k b v, x = .ref a ∧ y = .ref b ∧ DN K.wd H a xs ∧ KyH H k (.ref b) ∧ k.depth ≤ 8 ∧ atV xs k = some v ∧ Q v H
theorem c2_ix {K : KF} : C2 K (rIxA K) aIx := by
  intro G H m x y dx dy Q Qv r rx ry q w
  cases dy with
  | int i =>
    obtain ⟨ds, d, e1, e3, q⟩ := q
    cases ry
    obtain ⟨p, vs, e, hq, hr, z⟩ := seq_is r rx e1
    obtain ⟨v, ev, rv⟩ := at_V hr e3
    rcases hq with hq | hq
    · exact .inl ⟨p, vs, i, v, e, rfl, hq, ev, w.now r rv q⟩
    · exact .inr (.inl ⟨p, vs, i, v, e, rfl, hq, ev, w.now r rv q⟩)
  | tup ks =>
    by_cases hd : ∃ kl dl, dx = .dct kl dl
    · obtain ⟨kl, dl, rfl⟩ := hd
      obtain ⟨k, d, e3, h8, el, q⟩ := q
      obtain ⟨a, xs, ea, dn, _, _, _, ek, rv, _⟩ := dct_is r.sub rx
      obtain ⟨v, ev, rdv⟩ := look_is ek rv el
      rw [e3] at ry
      have hk := ky_of r.sub ry
      rw [← e3] at ry
      cases ry
      exact .inr (.inr ⟨a, xs, k, _, v, ea, rfl, dn, hk, h8, ev, w.now r rdv q⟩)
    replace q : ∃ p kvs k d, dx = .ref p ∧ m p = some (.dN kvs) ∧ D.tup ks = keyD k ∧ k.depth ≤ 8 ∧ lookN kvs k = some d ∧ Q d m := by
      cases dx with
      | dct kl dl => exact absurd ⟨kl, dl, rfl⟩ hd
      | _ => exact q
    obtain ⟨p, kvs, k, d, e1, e2, e3, h8, el, q⟩ := q
    subst e1
    cases rx
    obtain ⟨xs, dn, ek, rv, _, _⟩ := r.dn e2
    obtain ⟨v, ev, rdv⟩ := look_is ek rv el
    rw [e3] at ry
    have hk := ky_of r.sub ry
    rw [← e3] at ry
    cases ry
    exact .inr (.inr ⟨p, xs, k, _, v, rfl, rfl, dn, hk, h8, ev, w.now r rdv q⟩)
  | _ => exact q.elim
section
variable {X : Cx} {a b o i e : Expr} {ta tb to ti te : DT} {pos spos : Pos}
theorem pd_ix (hu : X.A.units + 65 < cLine) (ha : PD X a ta) (hb : PD X b tb) (hs : PlainIx b := by exact fun _ _ => rfl) : PD X (.Subscript a b pos) (dOp aIx ta tb) :=
  peM (pe_ix (ix_list.or (ix_tup.or (ix_dN hu))) ha hb hs) fun _ _ _ h => lfOp c2_ix h
/-- o[i] = e -/
def xPut (te to ti : DT) : DS := fun De r m => te r m fun d m1 => to r m1 fun o m2 => ti r m2 fun k m3 => ∃ p, o = .ref p ∧ match k with
  | .int i => ∃ ds j, m3 p = some (.lst ds) ∧ ixN ds.length i = some j ∧ De.nx r (up m3 p (.lst (ds.set j d)))
  | .tup ks => ∃ kvs k, m3 p = some (.dN kvs) ∧ D.tup ks = keyD k ∧ k.depth ≤ 8 ∧ kvs.length < sizeLine ∧ De.nx r (up m3 p (.dN (putN kvs k d)))
  | _ => False
theorem PSet.or {t t' : TSet} (h : PSet X t) (h' : PSet X t') : PSet X (fun o i v H Q => t o i v H Q ∨ t' o i v H Q) := by
  intro pins s σ H o i v ov iv u Q I ro ri rv q
  rcases q with q | q
  · exact h pins s σ H o i v ov iv u Q I ro ri rv q
  · exact h' pins s σ H o i v ov iv u Q I ro ri rv q
theorem pds_put (hu : X.A.units + 65 < cLine) (he : PD X e te) (ho : PD X o to) (hi : PD X i ti)
    (ha : ∀ v, assign (.Subscript o i spos) X.env v = (do
      let ov ← holding [v] (eval o X.env)
      let iv ← holding [v, ov] (eval i X.env)
      standAt spos
      holding [v, ov, iv] (setItem ov iv v)
      release [v, ov, iv] []) := by intro _; rfl)
    (hs : swapsWithSole [.Subscript o i spos] e pos.line X.env = pure false := by rfl) (hw : swappedStores [.Subscript o i spos] e X.env = pure none := by rfl)
    (h1 : (assignEach [.Subscript o i spos] X.env).map (·.2) = [assign (.Subscript o i spos) X.env] := by rfl) : PDS X (.Assign [.Subscript o i spos] e pos) (xPut te to ti) := by
  refine psM (ps_asg he (pg_sub ho hi (PSet.or set_list (set_dN hu)) ha) hs hw h1) fun E s H ⟨G, r, m, De, hs, hr, q, w⟩ => ?_
  refine ⟨G, r, m, _, hs, hr, q, fun v H1 G1 m1 d s1 r1 rv q1 => ?_⟩
  refine ⟨G1, r, m1, _, hs.same s1.g, r1, q1, fun vo H2 G2 m2 d2 s2 r2 ro q2 => ?_⟩
  refine ⟨G2, r, m2, _, (hs.same s1.g).same s2.g, r2, q2, fun vi H3 G3 m3 d3 s3 r3 ri ⟨p, e1, q3⟩ => ?_⟩
  subst e1
  cases ro
  have rv3 := (rv.same s2.g).same s3.g
  have st3 := (s1.trans s2).trans s3
  have hs3 := ((hs.same s1.g).same s2.g).same s3.g
  cases d3 with
  | int k =>
    obtain ⟨ds, j, e3, e4, q3⟩ := q3
    cases ri
    obtain ⟨_, x, hx, us, ex, ru, z⟩ := r3.mu p _ e3
    subst ex
    obtain ⟨r4, s4⟩ := r3.put e3 (o := .lst (us.set j v)) (u := .lst (ds.set j d)) ⟨_, rfl, ru.set rv3 j, by rw [List.length_set]; exact z⟩
    exact .inl ⟨p, us, k, j, rfl, rfl, hx, by rw [← ru.len]; exact e4, w.nx _ _ _ _ _ (st3.trans s4) (hs3.same s4.g) r4 q3⟩
  | tup ks =>
    obtain ⟨kvs, k, e3, e4, h8, hz, q3⟩ := q3
    obtain ⟨xs, dn, ek, rvs, ky, z, hat⟩ := r3.dn e3
    have rk := ri
    rw [e4] at rk
    have hk := ky_of r3.sub rk
    cases ri with
    | tup t1 t2 t3 =>
      rename_i ad us
      have hl : kvs.length = xs.length := by have := congrArg List.length ek; simpa using this
      obtain ⟨p1, p2⟩ := put_is (b := ad) (k := k) rv3 ek rvs
      have hky : ∀ y ∈ putV xs k ad v, Rp X.kf G3 (keyD y.1) (.ref y.2.1) ∧ y.1.depth ≤ 8 := fun y hy => by
        rcases putV_mem hy with ⟨x, hx, e1, e2⟩ | ⟨e1, e2⟩
        · rw [← e1, ← e2]; exact ky x hx
        · rw [e1, e2]; exact ⟨rk, h8⟩
      obtain ⟨r4, s4⟩ := r3.put e3 (o := .ext (dictAt X.w p (putV xs k ad v))) (u := .dN (putN kvs k d)) ⟨putV xs k ad v, rfl, dn.ns, putV_nodup dn.nd, p1, p2, hky, by have := putN_len kvs k d; omega⟩
      exact .inr ⟨p, xs, k, ad, rfl, rfl, dn, hat, hk, h8, by rw [← hl]; exact hz, w.nx _ _ _ _ _ (st3.trans s4) (hs3.same s4.g) r4 q3⟩
  | _ => exact q3.elim
/-- {} to be filled -/
def dNewD : DT := fun _ m Q => ∀ p, m p = none → Q (.ref p) (up m p (.dN []))
theorem pd_newD : PD X (.Dict [] [] pos) dNewD := by
  refine peM pe_dnewN fun s H Q ⟨G, r, m, Qd, hs, hr, q, w⟩ p hp hb => ?_
  obtain ⟨r2, s2⟩ := hr.newM hp (o := .ext (dictAt X.w p [])) (u := .dN []) ⟨[], rfl, hb, List.nodup_nil, rfl, .nil, (fun _ h => nomatch h), Nat.zero_le _⟩
  exact w _ _ _ _ _ s2 r2 (.ref p) (q p (hr.free hp).2)
/-- {} that stays empty -/
def dNewE : DT := fun _ m Q => ∀ p, m p = none → Q (.ref p) (up m p .dE)
theorem pd_newE : PD X (.Dict [] [] pos) dNewE := by
  refine peM pe_dnewT fun s H Q ⟨G, r, m, Qd, hs, hr, q, w⟩ p hp => ?_
  obtain ⟨r2, s2⟩ := hr.newM hp (o := .dT []) (u := .dE) rfl
  exact w _ _ _ _ _ s2 r2 (.ref p) (q p (hr.free hp).2)
end
end Mn

set_option Elab.async false
set_option linter.all false
set_option maxRecDepth 100000
set_option maxHeartbeats 4000000
set_option autoImplicit false
namespace Mn
open PySem PySem.Spec PyProof.Rows L2
variable [Tbs]

/-! t * 1 is t itself -/
theorem tuple_mulW1 (l : Addr) (items : Array Value) (n : Nat) (dd : Option Addr) (sl : Array (Option Value)) (u : Tok) :
    Meets (Builtin.«tuple.__mul__» ⟨[.ref l, .int 1 u], []⟩) (fun _ R s => s.heap.get? l = some { cls := .type "tuple", dict := dd, data := .seq items n, slots := sl } ∧ R (.ok (.ret (Value.ref l))) s) :=
  .of_wp fun prog w A R s h => by
    obtain ⟨hp, g, d, tk, os⟩ := s
    obtain ⟨hl, h⟩ := h
    have f1 := AutoSeq1.idx_int
    have c0 : (decide ((1 : Int) < -(2 ^ 63)) || decide ((1 : Int) ≥ 2 ^ 63)) = false := by decide
    have c1 : (items.isEmpty || (1 : Int) == 1) = true := by simp
    wp_walk using wpAny_loadPart' hl
    repeat (first
      | (refine wpAny_ite_false (decide_eq_false (by rw [c0]; exact Bool.false_ne_true)) ?_; wp_walk using wpAny_loadPart' hl)
      | (refine wpAny_ite_true (decide_eq_true c1) ?_; wp_walk using wpAny_loadPart' hl))
    exact ⟨_, rfl, h⟩
/-! products: whole numbers; tuples repeated -/
def rRep1 (K : KF) : R2 := fun x y H Q => ∃ l xs, x = .ref l ∧ y = .int 1 ∧ SqT K H l xs ∧ Q (.ref l) H
def rMulA (K : KF) : R2 := fun x y H Q => rI CMul (fun i j => .int (i * j)) x y H Q ∨ rRep1 K x y H Q ∨ rRepF K x y H Q
def aMulA : DR2 := fun x y m Q => match x, y with
  | .int i, .int j => CMul i j ∧ Q (.int (i * j)) m
  | .tup ds, .int k => ds ≠ [] ∧ ds.length ≤ 1000 ∧ 1 ≤ k ∧ k ≤ 1000 ∧ Q (.tup (List.replicate k.toNat ds).flatten) m
  | _, _ => False
section
variable {X : Cx} {K : KF}
theorem op_rep1 : OpR X (binaryOp .Mult) (rRep1 X.kf) := by
  intro pins s σ H x y v u Q I rx ry h
  obtain ⟨l, xs, rfl, rfl, hT, q⟩ := h
  cases rx
  obtain ⟨t, rfl⟩ := ry
  obtain ⟨its, r, ⟨⟨cls, dd, data, sl⟩, ho, hc, n, hd⟩, hs⟩ := I.tuple hT
  simp only at hc hd
  subst hc hd
  exact wpAny_binaryOp_repeat_ref (T := "tuple") (U := "int") (by decide) ⟨_, ho, rfl⟩ (fun s' => typeIs_int s' 1 t) noFill_tuple_mul F.fills_int_mul F.slot_int_rmul repeat_tuple F.slot_int_index.lookup
    (call_meets F.slot_int_rmul (typeIs_int s 1 t) F.entry_int_rmul (F.args_int_rmul_2 _ _) (int_rmul_tuple 1 t l its.toArray n dd sl)
      ⟨ho, rfl, ⟨_, ho, rfl⟩, call_meets F.slot_tuple_mul ⟨_, ho, rfl⟩ F.entry_tuple_mul (F.args_tuple_mul_2 _ _) (tuple_mulW1 l its.toArray n dd sl t) ⟨ho, .ref l, H, I, rfl, q⟩⟩)
theorem op_mulA : OpR X (binaryOp .Mult) (rMulA X.kf) := op_mul.or (op_rep1.or op_repF)
theorem rep_rp {G : Hp} {ds : List D} {vs : List V} (h : RpL K G ds vs) : ∀ k : Nat, RpL K G (List.replicate k ds).flatten (List.replicate k vs).flatten
  | 0 => .nil
  | k + 1 => by
    rw [List.replicate_succ, List.replicate_succ, List.flatten_cons, List.flatten_cons]
    exact h.app (rep_rp h k)
theorem c2_mulA : C2 K (rMulA K) aMulA := by
  intro G H m x y dx dy Q Qv r rx ry q w
  cases dx with
  | int i =>
    cases dy with
    | int j =>
      cases rx; cases ry
      exact .inl ⟨i, j, rfl, rfl, q.1, w.now r (.int _) q.2⟩
    | _ => exact q.elim
  | tup ds =>
    cases dy with
    | int k =>
      obtain ⟨hne, hl, k1, k2, q⟩ := q
      cases ry
      cases rx with
      | tup hq hv hz =>
        rename_i ad vs
        by_cases hk : k = 1
        · subst hk
          have e : (List.replicate (1 : Int).toNat ds).flatten = ds := by simp
          rw [e] at q
          exact .inr (.inl ⟨ad, vs, rfl, rfl, hq.sq r.sub _, w.now r (.tup hq hv hz) q⟩)
        · refine .inr (.inr ⟨ad, k, vs, rfl, rfl, hq.sq r.sub _, fun e => hne ((rp_len hv).mp e), by omega, k2, by rw [← hv.len]; exact hl, ?_⟩)
          refine Rl.newTup w r (rep_rp hv k.toNat) ?_ q
          rw [PyProof.Rows.lm_len_rep_flat, sizeLine_eq]
          have : k.toNat * ds.length ≤ 1000 * 1000 := Nat.mul_le_mul (by omega) hl
          omega
    | _ => exact q.elim
  | _ => exact q.elim
end
/-! the end of a body, told simply -/
theorem end_rt {m0 : Mu} {Q : DK} {d : D} (h : Q d m0) : (endD m0 Q).rt d m0 := ⟨m0, fun _ _ e => e, h⟩
theorem end_nx {m0 : Mu} {Q : DK} {r : Ro} (h : Q .non m0) : (endD m0 Q).nx r m0 := ⟨m0, fun _ _ e => e, h⟩
theorem end_rtL {m0 m1 m2 : Mu} {Q : DK} {d : D} (le : ∀ a o, m2 a = some o → m1 a = some o) (h : Q d m2) : (endD m0 Q).rt d m1 := ⟨m2, le, h⟩
/-! comparisons -/
theorem ok_int (i : Int) (m : Mu) : okD (.int i) m := ⟨rfl, rfl⟩
theorem aEq_int (i j : Int) (m : Mu) (Q : DK) : aEq (.int i) (.int j) m Q ↔ Q (.bl (decide (i = j))) m := by
  show (okD _ _ ∧ okD _ _ ∧ _) ↔ _
  have e : PyData.eqv (pyM (.int i) m) (pyM (.int j) m) = decide (i = j) := by
    simp only [pyM, py, PyData.eqv]
    exact Bool.beq_eq_decide_eq i j
  rw [e]
  exact ⟨fun h => h.2.2, fun h => ⟨ok_int i m, ok_int j m, h⟩⟩
theorem aNe_int (i j : Int) (m : Mu) (Q : DK) : aNe (.int i) (.int j) m Q ↔ Q (.bl (!decide (i = j))) m := by
  show (okD _ _ ∧ okD _ _ ∧ _) ↔ _
  have e : PyData.eqv (pyM (.int i) m) (pyM (.int j) m) = decide (i = j) := by
    simp only [pyM, py, PyData.eqv]
    exact Bool.beq_eq_decide_eq i j
  rw [e]
  exact ⟨fun h => h.2.2, fun h => ⟨ok_int i m, ok_int j m, h⟩⟩
/-- comprehensions whose parts change nothing -/
theorem lcGo_map {g : DG} {te : DT} {r : Ro} {m : Mu} (f : D → D) : ∀ (ds acc : List D) (Q : List D → Mu → Prop), (∀ d ∈ ds, ∀ K : DK, K (f d) m → g d r fun r1 => te r1 m K) → Q (acc ++ ds.map f) m → lcGo g dYes te r ds acc m Q
  | [], acc, Q, _, h => by
    rw [List.map_nil, List.append_nil] at h
    exact h
  | d :: ds, acc, Q, hf, h => by
    show g d r fun r1 => te r1 m fun y m2 => lcGo g dYes te r ds (acc ++ [y]) m2 Q
    refine hf d List.mem_cons_self _ ?_
    refine lcGo_map f ds (acc ++ [f d]) Q (fun e he => hf e (List.mem_cons_of_mem _ he)) ?_
    rw [List.append_assoc]
    exact h
/-- comprehensions by an invariant -/
theorem lcGo_inv {g : DG} {tt : DB} {te : DT} {r : Ro} {Q : List D → Mu → Prop} (I : Nat → List D → Mu → Prop) : ∀ (ds acc : List D) (m : Mu) (i : Nat), I i acc m →
    (∀ (j : Nat) (d : D) (acc : List D) (m : Mu) (P : List D → Mu → Prop), ds[j]? = some d → I (i + j) acc m → (∀ acc' m', I (i + j + 1) acc' m' → P acc' m') → g d r fun r1 => tt r1 m fun b m1 => if b = true then te r1 m1 fun y m2 => P (acc ++ [y]) m2 else P acc m1) →
    (∀ acc m, I (i + ds.length) acc m → Q acc m) → lcGo g tt te r ds acc m Q
  | [], acc, m, i, h0, _, hd => hd acc m h0
  | d :: ds, acc, m, i, h0, hs, hd =>
    hs 0 d acc m (fun acc m => lcGo g tt te r ds acc m Q) rfl h0 fun acc m h4 => lcGo_inv I ds acc m (i + 1) h4 (fun j d acc m P e h5 h6 => by
      have z : i + (j + 1) = i + 1 + j := by omega
      have q := hs (j + 1) d acc m P e
      rw [z] at q
      exact q h5 h6) fun acc m h5 => hd acc m (by rw [List.length_cons, show i + (ds.length + 1) = i + 1 + ds.length by omega]; exact h5)
/-- loops by an invariant -/
theorem forGo_inv {g : DG} {tb : DS} {De : DE} (I : Nat → Ro → Mu → Prop) : ∀ (ds : List D) (r : Ro) (m : Mu) (i : Nat), I i r m →
    (∀ (j : Nat) (d : D) (r : Ro) (m : Mu) (P : Ro → Mu → Prop), ds[j]? = some d → I (i + j) r m → (∀ r' m', I (i + j + 1) r' m' → P r' m') → g d r fun r1 => tb { De with nx := P, ct := P, bk := De.nx } r1 m) →
    (∀ r m, I (i + ds.length) r m → De.nx r m) → forGo g tb De ds r m
  | [], r, m, i, h0, _, hd => hd r m h0
  | d :: ds, r, m, i, h0, hs, hd =>
    hs 0 d r m (forGo g tb De ds) rfl h0 fun r m h4 => forGo_inv I ds r m (i + 1) h4 (fun j d r m P e h5 h6 => by
      have z : i + (j + 1) = i + 1 + j := by omega
      have q := hs (j + 1) d r m P e
      rw [z] at q
      exact q h5 h6) fun r m h5 => hd r m (by rw [List.length_cons, show i + (ds.length + 1) = i + 1 + ds.length by omega]; exact h5)
/-! readings at known data -/
section
variable {m : Mu} {Q : DK} {ds es : List D} {i j : Int} {x : Str} {b : Bool}
theorem aLen_tup : aLen [.tup ds] m Q ↔ Q (.int ds.length) m := by simp [aLen, seqOf]
theorem aLen_lst : aLen [.lst ds] m Q ↔ Q (.int ds.length) m := by simp [aLen, seqOf]
theorem aLen_pair : aLen [.pair ds] m Q ↔ Q (.int ds.length) m := by simp [aLen, seqOf]
theorem aLen_scr : aLen [.scr ds] m Q ↔ Q (.int ds.length) m := by simp [aLen, seqOf]
theorem aAdd_int : aAdd (.int i) (.int j) m Q ↔ Q (.int (i + j)) m := Iff.rfl
theorem aAdd_tup : aAdd (.tup ds) (.tup es) m Q ↔ (ds.length + es.length ≤ sizeLine ∧ Q (.tup (ds ++ es)) m) := Iff.rfl
theorem aAdd_lst : aAdd (.lst ds) (.lst es) m Q ↔ (ds.length + es.length ≤ sizeLine ∧ Q (.lst (ds ++ es)) m) := by simp [aAdd, lst1]
theorem aSub_int : aSub (.int i) (.int j) m Q ↔ Q (.int (i - j)) m := Iff.rfl
theorem aMul_int : aMulA (.int i) (.int j) m Q ↔ (CMul i j ∧ Q (.int (i * j)) m) := Iff.rfl
theorem aDiv_int : aDiv (.int i) (.int j) m Q ↔ (CDiv i j ∧ Q (.int (i / j)) m) := Iff.rfl
theorem aMod_int : aMod (.int i) (.int j) m Q ↔ (0 < j ∧ Q (.int (i % j)) m) := Iff.rfl
theorem aPow_int : aPow (.int i) (.int j) m Q ↔ (CPow i j ∧ Q (.int (i ^ j.toNat)) m) := Iff.rfl
theorem aCmp_int {p : Int → Int → Bool} : aCmp p (.int i) (.int j) m Q ↔ Q (.bl (p i j)) m := Iff.rfl
theorem aMax_int : aMax [.int i, .int j] m Q ↔ Q (.int (max i j)) m := Iff.rfl
theorem aMin_int : aMin [.int i, .int j] m Q ↔ Q (.int (min i j)) m := Iff.rfl
theorem aTuple_lst : aTuple [.lst ds] m Q ↔ Q (.tup ds) m := by simp [aTuple, lstOf]
theorem aTuple_tup : aTuple [.tup ds] m Q ↔ Q (.tup ds) m := Iff.rfl
theorem aInt_bl : aInt [.bl b] m Q ↔ Q (.int (if b then 1 else 0)) m := Iff.rfl
theorem aInt_int : aInt [.int i] m Q ↔ Q (.int i) m := Iff.rfl
theorem aIx_tup : aIx (.tup ds) (.int i) m Q ↔ ∃ d, at_ ds i = some d ∧ Q d m := by simp [aIx, seqOf]
theorem aIx_lst : aIx (.lst ds) (.int i) m Q ↔ ∃ d, at_ ds i = some d ∧ Q d m := by simp [aIx, seqOf]
theorem aIx_pair : aIx (.pair ds) (.int i) m Q ↔ ∃ d, at_ ds i = some d ∧ Q d m := by simp [aIx, seqOf]
theorem aIx_scr : aIx (.scr ds) (.int i) m Q ↔ ∃ d, at_ ds i = some d ∧ Q d m := by simp [aIx, seqOf]
theorem aTuple_ref {a : Addr} (h : m a = some (.lst ds)) : aTuple [.ref a] m Q ↔ Q (.tup ds) m := by simp [aTuple, lstOf, h]
theorem seqI_tup : seqI (.tup ds) = some ds := rfl
theorem seqI_lst : seqI (.lst ds) = some ds := rfl
theorem seqOf_tup : seqOf (.tup ds) m = some ds := rfl
theorem seqOf_lst : seqOf (.lst ds) m = some ds := rfl
theorem tyN_tup : tyN (.tup ds) m = some "tuple" := rfl
theorem tyN_lst : tyN (.lst ds) m = some "list" := rfl
theorem tyN_int : tyN (.int i) m = some "int" := rfl
theorem tyN_bl : tyN (.bl b) m = some "bool" := rfl
theorem tyN_str : tyN (.str x) m = some "str" := rfl
theorem tyN_non : tyN .non m = some "NoneType" := rfl
theorem at_0 : at_ ds 0 = ds[0]? := rfl
theorem at_1 : at_ ds 1 = ds[1]? := rfl
theorem at_2 : at_ ds 2 = ds[2]? := rfl
theorem at_3 : at_ ds 3 = ds[3]? := rfl
theorem sSeq_tup {P : List D → Prop} : (∃ es, (D.tup ds = .lst es ∨ D.tup ds = .tup es) ∧ P es) ↔ P ds := by simp
theorem sSeq_lst {P : List D → Prop} : (∃ es, (D.lst ds = .lst es ∨ D.lst ds = .tup es) ∧ P es) ↔ P ds := by simp
theorem isi_tt : isiB "tuple" "tuple" = true := rfl
end
end Mn

set_option linter.all false
set_option maxHeartbeats 4000000
set_option autoImplicit false
namespace Mn
open PySem L2
variable [Tbs]
local macro_rules | `(tactic| walk_at "d") => `(tactic| (try simp only [xNext, xSeq, xAsg, xRet, xRetF, xDrop, xIf, xPar, xPut, xAug, xFor, dVar, dC, dOp, dTest, dChain, dAndV, dOrV, dNotV, dAnd, dOr, dNot, dIf, dNil, dCons, dTup, dLst, dLstM, dCB, dIsi, dLc, dLcM, dYes, wipeD, sSeq, sSeq_tup, sSeq_lst, sRg1, sRg2, sZip2, sZip3, sEnum, gV, gN, gC, gT, tupOf_tup, tupOf_pair, aAdd_int, aAdd_tup, aAdd_lst, aSub_int, aMul_int, aDiv_int, aMod_int, aPow_int, aCmp_int, aIx_tup, aIx_lst, aIx_scr, aIx_pair, aMax_int, aMin_int, aInt_bl, aInt_int, aLen_tup, aLen_lst, aLen_scr, aLen_pair, aTuple_lst, aTuple_tup, aEq_int, aNe_int, startD, List.map_cons, List.map_nil, List.length_cons, List.length_nil, List.cons_append, List.nil_append, List.replicate_zero, List.replicate_succ, List.append_nil, List.getElem?_cons_zero, List.getElem?_cons_succ, List.set_cons_zero, List.set_cons_succ, Option.some.injEq, exists_eq_left', exists_eq_left, exists_eq', D.int.injEq, D.bl.injEq, D.tup.injEq, D.lst.injEq, D.pair.injEq, D.ref.injEq, List.cons.injEq, Nat.sub_self, Nat.zero_add, Nat.add_sub_cancel, seqI_tup, seqI_lst, seqOf_tup, seqOf_lst, tyN_tup, tyN_lst, tyN_int, tyN_bl, tyN_str, tyN_non, isi_tt, at_0, at_1, at_2, at_3, Option.map_some, true_and, and_true, if_true, Bool.false_eq_true, if_false, Bool.not_true, Bool.not_false, ↓reduceIte, Nat.reduceAdd, Nat.reduceSub, exists_and_left, and_assoc]))
/-! kinds of data -/
mutual
def refs : D → List (Option Addr)
  | .tup ds => refsL ds
  | .lst ds => refsL ds
  | .scr ds => refsL ds
  | .ref a => [some a]
  | .pair _ => [none]
  | _ => []
def refsL : List D → List (Option Addr)
  | [] => []
  | d :: ds => refs d ++ refsL ds
end
def Kn (m : Mu) (d : D) : Prop := ∀ x ∈ refs d, ∃ a, x = some a ∧ (tyN (.ref a) m).isSome = true
theorem refsL_mem {d : D} {a : Option Addr} : ∀ {ds : List D}, d ∈ ds → a ∈ refs d → a ∈ refsL ds
  | e :: ds, h, q => by
    rw [refsL, List.mem_append]
    rcases List.mem_cons.mp h with rfl | h
    · exact .inl q
    · exact .inr (refsL_mem h q)
theorem Kn.tup {m : Mu} {ds : List D} (h : Kn m (.tup ds)) {d : D} (hd : d ∈ ds) : Kn m d := fun a ha => h a (by rw [refs]; exact refsL_mem hd ha)
theorem Kn.ty {m : Mu} {d : D} (h : Kn m d) : ∃ t, tyN d m = some t := by
  cases d with
  | ref a =>
    obtain ⟨b, e, q⟩ := h (some a) (by simp [refs])
    cases e
    exact Option.isSome_iff_exists.mp q
  | pair ds =>
    obtain ⟨b, e, q⟩ := h none (by simp [refs])
    cases e
  | _ => exact ⟨_, rfl⟩
theorem Kn.of {m : Mu} {d : D} (h : refs d = []) : Kn m d := fun a ha => by rw [h] at ha; cases ha
def isIntD (d : D) : Bool := match d with
  | .int _ => true
  | _ => false
def isTupD (d : D) : Bool := match d with
  | .tup _ => true
  | _ => false
def toI (d : D) : Int := match d with
  | .int i => i
  | _ => 0
theorem isi_tup {d : D} {m : Mu} {t : String} (h : tyN d m = some t) : isiB t "tuple" = isTupD d := by
  cases d with
  | ref a =>
    simp only [tyN] at h
    split at h <;> first | (cases h; rfl) | cases h
  | pair ds => cases h
  | _ => cases h; rfl
theorem isi_int {d : D} {m : Mu} {t : String} (h : tyN d m = some t) : (isiB t "int" && !isiB t "bool") = isIntD d := by
  cases d with
  | ref a =>
    simp only [tyN] at h
    split at h <;> first | (cases h; rfl) | cases h
  | pair ds => cases h
  | _ => cases h; rfl
def s_is_integer : DSp := fun ds m Q => ∃ d, ds = [d] ∧ Kn m d ∧ Q (.bl (isIntD d)) m
theorem l_is_integer : ∀ ds m Q, s_is_integer ds m Q → ds.length = 1 := by rintro ds m Q ⟨d, rfl, _⟩; rfl
def t_is_integer : DS := (xRet (dAndV (dIsi "int" (dVar 0)) (dNotV (dIsi "bool" (dVar 0)))))
theorem v_is_integer : Body 1 t_is_integer s_is_integer := by
  rintro ds m Q ⟨d, rfl, ht, q⟩
  obtain ⟨t, et⟩ := ht.ty
  rw [← isi_int et] at q
  have hq := end_rt (m0 := m) q
  unfold t_is_integer
  simp only [xRet, dAndV, dNotV, dIsi, dVar]
  refine ⟨d, rfl, t, et, _, rfl, ?_⟩
  cases e : isiB t "int" with
  | true => rw [e] at hq; exact ⟨d, rfl, t, et, _, rfl, hq⟩
  | false => rw [e] at hq; exact hq
def betw (d : D) (lo hi : Int) : Bool := match d with
  | .int i => decide (lo ≤ i) && decide (i ≤ hi)
  | _ => false
def s_is_between : DSp := fun ds m Q => ∃ d lo hi, ds = [d, .int lo, .int hi] ∧ Kn m d ∧ Q (.bl (betw d lo hi)) m
theorem l_is_between : ∀ ds m Q, s_is_between ds m Q → ds.length = 3 := by rintro ds m Q ⟨d, lo, hi, rfl, _⟩; rfl
def t_is_between : DS := (xRet (dAndV (dCB s_is_integer (dCons (dVar 0) dNil)) (dChain aLe aLe (dVar 1) (dVar 0) (dVar 2))))
theorem v_is_between : Body 3 t_is_between s_is_between := by
  rintro ds m Q ⟨d, lo, hi, rfl, ht, q⟩
  unfold t_is_between
  walk_at "d"
  have hq := end_rt (m0 := m) q
  refine ⟨d, rfl, ht, _, rfl, ?_⟩
  cases d with
  | int i =>
    simp only [isIntD, ↓reduceIte, aCmp, D.bl.injEq, exists_eq_left']
    simp only [betw] at hq
    by_cases h1 : lo ≤ i
    · simpa only [h1, decide_true, Bool.true_and, ↓reduceIte] using hq
    · simpa only [h1, decide_false, Bool.false_and, Bool.false_eq_true, ↓reduceIte] using hq
  | _ => exact hq
/-! steps -/
theorem aAll_map {ds : List D} {p : D → Bool} {m : Mu} {Q : DK} (h : Q (.bl (ds.all p)) m) : aAll [.lst (ds.map fun d => .bl (p d))] m Q := by
  refine ⟨_, ds.map p, rfl, ?_, ?_⟩
  · simp only [lstOf, List.map_map]; rfl
  · rw [List.all_map]; exact h
def maxI : List Int → Int
  | [] => 0
  | n :: r => r.foldl max n
theorem nodup_erase (l : List Int) : l.eraseDups.Nodup := by
  generalize hn : l.length = n
  induction n using Nat.strongRecOn generalizing l with
  | _ n ih =>
    cases l with
    | nil => simp
    | cons a l =>
      rw [List.eraseDups_cons, List.nodup_cons]
      refine ⟨fun h => ?_, ih _ ?_ _ rfl⟩
      · rw [List.mem_eraseDups, List.mem_filter] at h
        simp at h
      · rw [← hn, List.length_cons]
        exact Nat.lt_succ_of_le (List.length_filter_le _ _)
def card (ns : List Int) : Int := ns.eraseDups.length
theorem card_of {out ns : List Int} (h : out.Nodup) (e : ∀ k, k ∈ out ↔ k ∈ ns) : (out.length : Int) = card ns := by
  unfold card
  have h2 : ns.eraseDups.Nodup := nodup_erase ns
  have : out.Perm ns.eraseDups := (List.perm_ext_iff_of_nodup h h2).mpr fun k => by rw [e k, List.mem_eraseDups]
  rw [this.length_eq]
def gbehind (st : D) (g : Int) : Int := match st with
  | .tup ds => if (ds.length : Int) = g ∧ ds.all (fun d => betw d 0 (g - 2)) = true then (if maxI (ds.map toI) = card (ds.map toI) - 1 then card (ds.map toI) else 0) else 0
  | _ => 0
def s_groups_behind : DSp := fun ds m Q => ∃ st g, ds = [st, .int g] ∧ 1 ≤ g ∧ g ≤ 1000 ∧ Kn m st ∧ Q (.int (gbehind st g)) m
theorem l_groups_behind : ∀ ds m Q, s_groups_behind ds m Q → ds.length = 2 := by rintro ds m Q ⟨d, lo, rfl, _⟩; rfl
def t_groups_behind : DS := (xSeq (xIf (dOr (dNot (dTest (dIsi "tuple" (dVar 0)))) (dTest (dOp aNe (dCB aLen (dCons (dVar 0) dNil)) (dVar 1)))) (xRet (dC (.int 0))) xNext)
  (xSeq (xIf (dNot (dTest (dCB aAll (dCons (dLc (sSeq (dVar 0)) [3] (gV 3) dYes (dCB s_is_between (dCons (dVar 3) (dCons (dC (.int 0)) (dCons (dOp aSub (dVar 1) (dC (.int 2))) dNil))))) dNil)))) (xRet (dC (.int 0))) xNext)
  (xSeq (xAsg (dLenSet (dVar 0)) (gV 2))
  (xRet (dIf (dTest (dOp aEq (dCB aMax (dCons (dVar 0) dNil)) (dOp aSub (dVar 2) (dC (.int 1))))) (dVar 2) (dC (.int 0)))))))
theorem ints_of_betw {lo hi : Int} : ∀ {ds : List D}, ds.all (fun d => betw d lo hi) = true → ds = (ds.map toI).map D.int
  | [], _ => rfl
  | d :: ds, h => by
    rw [List.all_cons, Bool.and_eq_true] at h
    rw [List.map_cons, List.map_cons, ← ints_of_betw h.2]
    cases d with
    | int i => rfl
    | _ => exact absurd h.1 (by simp [betw])
theorem v_groups_behind : Body 4 t_groups_behind s_groups_behind := by
  rintro ds m Q ⟨st, g, rfl, g1, g2, ht, q⟩
  have hq := end_rt (m0 := m) q
  obtain ⟨t, et⟩ := ht.ty
  unfold t_groups_behind
  cases st with
  | tup es =>
    walk_at "d"
    by_cases hl : (es.length : Int) = g
    · simp only [hl, decide_true, Bool.not_true, Bool.false_eq_true, ↓reduceIte]
      refine ⟨es, .inr rfl, by rw [sizeLine_eq]; omega, ?_⟩
      refine lcGo_map (fun d => .bl (betw d 0 (g - 2))) es [] _ (fun d hd K hK => ?_) ?_
      · walk_at "d"
        exact ⟨d, 0, g - 2, rfl, ht.tup hd, hK⟩
      · rw [List.nil_append]
        refine aAll_map ⟨_, rfl, ?_⟩
        cases hb : es.all fun d => betw d 0 (g - 2) with
        | false =>
          simp only [gbehind, hb, Bool.false_eq_true, and_false, ↓reduceIte] at hq
          simpa only [Bool.not_false, ↓reduceIte] using hq
        | true =>
          have ei := ints_of_betw hb
          simp only [Bool.not_true, Bool.false_eq_true, ↓reduceIte, dLenSet]
          simp only [gbehind, hl, hb, and_self, ↓reduceIte] at hq
          generalize es.map toI = ns at ei hq
          subst ei
          rw [List.length_map] at hl
          refine ⟨_, rfl, ns, rfl, by omega, fun out nd mem => ?_⟩
          walk_at "d"
          cases ns with
          | nil => rw [List.length_nil] at hl; omega
          | cons n r =>
            refine ⟨n, r, rfl, ?_⟩
            walk_at "d"
            rw [card_of nd mem]
            simp only [maxI] at hq
            by_cases hm : r.foldl max n = card (n :: r) - 1
            · simpa only [hm, decide_true, ↓reduceIte] using hq
            · simpa only [hm, decide_false, Bool.false_eq_true, ↓reduceIte] using hq
    · simp only [hl, decide_false, Bool.not_false, ↓reduceIte]
      simpa only [gbehind, hl, false_and, ↓reduceIte] using hq
  | _ =>
    have e2 := isi_tup et
    simp only [xSeq, xIf, dOr, dNot, dTest, dIsi, dVar]
    refine ⟨_, rfl, t, et, _, rfl, ?_⟩
    rw [e2]
    exact hq

/-! attributes -/
def stepsOk : Int → List D → Bool
  | _, [] => true
  | g, st :: r => decide (gbehind st g ≠ 0) && stepsOk (gbehind st g) r
def isAttr (d : D) : Bool := match d with
  | .tup [.int n, .tup steps] => decide (1 ≤ n) && decide (n ≤ 6) && decide (steps.length ≤ 3) && stepsOk n steps
  | _ => false
theorem foldl_max_le {b : Int} : ∀ (l : List Int) (n : Int), n ≤ b → (∀ x ∈ l, x ≤ b) → l.foldl max n ≤ b
  | [], n, h, _ => h
  | x :: l, n, h, hl => foldl_max_le l (max n x) (by have := hl x List.mem_cons_self; omega) fun y hy => hl y (List.mem_cons_of_mem _ hy)
theorem card_nn (ns : List Int) : 0 ≤ card ns := Int.natCast_nonneg _
theorem gbehind_lt {st : D} {g : Int} (h1 : 1 ≤ g) : 0 ≤ gbehind st g ∧ gbehind st g < g := by
  unfold gbehind
  cases st with
  | tup ds =>
    simp only
    by_cases h : (ds.length : Int) = g ∧ (ds.all fun d => betw d 0 (g - 2)) = true
    · rw [if_pos h]
      have ei := ints_of_betw h.2
      by_cases hm : maxI (ds.map toI) = card (ds.map toI) - 1
      · rw [if_pos hm]
        refine ⟨card_nn _, ?_⟩
        cases hn : ds.map toI with
        | nil => rw [hn] at ei; rw [ei] at h; simp at h; omega
        | cons n r =>
          rw [hn] at hm ei
          have al := h.2
          rw [ei] at al
          have le : r.foldl max n ≤ g - 2 := by
            refine foldl_max_le r n ?_ fun x hx => ?_
            · have := (List.all_eq_true.mp al) (.int n) (by simp)
              simp only [betw, Bool.and_eq_true, decide_eq_true_eq] at this
              exact this.2
            · have := (List.all_eq_true.mp al) (.int x) (by simp; exact .inr hx)
              simp only [betw, Bool.and_eq_true, decide_eq_true_eq] at this
              exact this.2
          simp only [maxI] at hm
          omega
      · rw [if_neg hm]; omega
    · rw [if_neg h]; omega
  | _ => simp only; omega
def s_is_attribute : DSp := fun ds m Q => ∃ d, ds = [d] ∧ Kn m d ∧ Q (.bl (isAttr d)) m
theorem l_is_attribute : ∀ ds m Q, s_is_attribute ds m Q → ds.length = 1 := by rintro ds m Q ⟨d, rfl, _⟩; rfl
def t_is_attribute : DS := (xSeq (xIf (dOr (dNot (dTest (dIsi "tuple" (dVar 0)))) (dOr (dTest (dOp aNe (dCB aLen (dCons (dVar 0) dNil)) (dC (.int 2)))) (dNot (dTest (dCB s_is_between (dCons (dOp aIx (dVar 0) (dC (.int 0))) (dCons (dC (.int 1)) (dCons (dC (.int 6)) dNil)))))))) (xRet (dC (.bl false))) xNext)
  (xSeq (xAsg (dVar 0) (gT 2 (gC (gV 2) (gC (gV 3) gN))))
  (xSeq (xIf (dOr (dNot (dTest (dIsi "tuple" (dVar 3)))) (dTest (dOp aGt (dCB aLen (dCons (dVar 3) dNil)) (dC (.int 3))))) (xRet (dC (.bl false))) xNext)
  (xSeq (xFor (sSeq (dVar 3)) (gV 1) (xSeq (xAsg (dCB s_groups_behind (dCons (dVar 1) (dCons (dVar 2) dNil))) (gV 2))
  (xIf (dTest (dOp aEq (dVar 2) (dC (.int 0)))) (xRet (dC (.bl false))) xNext)))
  (xRet (dC (.bl true)))))))
theorem v_is_attribute : Body 4 t_is_attribute s_is_attribute := by
  rintro ds m Q ⟨d, rfl, ht, q⟩
  have hq := end_rt (m0 := m) q
  obtain ⟨t, et⟩ := ht.ty
  unfold t_is_attribute
  cases d with
  | tup es =>
    walk_at "d"
    by_cases hl : es.length = 2
    · match es, hl with
      | [n, st], _ =>
        walk_at "d"
        rw [if_neg (by decide)]
        refine ⟨n, 1, 6, rfl, ht.tup (by simp), ?_⟩
        cases n with
        | int k =>
          cases hb : betw (.int k) 1 6 with
          | false =>
            have e : isAttr (.tup [.int k, st]) = false := by
              simp only [betw] at hb
              cases st with
              | tup ss => simp only [isAttr, hb, Bool.false_and]
              | _ => rfl
            rw [e] at hq
            exact ⟨false, rfl, hq⟩
          | true =>
            refine ⟨true, rfl, ?_⟩
            simp only [betw, Bool.and_eq_true, decide_eq_true_eq] at hb
            walk_at "d"
            obtain ⟨t2, et2⟩ := (ht.tup (d := st) (by simp)).ty
            refine ⟨t2, et2, ?_⟩
            rw [isi_tup et2]
            cases st with
            | tup ss =>
              simp only [isTupD]
              walk_at "d"
              by_cases h3 : ss.length ≤ 3
              · have n3 : ¬ (3 < (ss.length : Int)) := by omega
                simp only [n3, decide_false, Bool.false_eq_true, ↓reduceIte]
                have e : isAttr (.tup [.int k, .tup ss]) = stepsOk k ss := by simp [isAttr, hb.1, hb.2, h3]
                rw [e] at hq
                have hk : ∀ d ∈ ss, Kn m d := fun d hd => (ht.tup (d := .tup ss) (by simp)).tup hd
                refine ⟨ss, .inr rfl, ?_⟩
                clear e et et2 h3 n3 q ht
                have h1 := hb.1
                have h2 : k ≤ 1000 := by omega
                clear hb
                revert hq hk h1 h2
                generalize D.tup [.int k, .tup ss] = dd
                generalize (none : Option D) = o1
                generalize hall : D.tup ss = al
                clear hall
                induction ss generalizing k o1 with
                | nil => intro hq _ _ _; exact hq
                | cons s0 ss ih =>
                  intro hq hk h1 h2
                  simp only [forGo]
                  walk_at "d"
                  refine ⟨s0, k, rfl, h1, h2, hk s0 (by simp), ?_⟩
                  have hg := gbehind_lt (st := s0) h1
                  walk_at "d"
                  rw [stepsOk] at hq
                  by_cases hz : gbehind s0 k = 0
                  · simp only [hz, decide_true, ↓reduceIte]
                    simpa only [hz, ne_eq, not_true_eq_false, decide_false, Bool.false_and] using hq
                  · simp only [hz, decide_false, Bool.false_eq_true, ↓reduceIte]
                    simp only [ne_eq, hz, not_false_eq_true, decide_true, Bool.true_and] at hq
                    exact ih (gbehind s0 k) rfl (some s0) hq (fun d hd => hk d (by simp [hd])) (by omega) (by omega)
              · have n3 : 3 < (ss.length : Int) := by omega
                simp only [n3, decide_true, ↓reduceIte]
                have e : isAttr (.tup [.int k, .tup ss]) = false := by simp [isAttr, h3]
                rw [e] at hq
                exact hq
            | _ => exact hq
        | _ => exact ⟨false, rfl, hq⟩
    · have n2 : ¬ ((es.length : Int) = 2) := by omega
      simp only [n2, decide_false, Bool.not_false, ↓reduceIte]
      have e : isAttr (.tup es) = false := by
        match es, hl with
        | [], _ => rfl
        | [a], _ => cases a <;> rfl
        | a :: b :: c :: r, _ => cases a <;> cases b <;> rfl
      rw [e] at hq
      exact hq
  | _ =>
    have e2 := isi_tup et
    simp only [xSeq, xIf, dOr, dNot, dTest, dIsi, dVar]
    refine ⟨_, rfl, t, et, _, rfl, ?_⟩
    rw [e2]
    exact hq
/-! schemes -/
def prodI (ns : List Int) : Int := ns.foldl (fun a n => a * n) 1
def s_product_of : DSp := fun ds m Q => ∃ ns : List Int, ds = [.lst (ns.map D.int)] ∧ (∀ n ∈ ns, 0 ≤ n ∧ n ≤ 1000) ∧ ns.length ≤ 4 ∧ Q (.int (prodI ns)) m
theorem l_product_of : ∀ ds m Q, s_product_of ds m Q → ds.length = 1 := by rintro ds m Q ⟨d, rfl, _⟩; rfl
def t_product_of : DS := (xSeq (xAsg (dC (.int 1)) (gV 1))
  (xSeq (xFor (sSeq (dVar 0)) (gV 2) (xAsg (dOp aMulA (dVar 1) (dVar 2)) (gV 1)))
  (xRet (dVar 1))))
theorem v_product_of : Body 3 t_product_of s_product_of := by
  rintro ds m Q ⟨ns, rfl, hn, hl, q⟩
  have hq := end_rt (m0 := m) q
  unfold t_product_of
  walk_at "d"
  refine ⟨_, .inl rfl, ?_⟩
  unfold prodI at hq
  generalize (none : Option D) = o2
  generalize (1 : Int) = a at hq ⊢
  generalize D.lst (ns.map D.int) = al
  clear q hl
  induction ns generalizing a o2 with
  | nil =>
    simp only [List.map_nil, forGo]
    walk_at "d"
    exact hq
  | cons n ns ih =>
    simp only [List.map_cons, forGo]
    walk_at "d"
    have h := hn n (by simp)
    refine ⟨.inr ⟨by omega, by omega⟩, ih (fun x hx => hn x (by simp [hx])) (some (D.int n)) (a * n) hq⟩
def firstI (d : D) : Int := match d with
  | .tup (.int n :: _) => n
  | _ => 0
def isSch (d : D) : Bool := match d with
  | .tup as => decide (1 ≤ as.length) && decide (as.length ≤ 3) && as.all isAttr && decide (prodI (as.map firstI) ≤ 60)
  | _ => false
theorem isAttr_is {d : D} (h : isAttr d = true) : ∃ n ss, d = .tup [.int n, .tup ss] ∧ 1 ≤ n ∧ n ≤ 6 ∧ ss.length ≤ 3 := by
  unfold isAttr at h
  split at h
  · simp only [Bool.and_eq_true, decide_eq_true_eq] at h
    exact ⟨_, _, rfl, h.1.1.1, h.1.1.2, h.1.2⟩
  · cases h
def s_is_scheme : DSp := fun ds m Q => ∃ d, ds = [d] ∧ Kn m d ∧ Q (.bl (isSch d)) m
theorem l_is_scheme : ∀ ds m Q, s_is_scheme ds m Q → ds.length = 1 := by rintro ds m Q ⟨d, rfl, _⟩; rfl
def t_is_scheme : DS := (xSeq (xIf (dOr (dNot (dTest (dIsi "tuple" (dVar 0)))) (dNot (dTest (dChain aLe aLe (dC (.int 1)) (dCB aLen (dCons (dVar 0) dNil)) (dC (.int 3)))))) (xRet (dC (.bl false))) xNext)
  (xSeq (xIf (dNot (dTest (dCB aAll (dCons (dLc (sSeq (dVar 0)) [1] (gV 1) dYes (dCB s_is_attribute (dCons (dVar 1) dNil))) dNil)))) (xRet (dC (.bl false))) xNext)
  (xRet (dOp aLe (dCB s_product_of (dCons (dLc (sSeq (dVar 0)) [1] (gV 1) dYes (dOp aIx (dVar 1) (dC (.int 0)))) dNil)) (dC (.int 60))))))
theorem v_is_scheme : Body 2 t_is_scheme s_is_scheme := by
  rintro ds m Q ⟨d, rfl, ht, q⟩
  have hq := end_rt (m0 := m) q
  obtain ⟨t, et⟩ := ht.ty
  unfold t_is_scheme
  cases d with
  | tup as =>
    walk_at "d"
    by_cases h1 : 1 ≤ as.length
    · by_cases h2 : as.length ≤ 3
      · have e1 : (1 : Int) ≤ as.length := by omega
        have e2 : (as.length : Int) ≤ 3 := by omega
        simp only [e1, e2, decide_true, Bool.not_true, Bool.false_eq_true, ↓reduceIte]
        have hz : as.length ≤ sizeLine := by rw [sizeLine_eq]; omega
        refine ⟨as, .inr rfl, hz, lcGo_map (fun d => .bl (isAttr d)) as [] _ (fun d hd K hK => ?_) ?_⟩
        · walk_at "d"
          exact ⟨d, rfl, ht.tup hd, hK⟩
        rw [List.nil_append]
        refine aAll_map ⟨_, rfl, ?_⟩
        simp only [isSch, h1, h2, decide_true, Bool.true_and] at hq
        cases ha : as.all isAttr with
        | false =>
          simp only [ha, Bool.false_and] at hq
          simpa only [Bool.not_false, ↓reduceIte] using hq
        | true =>
          simp only [ha, Bool.true_and] at hq
          simp only [Bool.not_true, Bool.false_eq_true, ↓reduceIte]
          have hat : ∀ d ∈ as, ∃ n ss, d = .tup [.int n, .tup ss] ∧ 1 ≤ n ∧ n ≤ 6 ∧ ss.length ≤ 3 := fun d hd => isAttr_is (List.all_eq_true.mp ha d hd)
          refine ⟨as, .inr rfl, hz, lcGo_map (fun d => .int (firstI d)) as [] _ (fun d hd K hK => ?_) ?_⟩
          · obtain ⟨n, ss, rfl, _⟩ := hat d hd
            walk_at "d"
            exact hK
          rw [List.nil_append]
          refine ⟨as.map firstI, by rw [List.map_map]; rfl, fun n hn => ?_, by rw [List.length_map]; omega, ?_⟩
          · obtain ⟨d, hd, rfl⟩ := List.mem_map.mp hn
            obtain ⟨n, ss, rfl, b1, b2, _⟩ := hat d hd
            simp only [firstI]
            omega
          · walk_at "d"
            exact hq
      · have e1 : (1 : Int) ≤ as.length := by omega
        have e2 : ¬ (as.length : Int) ≤ 3 := by omega
        simp only [e1, e2, decide_true, decide_false, ↓reduceIte]
        walk_at "d"
        simpa only [isSch, h2, decide_false, Bool.and_false, Bool.false_and] using hq
    · have e1 : ¬ (1 : Int) ≤ as.length := by omega
      simp only [e1, decide_false]
      walk_at "d"
      simpa only [isSch, h1, decide_false, Bool.false_and] using hq
  | _ =>
    have e2 := isi_tup et
    simp only [xSeq, xIf, dOr, dNot, dTest, dIsi, dVar]
    refine ⟨_, rfl, t, et, _, rfl, ?_⟩
    rw [e2]
    exact hq
end Mn

set_option linter.all false
set_option maxHeartbeats 4000000
set_option autoImplicit false
set_option maxRecDepth 100000
namespace Mn
open PySem L2
variable [Tbs]
local macro_rules | `(tactic| walk_at "d") => `(tactic| (try simp only [xNext, xSeq, xAsg, xRet, xRetF, xDrop, xIf, xPar, xPut, xAug, xFor, dVar, dC, dOp, dTest, dChain, dAndV, dOrV, dNotV, dAnd, dOr, dNot, dIf, dNil, dCons, dTup, dLst, dLstM, dCB, dIsi, dLc, dLcM, dYes, wipeD, sSeq, sSeq_tup, sSeq_lst, sRg1, sRg2, sZip2, sZip3, sEnum, gV, gN, gC, gT, tupOf_tup, tupOf_pair, aAdd_int, aAdd_tup, aAdd_lst, aSub_int, aMul_int, aDiv_int, aMod_int, aPow_int, aCmp_int, aIx_tup, aIx_lst, aIx_scr, aIx_pair, aMax_int, aMin_int, aInt_bl, aInt_int, aLen_tup, aLen_lst, aLen_scr, aLen_pair, aTuple_lst, aTuple_tup, aEq_int, aNe_int, startD, List.map_cons, List.map_nil, List.length_cons, List.length_nil, List.cons_append, List.nil_append, List.replicate_zero, List.replicate_succ, List.append_nil, List.getElem?_cons_zero, List.getElem?_cons_succ, List.set_cons_zero, List.set_cons_succ, Option.some.injEq, exists_eq_left', exists_eq_left, exists_eq', D.int.injEq, D.bl.injEq, D.tup.injEq, D.lst.injEq, D.pair.injEq, D.ref.injEq, List.cons.injEq, Nat.sub_self, Nat.zero_add, Nat.add_sub_cancel, seqI_tup, seqI_lst, seqOf_tup, seqOf_lst, tyN_tup, tyN_lst, tyN_int, tyN_bl, tyN_str, tyN_non, isi_tt, at_0, at_1, at_2, at_3, Option.map_some, true_and, and_true, if_true, Bool.false_eq_true, if_false, Bool.not_true, Bool.not_false, ↓reduceIte, Nat.reduceAdd, Nat.reduceSub, exists_and_left, and_assoc]))

/-! schemes, in plain data -/
structure At where
  n : Nat
  ss : List (List Nat)
abbrev Sch := List At
def nD (k : Nat) : D := .int (k : Int)
def tD (l : List Nat) : D := .tup (l.map nD)
def At.enc (a : At) : D := .tup [nD a.n, .tup (a.ss.map tD)]
def encS (s : Sch) : D := .tup (s.map At.enc)
def Stp1 (g : Nat) (s : List Nat) (g' : Nat) : Prop := s.length = g ∧ g' < g ∧ (∀ x ∈ s, x < g') ∧ ∀ y, y < g' → y ∈ s
def stepsV : Nat → List (List Nat) → Prop
  | _, [] => True
  | g, s :: r => ∃ g', Stp1 g s g' ∧ stepsV g' r
def At.V (a : At) : Prop := 1 ≤ a.n ∧ a.n ≤ 6 ∧ a.ss.length ≤ 3 ∧ stepsV a.n a.ss
def prodN (l : List Nat) : Nat := l.foldl (fun a n => a * n) 1
def SchV (s : Sch) : Prop := 1 ≤ s.length ∧ s.length ≤ 3 ∧ (∀ a ∈ s, a.V) ∧ prodN (s.map At.n) ≤ 60
theorem maxI_of {ns : List Int} {b : Int} (h1 : ∀ x ∈ ns, x ≤ b) (h2 : b ∈ ns) : maxI ns = b := by
  cases ns with
  | nil => cases h2
  | cons n r =>
    have up : ∀ (l : List Int) (a : Int), a ≤ l.foldl max a ∧ ∀ x ∈ l, x ≤ l.foldl max a := by
      intro l
      induction l with
      | nil => intro a; exact ⟨Int.le_refl _, fun _ h => nomatch h⟩
      | cons y l ih =>
        intro a
        have := ih (max a y)
        simp only [List.foldl_cons]
        refine ⟨by omega, fun x hx => ?_⟩
        rcases List.mem_cons.mp hx with rfl | hx
        · omega
        · exact this.2 x hx
    have le := foldl_max_le r n (h1 n (by simp)) fun x hx => h1 x (by simp [hx])
    have ge := up r n
    simp only [maxI]
    rcases List.mem_cons.mp h2 with rfl | h2
    · omega
    · have := ge.2 b h2; omega
theorem toI_nD (l : List Nat) : (l.map nD).map toI = l.map (fun k : Nat => (k : Int)) := by
  rw [List.map_map]; rfl
theorem gbehind_step {g : Nat} {s : List Nat} {g' : Nat} (h : Stp1 g s g') (hg : 1 ≤ g) : gbehind (tD s) g = g' ∧ 1 ≤ g' := by
  obtain ⟨hl, hlt, hx, hy⟩ := h
  have g1 : 1 ≤ g' := by
    cases s with
    | nil => rw [List.length_nil] at hl; omega
    | cons a r => have := hx a (by simp); omega
  refine ⟨?_, g1⟩
  have hall : ((s.map nD).all fun d => betw d 0 ((g : Int) - 2)) = true := by
    rw [List.all_eq_true]
    intro d hd
    obtain ⟨k, hk, rfl⟩ := List.mem_map.mp hd
    have := hx k hk
    simp only [betw, nD, Bool.and_eq_true, decide_eq_true_eq]
    omega
  have hc : card (s.map fun k : Nat => (k : Int)) = g' := by
    have e := card_of (out := (List.range g').map fun k : Nat => (k : Int)) (ns := s.map fun k : Nat => (k : Int)) ?_ ?_
    · rw [← e, List.length_map, List.length_range]
    · exact List.Pairwise.map _ (fun a b h e => h (by omega)) List.nodup_range
    · intro k
      simp only [List.mem_map, List.mem_range]
      constructor
      · rintro ⟨a, ha, rfl⟩; exact ⟨a, hy a ha, rfl⟩
      · rintro ⟨a, ha, rfl⟩; exact ⟨a, hx a ha, rfl⟩
  have hm : maxI (s.map fun k : Nat => (k : Int)) = (g' : Int) - 1 := by
    refine maxI_of (fun x hx' => ?_) ?_
    · obtain ⟨a, ha, rfl⟩ := List.mem_map.mp hx'
      have := hx a ha
      omega
    · exact List.mem_map.mpr ⟨g' - 1, hy (g' - 1) (by omega), by omega⟩
  simp only [gbehind, tD]
  rw [if_pos ⟨by rw [List.length_map, hl], hall⟩, toI_nD, hc, hm, if_pos rfl]
theorem stepsOk_of : ∀ {ss : List (List Nat)} {g : Nat}, 1 ≤ g → stepsV g ss → stepsOk g (ss.map tD) = true
  | [], _, _, _ => rfl
  | s :: ss, g, hg, ⟨g', h1, h2⟩ => by
    obtain ⟨e, g1⟩ := gbehind_step h1 hg
    rw [List.map_cons, stepsOk, e, stepsOk_of g1 h2, Bool.and_true, decide_eq_true_eq]
    omega
theorem At.V.ok {a : At} (h : a.V) : isAttr a.enc = true := by
  obtain ⟨h1, h2, h3, h4⟩ := h
  simp only [At.enc, isAttr, nD, Bool.and_eq_true, decide_eq_true_eq, List.length_map]
  exact ⟨⟨⟨by omega, by omega⟩, h3⟩, stepsOk_of h1 h4⟩
theorem prod_cast : ∀ (l : List Nat) (a : Nat), (l.map fun k : Nat => (k : Int)).foldl (fun a n => a * n) (a : Int) = ((l.foldl (fun a n => a * n) a : Nat) : Int)
  | [], _ => rfl
  | n :: l, a => by
    rw [List.map_cons, List.foldl_cons, List.foldl_cons, ← prod_cast l (a * n)]
    rw [Int.natCast_mul]
theorem SchV.ok {s : Sch} (h : SchV s) : isSch (encS s) = true := by
  obtain ⟨h1, h2, h3, h4⟩ := h
  simp only [encS, isSch, Bool.and_eq_true, decide_eq_true_eq, List.length_map]
  refine ⟨⟨⟨h1, h2⟩, ?_⟩, ?_⟩
  · rw [List.all_eq_true]
    intro d hd
    obtain ⟨a, ha, rfl⟩ := List.mem_map.mp hd
    exact (h3 a ha).ok
  · rw [List.map_map]
    have e : (s.map (firstI ∘ At.enc)) = (s.map At.n).map fun k : Nat => (k : Int) := by rw [List.map_map]; rfl
    rw [e]
    have := prod_cast (s.map At.n) 1
    unfold prodI
    rw [show (1 : Int) = ((1 : Nat) : Int) from rfl, this]
    exact Int.ofNat_le.mpr h4
theorem refs_map {α : Type} {f : α → D} (h : ∀ x, refs (f x) = []) : ∀ l : List α, refsL (l.map f) = []
  | [] => by simp [refsL]
  | x :: l => by rw [List.map_cons, refsL, h x, refs_map h l]; rfl
theorem refs_tD (l : List Nat) : refs (tD l) = [] := by
  rw [tD, refs]; exact refs_map (fun x => by simp [nD, refs]) l
theorem refs_enc (a : At) : refs a.enc = [] := by
  simp only [At.enc, refs, refsL, nD, List.nil_append, List.append_nil]
  exact refs_map refs_tD a.ss
theorem refs_encS (s : Sch) : refs (encS s) = [] := by
  rw [encS, refs]; exact refs_map refs_enc s
theorem kn_encS (m : Mu) (s : Sch) : Kn m (encS s) := .of (refs_encS s)
theorem kn_tD (m : Mu) (l : List Nat) : Kn m (tD l) := .of (refs_tD l)
/-! rollups -/
def isRoll (s : Sch) (d : D) : Bool := match d with
  | .tup ls => decide (ls.length = s.length) && (List.zipWith (fun (a : At) l => betw l 0 a.ss.length) s ls).all id
  | _ => false
def s_is_rollup : DSp := fun ds m Q => ∃ s d, ds = [encS s, d] ∧ s.length ≤ 3 ∧ Kn m d ∧ Q (.bl (isRoll s d)) m
theorem l_is_rollup : ∀ ds m Q, s_is_rollup ds m Q → ds.length = 2 := by rintro ds m Q ⟨s, d, rfl, _⟩; rfl
def t_is_rollup : DS := (xSeq (xIf (dOr (dNot (dTest (dIsi "tuple" (dVar 1)))) (dTest (dOp aNe (dCB aLen (dCons (dVar 1) dNil)) (dCB aLen (dCons (dVar 0) dNil))))) (xRet (dC (.bl false))) xNext)
  (xRet (dCB aAll (dCons (dLc (sZip2 (dVar 0) (dVar 1)) [2, 3] (gT 2 (gC (gV 2) (gC (gV 3) gN))) dYes (dCB s_is_between (dCons (dVar 3) (dCons (dC (.int 0)) (dCons (dCB aLen (dCons (dOp aIx (dVar 2) (dC (.int 1))) dNil)) dNil))))) dNil))))
/-- over zip: the pairs -/
theorem lcGo_zip {α β : Type} {g : DG} {te : DT} {r : Ro} {m : Mu} {ea : α → D} {eb : β → D} (f : α → β → D) : ∀ (as : List α) (bs : List β) (acc : List D) (Q : List D → Mu → Prop),
    (∀ a ∈ as, ∀ b ∈ bs, ∀ K : DK, K (f a b) m → g (.pair [ea a, eb b]) r fun r1 => te r1 m K) → Q (acc ++ List.zipWith f as bs) m → lcGo g dYes te r (zip2 (as.map ea) (bs.map eb)) acc m Q
  | [], bs, acc, Q, _, h => by
    rw [List.zipWith_nil_left, List.append_nil] at h
    rw [List.map_nil, zip2, List.zipWith_nil_left]
    exact h
  | a :: as, [], acc, Q, _, h => by
    rw [List.zipWith_nil_right, List.append_nil] at h
    rw [List.map_nil, zip2, List.zipWith_nil_right]
    exact h
  | a :: as, b :: bs, acc, Q, hf, h => by
    rw [List.map_cons, List.map_cons, zip2, List.zipWith_cons_cons]
    show g (.pair [ea a, eb b]) r fun r1 => te r1 m fun y m2 => lcGo g dYes te r (zip2 (as.map ea) (bs.map eb)) (acc ++ [y]) m2 Q
    refine hf a List.mem_cons_self b List.mem_cons_self _ ?_
    refine lcGo_zip f as bs (acc ++ [f a b]) Q (fun x hx y hy => hf x (List.mem_cons_of_mem _ hx) y (List.mem_cons_of_mem _ hy)) ?_
    rw [List.append_assoc]
    exact h
theorem aAll_list {bs : List Bool} {m : Mu} {Q : DK} (h : Q (.bl (bs.all id)) m) : aAll [.lst (bs.map D.bl)] m Q := ⟨_, bs, rfl, rfl, h⟩
theorem zip2_len (xs ys : List D) : (zip2 xs ys).length = min xs.length ys.length := List.length_zipWith
theorem map_zipWith' {α β γ δ : Type} (f : γ → δ) (g : α → β → γ) : ∀ (xs : List α) (ys : List β), List.zipWith (fun a b => f (g a b)) xs ys = (List.zipWith g xs ys).map f
  | [], _ => by simp
  | _ :: _, [] => by simp
  | x :: xs, y :: ys => by rw [List.zipWith_cons_cons, List.zipWith_cons_cons, List.map_cons, map_zipWith' f g xs ys]
theorem small {n k : Nat} (h : n ≤ k) (hk : k ≤ 16777216 := by decide) : n ≤ sizeLine := by rw [sizeLine_eq]; omega
theorem v_is_rollup : Body 4 t_is_rollup s_is_rollup := by
  rintro ds m Q ⟨s, d, rfl, hs, ht, q⟩
  have hq := end_rt (m0 := m) q
  obtain ⟨t, et⟩ := ht.ty
  unfold t_is_rollup
  cases d with
  | tup ls =>
    unfold encS
    walk_at "d"
    rw [List.length_map]
    by_cases hl : ls.length = s.length
    · have e1 : (ls.length : Int) = s.length := by omega
      simp only [e1, decide_true, Bool.not_true, Bool.false_eq_true, ↓reduceIte]
      refine ⟨by rw [zip2_len, List.length_map]; exact small (k := 3) (by omega), ?_⟩
      have z := lcGo_zip (g := gT 2 (gC (gV 2) (gC (gV 3) gN))) (te := (dCB s_is_between (dCons (dVar 3) (dCons (dC (.int 0)) (dCons (dCB aLen (dCons (dOp aIx (dVar 2) (dC (.int 1))) dNil)) dNil))))) (r := [some (.tup (s.map At.enc)), some (.tup ls), none, none]) (m := m) (ea := At.enc) (eb := id) (fun (a : At) l => .bl (betw l 0 a.ss.length)) s ls []
        (fun acc m2 => aAll [.lst acc] m2 (endD m Q).rt) (fun a ha l hl2 K hK => ?_) ?_
      · rw [List.map_id] at z
        exact z
      · simp only [At.enc, id_eq]
        walk_at "d"
        rw [List.length_map]
        exact ⟨l, 0, a.ss.length, rfl, ht.tup hl2, hK⟩
      · rw [List.nil_append, map_zipWith' D.bl]
        refine aAll_list ?_
        simpa only [isRoll, hl, decide_true, Bool.true_and] using hq
    · have e1 : ¬ (ls.length : Int) = s.length := by omega
      simp only [e1, decide_false, Bool.not_false, ↓reduceIte]
      simpa only [isRoll, hl, decide_false, Bool.false_and] using hq
  | _ =>
    have e2 := isi_tup et
    simp only [xSeq, xIf, dOr, dNot, dTest, dIsi, dVar]
    refine ⟨_, rfl, t, et, _, rfl, ?_⟩
    rw [e2]
    exact hq
def fineB (a b : List Nat) : Bool := (List.zipWith (fun x y => decide (x ≤ y)) a b).all id
/-! what is needed -/
def s_need_scheme : DSp := fun ds m Q => ∃ s, ds = [encS s] ∧ SchV s ∧ Q .non m
theorem l_need_scheme : ∀ ds m Q, s_need_scheme ds m Q → ds.length = 1 := by rintro ds m Q ⟨s, rfl, _⟩; rfl
def t_need_scheme : DS := (xIf (dNot (dTest (dCB s_is_scheme (dCons (dVar 0) dNil)))) xNever xNext)
theorem v_need_scheme : Body 1 t_need_scheme s_need_scheme := by
  rintro ds m Q ⟨s, rfl, hs, q⟩
  unfold t_need_scheme
  walk_at "d"
  refine ⟨_, rfl, kn_encS m s, _, rfl, ?_⟩
  rw [hs.ok]
  exact end_nx q
def Roll (s : Sch) (r : List Nat) : Prop := isRoll s (tD r) = true
theorem Roll.len {s : Sch} {r : List Nat} (h : Roll s r) : r.length = s.length := by
  simp only [Roll, tD, isRoll, Bool.and_eq_true, decide_eq_true_eq, List.length_map] at h
  exact h.1
def s_need_rollup : DSp := fun ds m Q => ∃ s r, ds = [encS s, tD r] ∧ s.length ≤ 3 ∧ Roll s r ∧ Q .non m
theorem l_need_rollup : ∀ ds m Q, s_need_rollup ds m Q → ds.length = 2 := by rintro ds m Q ⟨s, r, rfl, _⟩; rfl
def t_need_rollup : DS := (xIf (dNot (dTest (dCB s_is_rollup (dCons (dVar 0) (dCons (dVar 1) dNil))))) xNever xNext)
theorem v_need_rollup : Body 2 t_need_rollup s_need_rollup := by
  rintro ds m Q ⟨s, r, rfl, hs, hr, q⟩
  unfold t_need_rollup
  walk_at "d"
  refine ⟨s, _, rfl, hs, kn_tD m r, _, rfl, ?_⟩
  rw [hr]
  exact end_nx q
def zMax (a b : List Nat) : List Nat := List.zipWith max a b
end Mn

set_option linter.all false
set_option maxHeartbeats 4000000
set_option autoImplicit false
set_option maxRecDepth 100000
namespace Mn
open PySem L2
variable [Tbs]
local macro_rules | `(tactic| walk_at "d") => `(tactic| (try simp only [xNext, xSeq, xAsg, xRet, xRetF, xDrop, xIf, xPar, xPut, xAug, xFor, dVar, dC, dOp, dTest, dChain, dAndV, dOrV, dNotV, dAnd, dOr, dNot, dIf, dNil, dCons, dTup, dLst, dLstM, dCB, dIsi, dLc, dLcM, dYes, wipeD, sSeq, sSeq_tup, sSeq_lst, sRg1, sRg2, sZip2, sZip3, sEnum, gV, gN, gC, gT, aAdd_int, aAdd_tup, aAdd_lst, aSub_int, aMul_int, aDiv_int, aMod_int, aPow_int, aCmp_int, aIx_tup, aIx_lst, aIx_scr, aMax_int, aMin_int, aInt_bl, aInt_int, aLen_tup, aLen_lst, aLen_scr, aTuple_lst, aTuple_tup, aEq_int, aNe_int, startD, List.map_cons, List.map_nil, List.length_cons, List.length_nil, List.cons_append, List.nil_append, List.replicate_zero, List.replicate_succ, List.append_nil, List.getElem?_cons_zero, List.getElem?_cons_succ, List.set_cons_zero, List.set_cons_succ, Option.some.injEq, exists_eq_left', exists_eq_left, exists_eq', D.int.injEq, D.bl.injEq, D.tup.injEq, D.lst.injEq, D.ref.injEq, List.cons.injEq, Nat.sub_self, Nat.zero_add, Nat.add_sub_cancel, seqI_tup, seqI_lst, seqOf_tup, seqOf_lst, tyN_tup, tyN_lst, tyN_int, tyN_bl, tyN_str, tyN_non, isi_tt, at_0, at_1, at_2, at_3, Option.map_some, true_and, and_true, if_true, Bool.false_eq_true, if_false, Bool.not_true, Bool.not_false, ↓reduceIte, Nat.reduceAdd, Nat.reduceSub, exists_and_left, and_assoc]))
/-! small data: pure, shallow, short when shown -/
def Sm (d : D) (k n : Nat) : Prop := pur d = true ∧ (py d).canLay0 = true ∧ (py d).depth ≤ k ∧ (py d).showable = true ∧ (py d).shown.length ≤ n
theorem Sm.mono {d : D} {k n k' n' : Nat} (h : Sm d k n) (hk : k ≤ k') (hn : n ≤ n') : Sm d k' n' := ⟨h.1, h.2.1, by have := h.2.2.1; omega, h.2.2.2.1, by have := h.2.2.2.2; omega⟩
theorem sm_int {i : Int} (h : i.natAbs < 10 ^ 18) : Sm (.int i) 0 20 := by
  refine ⟨rfl, rfl, Nat.zero_le _, ?_, ?_⟩
  · show decide (i.natAbs.log2 < 1920) = true
    rw [decide_eq_true_eq]
    by_cases h0 : i.natAbs = 0
    · rw [h0]; decide
    · rw [Nat.log2_lt h0]
      exact Nat.lt_of_lt_of_le (Nat.lt_trans h (show 10 ^ 18 < 2 ^ 64 by decide)) (Nat.pow_le_pow_right (by decide) (by decide))
  · show (Str.ofString (toString i)).length ≤ 20
    have := int_text_length_le10 (k := 18) (by decide) h
    rw [ofString_length]; omega
theorem pyM_of {d : D} (h : pur d = true) (m : Mu) : pyM d m = py d ∧ purM d m = pur d := by
  cases d <;> first | exact ⟨rfl, rfl⟩ | cases h
theorem Sm.ok {d : D} {k n : Nat} (h : Sm d k n) (hk : k ≤ 64) (m : Mu) : okD d m := by
  obtain ⟨e1, e2⟩ := pyM_of h.1 m
  refine ⟨by rw [e2]; exact h.1, ?_⟩
  rw [e1, SeqAt.shaped, h.2.1, Bool.true_and, decide_eq_true_eq]
  have := h.2.2.1
  omega
theorem Sm.shows {d : D} {k n : Nat} (h : Sm d k n) (hk : k ≤ 60) (hn : n ≤ 16777216) (m : Mu) : purM d m = true ∧ Shows (pyM d m) := by
  obtain ⟨e1, e2⟩ := pyM_of h.1 m
  refine ⟨by rw [e2]; exact h.1, ?_⟩
  rw [e1]
  refine ⟨h.2.2.2.1, PyData.hasDict_of_canLay _ h.2.1, by have := h.2.2.1; omega, ?_⟩
  have := h.2.2.2.2
  show _ ≤ 2 ^ 24
  omega
end Mn

set_option Elab.async false
set_option linter.all false
set_option maxRecDepth 100000
set_option maxHeartbeats 4000000
set_option autoImplicit false
namespace Mn
open PySem PySem.Spec PyProof.Rows L2
variable [Tbs]
/-! slices -/
abbrev DO := Ro → Mu → (Option Int → Mu → Prop) → Prop
def oNone : DO := fun _ m Q => Q none m
def oSome (t : DT) : DO := fun r m Q => t r m fun d m1 => ∃ i, d = .int i ∧ Q (some i) m1
def lfO (K : KF) (t : DO) : TO := fun s H Qv => ∃ G r m Q, RpS K G r s ∧ Rl K G H m ∧ t r m Q ∧ ∀ o H' G' m', Stp G H m G' H' m' → Rl K G' H' m' → Q o m' → Qv o H'
def PDO (X : Cx) (e : Option Expr) (t : DO) : Prop := PO X e (lfO X.kf t)
theorem poM {X : Cx} {e : Option Expr} {t t' : TO} (h : PO X e t) (i : ∀ s H Q, t' s H Q → t s H Q) : PO X e t' := ⟨fun pins s σ H Q I q => h.run pins s σ H Q I (i _ _ _ q)⟩
def cutD (ds : List D) (lo hi : Option Int) : List D := (ds.drop (HT.sIx ds.length 0 lo)).take (HT.sIx ds.length ds.length hi - HT.sIx ds.length 0 lo)
def aSl (d : D) (l h : Option Int) (m : Mu) (Q : DK) : Prop := match d with
  | .tup ds => Q (.tup (cutD ds l h)) m
  | .lst ds => Q (.lst (cutD ds l h)) m
  | .str z => z.length ≤ sizeLine ∧ Q (.str (cutS z l h)) m
  | .ref a => ∃ ds, m a = some (.lst ds) ∧ Q (.lst (cutD ds l h)) m
  | _ => False
def dSlice (ta : DT) (lo hi : DO) : DT := fun r m Q => ta r m fun d m1 => lo r m1 fun l m2 => hi r m2 fun h m3 => aSl d l h m3 Q
section
variable {X : Cx} {a b e : Expr} {ta tb te : DT} {lo hi : Option Expr} {tl th : DO} {pos p2 : Pos}
theorem pdo_none : PDO X none oNone := poM po_none fun s H Q ⟨G, r, m, Qd, hs, hr, q, w⟩ => w _ _ _ _ Stp.refl hr q
theorem pdo_some (h : PD X e te) : PDO X (some e) (oSome te) := by
  refine poM (po_some h) fun s H Q ⟨G, r, m, Qd, hs, hr, q, w⟩ => ?_
  refine ⟨G, r, m, _, hs, hr, q, fun v H1 G1 m1 d s1 r1 h1 ⟨i, e1, q1⟩ => ?_⟩
  subst e1
  cases h1
  exact ⟨i, rfl, w _ _ _ _ s1 r1 q1⟩
theorem cut_rp {K : KF} {G : Hp} {ds : List D} {vs : List V} (h : RpL K G ds vs) (l u : Option Int) : RpL K G (cutD ds l u) (cutV vs l u) := by
  unfold cutD cutV
  rw [h.len]
  exact (h.drop _).take _
theorem cutD_len (ds : List D) (l u : Option Int) : (cutD ds l u).length ≤ ds.length := by
  unfold cutD
  rw [List.length_take, List.length_drop]
  omega
theorem cutD_whole {ds : List D} {l u : Option Int} (h : HT.sIx ds.length 0 l = 0 ∧ HT.sIx ds.length ds.length u = ds.length) : cutD ds l u = ds := by
  unfold cutD
  rw [h.1, h.2, List.drop_zero, Nat.sub_zero, List.take_length]
theorem pd_slice (ha : PD X a ta) (hl : PDO X lo tl) (hu : PDO X hi th) : PD X (.Subscript a (.Slice lo hi none p2) pos) (dSlice ta tl th) := by
  refine peM (pe_slice (sl_tupF.or (sl_list.or sl_str)) ha hl hu) fun s H Q ⟨G, ro, m, Qd, hs, hr, q, w⟩ => ?_
  refine ⟨G, ro, m, _, hs, hr, q, fun v H1 G1 m1 d s1 r1 h1 q1 => ?_⟩
  refine ⟨G1, ro, m1, _, hs.same s1.g, r1, q1, fun l H2 G2 m2 s2 r2 q2 => ?_⟩
  refine ⟨G2, ro, m2, _, (hs.same s1.g).same s2.g, r2, q2, fun u H3 G3 m3 s3 r3 q3 => ?_⟩
  have w3 := w.after ((s1.trans s2).trans s3)
  have h3 := (h1.same s2.g).same s3.g
  cases d with
  | tup ds =>
    cases h3 with
    | tup hq hv hz =>
      rename_i ad vs
      refine .inl ⟨ad, vs, rfl, hq.sq r3.sub _, fun hw => ?_, fun _ => ?_⟩
      · rw [← hv.len] at hw
        have q4 : Qd (.tup ds) m3 := by
          have : Qd (.tup (cutD ds l u)) m3 := q3
          rw [cutD_whole hw] at this
          exact this
        exact w3.now r3 (.tup hq hv hz) q4
      · exact Rl.newTup w3 r3 (cut_rp hv l u) (Nat.le_trans (cutD_len _ _ _) hz) q3
  | lst ds =>
    cases h3 with
    | lst hq hv hz =>
      rename_i ad vs
      exact .inr (.inl ⟨ad, vs, rfl, .inl (.inl (r3.sub _ _ hq)), fun p hp => Rl.newLst w3 r3 (cut_rp hv l u) (Nat.le_trans (cutD_len _ _ _) hz) q3 p hp⟩)
  | ref ad =>
    cases h3
    obtain ⟨ds, e1, q4⟩ := q3
    obtain ⟨b, vs, eb, hq, hv, hz⟩ := lst_is r3 (Rp.ref ad) (show lstOf (.ref ad) m3 = some ds by simp only [lstOf, e1])
    cases eb
    exact .inr (.inl ⟨ad, vs, rfl, hq, fun p hp => Rl.newLst w3 r3 (cut_rp hv l u) (Nat.le_trans (cutD_len _ _ _) hz) q4 p hp⟩)
  | str z =>
    cases h3
    exact .inr (.inr ⟨z, rfl, q3.1, w3.now r3 (.str _) q3.2⟩)
  | non => exact q3.elim
  | bl b => exact q3.elim
  | int i => exact q3.elim
  | scr ds => exact q3.elim
  | dct ks ds => exact q3.elim
  | pair ds => exact q3.elim
/-! -x -/
def dNeg (t : DT) : DT := fun r m Q => t r m fun d m1 => ∃ i, d = .int i ∧ Q (.int (-i)) m1
theorem pd_neg (h : PD X a ta) : PD X (.UnaryOp .USub a pos) (dNeg ta) := by
  refine peM (pe_un un_neg h) fun s H Q ⟨G, ro, m, Qd, hs, hr, q, w⟩ => ?_
  refine ⟨G, ro, m, _, hs, hr, q, fun v H1 G1 m1 d s1 r1 h1 ⟨i, e1, q1⟩ => ?_⟩
  subst e1
  cases h1
  exact ⟨i, rfl, w _ _ _ _ _ s1 r1 (.int _) q1⟩
end
end Mn

set_option Elab.async false
set_option linter.all false
set_option maxRecDepth 100000
set_option maxHeartbeats 4000000
set_option autoImplicit false
namespace Mn
open PySem PySem.Spec PyProof.Rows L2
variable [Tbs]
theorem _root_.L2.Room.u1 {k : Nat} {A : Around} (r : Room k A) : A.units + 1 < cLine := by have := r.un; omega
/-! a mutable list read for the last time as such: from there on it does not change -/
def dFrz (i : Nat) : DT := fun r m Q => ∃ p ds, r[i]? = some (some (.ref p)) ∧ m p = some (.lst ds) ∧ Q (.lst ds) (er m p)
section
variable {X : Cx} {a b e o : Expr} {ta tb te to : DT} {es : List Expr} {tr : DA} {pos p2 apos cpos : Pos}
theorem pd_frz {i : Nat} {x : Str} {p : Pos} (h : PE X (.Name x p) (tVar i)) : PD X (.Name x p) (dFrz i) := by
  refine peM h fun s H Q ⟨G, r, m, Qd, hs, hr, ⟨a, ds, e1, e2, q⟩, w⟩ => ?_
  obtain ⟨v, ev, rv⟩ := hs.get i _ e1
  cases rv
  obtain ⟨G', rl, st, rp⟩ := hr.freeze e2
  exact ⟨.ref a, ev, w _ _ _ _ _ st rl rp q⟩
/-! displays with stars -/
def dStar (te : DT) (tr : DA) : DA := fun r m Q => te r m fun d m1 => ∃ xs, seqOf d m1 = some xs ∧ tr r m1 fun ys m2 => Q (xs ++ ys) m2
theorem pda_star {p : Pos} (he : PD X e te) (hr : PDA X es tr) (hs : starEach (.Starred e p :: es) X.env = (true, eval e X.env) :: starEach es X.env := by rfl) : PDA X (.Starred e p :: es) (dStar te tr) := by
  refine paM (StX.pa_star he hr hs) fun s H Q ⟨G, ro, m, Qd, hs, hr, q, w⟩ => ?_
  refine ⟨G, ro, m, _, hs, hr, q, fun v H1 G1 m1 d s1 r1 h1 ⟨xs, e1, q1⟩ => ?_⟩
  obtain ⟨a, vs, ev, hq, hv, hz⟩ := seq_is r1 h1 e1
  refine ⟨a, vs, ev, hq.symm, G1, ro, m1, _, hs.same s1.g, r1, q1, fun us H2 G2 m2 ds s2 r2 h2 q2 => ?_⟩
  exact w _ _ _ _ _ (s1.trans s2) r2 ((hv.same s2.g).app h2) q2
/-! xs.extend(ys) -/
def dExtend (to te : DT) : DT := fun r m Q => to r m fun o m1 => ∃ p ds0, o = .ref p ∧ m1 p = some (.lst ds0) ∧ te r m1 fun d m2 => ∃ ds es, m2 p = some (.lst ds) ∧ lst1 d m2 = some es ∧ ds.length + es.length ≤ sizeLine ∧ Q .non (up m2 p (.lst (ds ++ es)))
theorem pd_extend (ho : PD X o to) (he : PD X e te) (hs : starEach [e] X.env = (false, eval e X.env) :: starEach [] X.env := by rfl) (hbase : attributeBase o "extend" X.env (eval o X.env) = eval o X.env := by rfl)
    (hfew : ((backTo cpos (starEach [e] X.env)).all (fun x => !x.1) && (backToKw cpos (keywordEach [] X.env)).all (fun x => x.1.isSome)
      && decide ([e].length + ([] : List Keyword).length + (if ([] : List Keyword).isEmpty then 0 else 1) < 30)) = true := by rfl)
    (hline : (apos.endLine == cpos.line) = true := by rfl) (hplain : (backTo cpos (starEach [] X.env)).any (·.1) = false := by rfl) :
    PD X (.Call (.Attribute o "extend" apos) [e] [] cpos) (dExtend to te) := by
  refine peM (pe_bm PySem.F.plainAttrs_list PySem.F.slot_list_extend PySem.F.type_list_extend mt_extend ho (pa_cons he pa_nil hs) hbase hfew hline hs hplain) fun s H Q ⟨G, ro, m, Qd, hs, hr, q, w⟩ => ?_
  refine ⟨G, ro, m, _, hs, hr, q, fun v H1 G1 m1 d s1 r1 h1 ⟨p, ds0, e1, e2, q1⟩ => ?_⟩
  subst e1
  cases h1
  refine ⟨tyV_ref r1 e2, G1, ro, m1, _, hs.same s1.g, r1, q1, fun v2 H2 G2 m2 d2 s2 r2 h2 ⟨ds, es, e3, e4, z, q2⟩ => ?_⟩
  obtain ⟨_, x, hx, us, ex, ru, z2⟩ := r2.mu p _ e3
  subst ex
  obtain ⟨b, vs, rfl, hb, rv, z3⟩ := lst1_is r2 h2 e4
  obtain ⟨r4, s4⟩ := r2.put e3 (o := .lst (us ++ vs)) (u := .lst (ds ++ es)) ⟨_, rfl, ru.app rv, by rw [List.length_append]; exact z⟩
  exact ⟨p, b, us, vs, rfl, rfl, hx, hb, by rw [← ru.len, ← rv.len]; exact z, w _ _ _ _ _ ((s1.trans s2).trans s4) r4 .non q2⟩
/-! t.count(k) of whole numbers -/
def dCountT (to te : DT) : DT := fun r m Q => to r m fun o m1 => ∃ ns : List Int, o = .tup (ns.map D.int) ∧ te r m1 fun d m2 => ∃ k, d = .int k ∧ Q (.int (ns.count k : Nat)) m2
def dIndexT (to te : DT) : DT := fun r m Q => to r m fun o m1 => ∃ ns : List Int, o = .tup (ns.map D.int) ∧ te r m1 fun d m2 => ∃ k j, d = .int k ∧ ns[j]? = some k ∧ (∀ i, i < j → ns[i]? ≠ some k) ∧ Q (.int (j : Nat)) m2
/-! l.index(x) -/
def dIndexL (to te : DT) : DT := fun r m Q => to r m fun o m1 => (lst1 o m1).isSome = true ∧ te r m1 fun d m2 => ∃ es j z, lst1 o m2 = some es ∧ okD o m2 ∧ okD d m2 ∧ es[j]? = some z ∧ PyData.eqv (py z) (pyM d m2) = true ∧
  (∀ i z', i < j → es[i]? = some z' → PyData.eqv (py z') (pyM d m2) = false) ∧ Q (.int (j : Nat)) m2
theorem lst1_py {o : D} {m : Mu} {es : List D} (h : lst1 o m = some es) : pyM o m = .list (pyL es) := by
  unfold lst1 at h
  cases o with
  | lst ds => cases h; rfl
  | ref a =>
    simp only at h
    cases em : m a with
    | none => rw [em] at h; cases h
    | some u =>
      rw [em] at h
      cases u with
      | lst ds => cases h; simp only [pyM, em]
      | dN kvs => cases h
      | dE => cases h
      | ins c dx fs => cases h
      | own y => cases h
  | _ => cases h
theorem pd_indexL (hu : X.A.units + 65 < cLine) (ho : PD X o to) (he : PD X e te) (hs : starEach [e] X.env = (false, eval e X.env) :: starEach [] X.env := by rfl) (hbase : attributeBase o "index" X.env (eval o X.env) = eval o X.env := by rfl)
    (hfew : ((backTo cpos (starEach [e] X.env)).all (fun x => !x.1) && (backToKw cpos (keywordEach [] X.env)).all (fun x => x.1.isSome)
      && decide ([e].length + ([] : List Keyword).length + (if ([] : List Keyword).isEmpty then 0 else 1) < 30)) = true := by rfl)
    (hline : (apos.endLine == cpos.line) = true := by rfl) (hplain : (backTo cpos (starEach [] X.env)).any (·.1) = false := by rfl) :
    PD X (.Call (.Attribute o "index" apos) [e] [] cpos) (dIndexL to te) := by
  refine peM (pe_bm PySem.F.plainAttrs_list PySem.F.slot_list_index PySem.F.type_list_index (mt_indexD hu) ho (pa_cons he pa_nil hs) hbase hfew hline hs hplain) fun s H Q ⟨G, ro, m, Qd, hs, hr, q, w⟩ => ?_
  refine ⟨G, ro, m, _, hs, hr, q, fun v H1 G1 m1 d s1 r1 h1 ⟨e0, q1⟩ => ?_⟩
  obtain ⟨es0, e0⟩ := Option.isSome_iff_exists.mp e0
  obtain ⟨b, vs, rfl, hb, rv, z3⟩ := lst1_is r1 h1 e0
  refine ⟨.inl ⟨rfl, vs, .inl (.inl hb)⟩, G1, ro, m1, _, hs.same s1.g, r1, q1, fun v2 H2 G2 m2 d2 s2 r2 h2 ⟨es, j, z, e1, ok1, ok2, ej, eq1, no, q2⟩ => ?_⟩
  have hpy := lst1_py e1
  have hd1 := (h1.same s2.g).dpM r2 ok1.1
  have sh1 := ok1.2
  rw [hpy] at hd1 sh1
  have getL : ∀ (i : Nat), (pyL es)[i]? = (es[i]?).map py := fun i => by rw [pyL_map, List.getElem?_map]
  refine ⟨b, v2, pyM d2 m2, pyL es, j, py z, rfl, rfl, hd1, h2.dpM r2 ok2.1, sh1, ok2.2, by rw [getL, ej]; rfl, eq1, fun i z' hi hz => ?_, w _ _ _ _ _ (s1.trans s2) r2 (.int _) q2⟩
  rw [getL] at hz
  obtain ⟨z0, hz0, rfl⟩ := Option.map_eq_some_iff.mp hz
  exact no i z0 hi hz0
end
end Mn

set_option Elab.async false
set_option linter.all false
set_option maxRecDepth 100000
set_option maxHeartbeats 4000000
set_option autoImplicit false
namespace Mn
open PySem PySem.Spec PyProof.Rows L2
variable [Tbs]
/-! comprehensions with two fors -/
def lcIn (g : DG) (tt : DB) (te : DT) (r : Ro) : List D → List D → Mu → (List D → Mu → Prop) → Prop
  | [], acc, m, Q => Q acc m
  | d :: ds, acc, m, Q => g d r fun r1 => tt r1 m fun b m1 => if b = true then te r1 m1 fun y m2 => acc.length < sizeLine ∧ lcIn g tt te r ds (acc ++ [y]) m2 Q else lcIn g tt te r ds acc m1 Q
def lcGo2 (g : DG) (tt : DB) (src1 : DI) (vs1 : List Nat) (g1 : DG) (tt1 : DB) (te : DT) (r : Ro) : List D → List D → Mu → (List D → Mu → Prop) → Prop
  | [], acc, m, Q => Q acc m
  | d :: ds, acc, m, Q => g d r fun r1 => tt r1 m fun b m1 => if b = true then src1 r1 m1 fun items m2 => lcIn g1 tt1 te (wipeD r1 vs1) items acc m2 fun acc' m3 => lcGo2 g tt src1 vs1 g1 tt1 te r ds acc' m3 Q else lcGo2 g tt src1 vs1 g1 tt1 te r ds acc m1 Q
def dLc2 (src : DI) (vs : List Nat) (g : DG) (tt : DB) (src1 : DI) (vs1 : List Nat) (g1 : DG) (tt1 : DB) (te : DT) : DT := fun r m Q => src r m fun items m1 => lcGo2 g tt src1 vs1 g1 tt1 te (wipeD r vs) items [] m1 fun acc m2 => Q (.lst acc) m2
section
variable {X : Cx} {elt tg iter tg1 iter1 : Expr} {ifs ifs1 : List Expr} {scope : Scope} {own : List (Str × Nat)} {pos : Pos} {src src1 : DI} {g g1 : TG} {dg dg1 : DG} {tt tt1 : DB} {te : DT}
/-- where a comprehension stands: its list at D is neither fixed nor told -/
structure LcAt (K : KF) (G1 H1 : Hp) (m1 : Mu) (D : Addr) (G' H' : Hp) (m' : Mu) (us : List V) (acc : List Mn.D) : Prop where
  st : Stp G1 H1 m1 G' H' m'
  rl : Rl K G' H' m'
  hD : H' D = some (.lst us)
  gD : G' D = none
  mD : m' D = none
  ra : RpL K G' acc us
  la : acc.length ≤ sizeLine
theorem LcAt.step {K : KF} {G1 H1 G' H' G2 H2 : Hp} {m1 m' m2 : Mu} {D : Addr} {us : List V} {acc : List Mn.D} (h : LcAt K G1 H1 m1 D G' H' m' us acc) (s : Stp G' H' m' G2 H2 m2) (r : Rl K G2 H2 m2) : LcAt K G1 H1 m1 D G2 H2 m2 us acc := by
  obtain ⟨a, b, c⟩ := s.fr D _ h.hD h.gD h.mD (fun _ z => nomatch z)
  exact ⟨h.st.trans s, r, a, b, c, h.ra.same s.g, h.la⟩
theorem LcAt.push {K : KF} {G1 H1 G' H' : Hp} {m1 m' : Mu} {D : Addr} {us : List V} {acc : List Mn.D} (h : LcAt K G1 H1 m1 D G' H' m' us acc) (hD : H1 D = none) {y : V} {d : Mn.D} (ry : Rp K G' d y) (hl : acc.length < sizeLine) :
    LcAt K G1 H1 m1 D G' (upd H' D (.lst (us ++ [y]))) m' (us ++ [y]) (acc ++ [d]) := by
  refine ⟨⟨h.st.g, fun b o e1 e2 e3 nt => ?_, fun b o e => ?_⟩, h.rl.hid h.gD h.mD (.inr ⟨_, h.hD⟩) _, upd_same, h.gD, h.mD, h.ra.app (.cons ry .nil), by rw [List.length_append, List.length_singleton]; omega⟩
  · by_cases hb : b = D
    · rw [hb, hD] at e1; cases e1
    · obtain ⟨z1, z2, z3⟩ := h.st.fr b o e1 e2 e3 nt
      rw [upd_ne hb]; exact ⟨z1, z2, z3⟩
  · obtain ⟨o', z⟩ := h.st.up b o e
    by_cases hb : b = D
    · exact ⟨_, by rw [hb]; exact upd_same⟩
    · exact ⟨o', by rw [upd_ne hb]; exact z⟩
theorem lc2_data {vs vs1 : List Nat} (gc : GC X.kf g dg vs) (gc1 : GC X.kf g1 dg1 vs1) {s : L2.St} {H : Hp} {Q : VK} {QL : List D → Mu → Prop} {G : Hp} {r : Ro} {m : Mu} (hs : RpS X.kf G r s) (hr : Rl X.kf G H m)
    (q : src r m fun items m1 => lcGo2 dg tt src1 vs1 dg1 tt1 te (wipeD r vs) items [] m1 QL)
    (fin : ∀ D us acc H' G' m', H D = none → Stp G H m G' H' m' → Rl X.kf G' H' m' → H' D = some (.lst us) → G' D = none → m' D = none → RpL X.kf G' acc us → acc.length ≤ sizeLine → QL acc m' → Q (.ref D) H') :
    tLc2 (lfI X.kf src) g (lfB X.kf tt) (lfI X.kf src1) g1 (lfB X.kf tt1) (lf X.kf te) vs vs1 s H Q := by
  refine ⟨G, r, m, _, hs, hr, q, fun J H1 G1 m1 items s1 r1 wk q1 => ?_⟩
  intro D hD
  obtain ⟨gD, mD⟩ := r1.free hD
  have base : LcAt X.kf G1 H1 m1 D G1 (upd H1 D (.lst [])) m1 [] [] := by
    refine ⟨⟨Same.refl _, fun b o e1 e2 e3 _ => by rw [upd_ne (ne_of_none e1 hD)]; exact ⟨e1, e2, e3⟩, fun b o e => ⟨o, by rw [upd_ne (ne_of_none e hD)]; exact e⟩⟩, r1.hid gD mD (.inl hD) _, upd_same, gD, mD, .nil, Nat.zero_le _⟩
  refine ⟨fun i k H' => i + k = items.length ∧ ∃ G' m' us acc, LcAt X.kf G1 H1 m1 D G' H' m' us acc ∧ lcGo2 dg tt src1 vs1 dg1 tt1 te (wipeD r vs) (items.drop i) acc m' QL,
    ⟨items.length, by omega, G1, m1, [], [], base, by rw [List.drop_zero]; exact q1⟩, fun i k H' hW => ?_⟩
  obtain ⟨ek, G', m', us, acc, la, qq⟩ := hW
  by_cases hi : i < items.length
  · have ed : items[i]? = some items[i] := List.getElem?_eq_getElem hi
    rw [List.drop_eq_getElem_cons hi] at qq
    obtain ⟨go, yl⟩ := wk.go G' H' m' i _ la.st.g la.rl ed
    refine .inr ⟨go, fun H2 => (i + 1) + (k - 1) = items.length ∧ ∃ G' m' us acc, LcAt X.kf G1 H1 m1 D G' H2 m' us acc ∧ lcGo2 dg tt src1 vs1 dg1 tt1 te (wipeD r vs) (items.drop (i + 1)) acc m' QL,
      fun H2 h2 => ⟨k - 1, by omega, h2⟩, fun x H2 hy => ?_⟩
    obtain ⟨G2, rl2, st2, rx⟩ := yl x H2 hy
    have la2 := la.step st2 rl2
    refine gc G2 H2 m' (wipe s vs) (wipeD r vs) x _ _ _ rl2 ((((hs.same s1.g).same la.st.g).same st2.g).wipe vs) rx qq fun s3 r3 rs3 hw q3 => ⟨by rw [hw]; exact wipe_wipe s vs, ?_⟩
    refine ⟨G2, r3, m', _, rs3, rl2, q3, fun b H3 G3 m3 st3 rl3 q4 => ?_⟩
    have la3 := la2.step st3 rl3
    cases b with
    | false =>
      try dsimp only
      rw [if_neg Bool.false_ne_true] at q4 ⊢
      exact ⟨by omega, G3, m3, us, acc, la3, q4⟩
    | true =>
      try dsimp only
      rw [if_pos rfl] at q4 ⊢
      refine ⟨G3, r3, m3, _, rs3.same st3.g, rl3, q4, fun J1 H4 G4 m4 items1 st4 rl4 wk1 q5 => ?_⟩
      have la4 := la3.step st4 rl4
      refine ⟨fun j k1 H5 => j + k1 = items1.length ∧ ∃ G' m' us acc, Same G4 G' ∧ LcAt X.kf G1 H1 m1 D G' H5 m' us acc ∧ lcIn dg1 tt1 te (wipeD r3 vs1) (items1.drop j) acc m' fun acc' m3 => lcGo2 dg tt src1 vs1 dg1 tt1 te (wipeD r vs) (items.drop (i + 1)) acc' m3 QL,
        ⟨items1.length, by omega, G4, m4, us, acc, Same.refl _, la4, by rw [List.drop_zero]; exact q5⟩, fun j k1 H5 hW1 => ?_⟩
      obtain ⟨ek1, G5, m5, us5, acc5, sm5, la5, qq5⟩ := hW1
      by_cases hj : j < items1.length
      · have ed1 : items1[j]? = some items1[j] := List.getElem?_eq_getElem hj
        rw [List.drop_eq_getElem_cons hj] at qq5
        obtain ⟨go1, yl1⟩ := wk1.go G5 H5 m5 j _ sm5 la5.rl ed1
        refine .inr ⟨go1, fun H6 => (j + 1) + (k1 - 1) = items1.length ∧ ∃ G' m' us acc, Same G4 G' ∧ LcAt X.kf G1 H1 m1 D G' H6 m' us acc ∧ lcIn dg1 tt1 te (wipeD r3 vs1) (items1.drop (j + 1)) acc m' fun acc' m3 => lcGo2 dg tt src1 vs1 dg1 tt1 te (wipeD r vs) (items.drop (i + 1)) acc' m3 QL,
          fun H6 h6 => ⟨k1 - 1, by omega, h6⟩, fun x6 H6 hy6 => ?_⟩
        obtain ⟨G6, rl6, st6, rx6⟩ := yl1 x6 H6 hy6
        have la6 := la5.step st6 rl6
        have rs6 : RpS X.kf G6 r3 s3 := (((rs3.same st3.g).same st4.g).same sm5).same st6.g
        refine gc1 G6 H6 m5 (wipe s3 vs1) (wipeD r3 vs1) x6 _ _ _ rl6 (rs6.wipe vs1) rx6 qq5 fun s7 r7 rs7 hw7 q7 => ⟨by rw [hw7]; exact wipe_wipe s3 vs1, ?_⟩
        refine ⟨G6, r7, m5, _, rs7, rl6, q7, fun b7 H7 G7 m7 st7 rl7 q8 => ?_⟩
        have la7 := la6.step st7 rl7
        have sm7 : Same G4 G7 := (sm5.trans st6.g).trans st7.g
        cases b7 with
        | false =>
          try dsimp only
          rw [if_neg Bool.false_ne_true] at q8 ⊢
          exact ⟨by omega, G7, m7, us5, acc5, sm7, la7, q8⟩
        | true =>
          try dsimp only
          rw [if_pos rfl] at q8 ⊢
          refine ⟨G7, r7, m7, _, rs7.same st7.g, rl7, q8, fun y H8 G8 m8 d8 st8 rl8 ry ⟨hz, q9⟩ => ?_⟩
          have la8 := la7.step st8 rl8
          refine ⟨us5, la8.hD, by rw [← la8.ra.len]; exact hz, by omega, G8, m8, us5 ++ [y], acc5 ++ [d8], sm7.trans st8.g, la8.push hD ry hz, q9⟩
      · have ej : j = items1.length := by omega
        subst ej
        rw [List.drop_length] at qq5
        exact .inl ⟨wk1.stop G5 H5 m5 sm5 la5.rl, by omega, G5, m5, us5, acc5, la5, qq5⟩
  · have ei : i = items.length := by omega
    subst ei
    rw [List.drop_length] at qq
    exact .inl ⟨wk.stop G' H' m' la.st.g la.rl, fin D us acc H' G' m' (s1.free hD) (s1.trans la.st) la.rl la.hD la.gD la.mD la.ra la.la qq⟩
theorem lc2_frz {vs vs1 : List Nat} (gc : GC X.kf g dg vs) (gc1 : GC X.kf g1 dg1 vs1) {s : L2.St} {H : Hp} {Q : VK} (h : lf X.kf (dLc2 src vs dg tt src1 vs1 dg1 tt1 te) s H Q) : tLc2 (lfI X.kf src) g (lfB X.kf tt) (lfI X.kf src1) g1 (lfB X.kf tt1) (lf X.kf te) vs vs1 s H Q := by
  obtain ⟨G, r, m, Qd, hs, hr, q, w⟩ := h
  refine lc2_data gc gc1 hs hr q fun D us acc H' G' m' new st rl hD gD mD ra la qq => ?_
  have sm : Same G' (upd G' D (.lst us)) := fun b o e => by rw [upd_ne (ne_of_none e gD)]; exact e
  refine w _ _ (upd G' D (.lst us)) m' (.lst acc) ⟨st.g.trans sm, fun b o e1 e2 e3 nt => ?_, st.up⟩ (rl.hidG hD gD mD) (.lst upd_same (ra.same sm) la) qq
  · obtain ⟨z1, z2, z3⟩ := st.fr b o e1 e2 e3 nt
    rw [upd_ne (ne_of_none e1 new)]; exact ⟨z1, z2, z3⟩
section
variable {vs1 : List Nat}
theorem pds_setLc2 {i : Nat} {y : Str} {py spos : Pos} (hc : X.calm = true) (hN : X.N.Nodup) (hy : X.N[i]? = some y) (hyl : X.env.scope.names.lookup y = some .local)
    (hsw : swapsWith (.ListComp elt [⟨tg, iter, ifs, 0⟩, ⟨tg1, iter1, ifs1, 0⟩] scope pos) (some (.Name y py)) spos.line X.env = pure true) (hi : PDI X tg iter src) (ok : BlkOk X.N X.env.scope scope own) (hv : ∀ i ∈ vs1, i ∈ own.map (·.2)) (gc : GC X.kf g dg (own.map (·.2))) (gc1 : GC X.kf g1 dg1 vs1)
    (hg : ∀ (s : Shared) (H : Hp) (C : Addr) (cl : List (Str × Addr)) (fp : List Addr), PG (X.blk s H scope (compEnvC scope cl C X.env) fp) tg g) (ht : ∀ (s : Shared) (H : Hp) (C : Addr) (cl : List (Str × Addr)) (fp : List Addr), PDTs (X.blk s H scope (compEnvC scope cl C X.env) fp) ifs tt)
    (hi1 : ∀ (s : Shared) (H : Hp) (C : Addr) (cl : List (Str × Addr)) (fp : List Addr), PDI (X.blk s H scope (compEnvC scope cl C X.env) fp) tg1 iter1 src1)
    (hg1 : ∀ (s : Shared) (H : Hp) (C : Addr) (cl : List (Str × Addr)) (fp : List Addr), PG (X.blk s H scope (compEnvC scope cl C X.env) fp) tg1 g1) (ht1 : ∀ (s : Shared) (H : Hp) (C : Addr) (cl : List (Str × Addr)) (fp : List Addr), PDTs (X.blk s H scope (compEnvC scope cl C X.env) fp) ifs1 tt1)
    (he : ∀ (s : Shared) (H : Hp) (C : Addr) (cl : List (Str × Addr)) (fp : List Addr), PD (X.blk s H scope (compEnvC scope cl C X.env) fp) elt te) (hs : ∀ x, foldedSetIterable iter X.env x = pure x := by intro _; rfl) (hs1 : ∀ env x, foldedSetIterable iter1 env x = pure x := by intro _ _; rfl) :
    PDS X (.Assign [.Name y py] (.ListComp elt [⟨tg, iter, ifs, 0⟩, ⟨tg1, iter1, ifs1, 0⟩] scope pos) spos) (xAsg (dLc2 src (own.map (·.2)) dg tt src1 vs1 dg1 tt1 te) (gV i)) :=
  psM (ps_setLc2 (wi1 := lfI X.kf src1) (tt := lfB X.kf tt) (tt1 := lfB X.kf tt1) (te := lf X.kf te) hc hN hy hyl hsw hi ok hv hg ht hi1 hg1 ht1 he hs hs1) fun _ _ _ h => lc2_frz gc gc1 (lfAsg (vs := [i]) (gc_name (by simp)) h)
end
end
end Mn

set_option Elab.async false
set_option linter.all false
set_option maxRecDepth 100000
set_option maxHeartbeats 4000000
set_option autoImplicit false
namespace Mn
open PySem PySem.Spec PyProof.Rows L2
variable [Tbs]
/-! x in y -/
section
variable {X : Cx} {K : KF}
end
/-! tuple(d.values()) -/
section
variable {prog : Program} {w : World} {A : Around} {E : Value → Shared → Prop} {s : Shared} {T : String} {r d : Addr} {n : Nat} {P : Nat → Value → Prop} {OK : Heap → Prop}
theorem collect_src {Q : List Value → Shared → Prop} (K : PySem.W.KdlSrc prog w T r d n P OK) (hh : A.handled = none) (hok : OK s.heap) (hn : n ≤ sizeLine)
    (hQ : ∀ (h' : Heap) (tk : Nat) (acc : Array Value), (∀ b o, s.heap.get? b = some o → h'.get? b = some o) → ItemsOf P acc n → Q acc.toList { s with heap := h', toks := tk }) :
    wpAny (model prog w) A (collect (.ref r)) Q E s := by
  unfold collect
  refine wpAny_bind (wpAny_runValue (codeAny_builtin F.entry_proto_collect ?_))
  rw [Around.under_plainId F.plain_proto_collect _]
  show wpAny _ A.in1 (newList [] >>= fun l => again (.builtin "list.__iadd__" ⟨[l, .ref r], []⟩)) _ _ s
  refine wpAny_bind (wpAny_newObj_type ?_)
  refine wpAny_pure ⟨plainId_quiet F.plain_list_iadd _, codeAny_builtin F.entry_list_iadd ?_⟩
  rw [Around.under_plainId F.plain_list_iadd _]
  show wpAny _ A.in1 (Builtin.List.listExtendWith (.ref s.heap.objs.size) (.ref r) (.ref s.heap.objs.size)) _ _ _
  have hS : (s.heap.push { cls := .type "list", data := .seq ([] : List Value).toArray }).get? s.heap.objs.size = some { cls := .type "list", data := .seq #[] 0 } := Heap.get?_push_size _ rfl
  have hlt := K.there _ hok
  refine wpAny_mono (PySem.W.kdl_extend (A := A) (R := fun rr s' => rr = .ok (.ret (.ref s.heap.objs.size)) ∧ ∃ (h' : Heap) (tk : Nat) (acc : Array Value) (c' : Nat), s' = { s with heap := h', toks := tk } ∧
      (∀ b o, s.heap.get? b = some o → h'.get? b = some o) ∧ h'.get? s.heap.objs.size = some { cls := .type "list", dict := none, data := .seq acc c', slots := #[] } ∧ ItemsOf P acc n)
    (s := { s with heap := s.heap.push { cls := .type "list", data := .seq ([] : List Value).toArray } }) K hh (K.keep _ _ hok fun b _ o e => Heap.get?_push_of_some _ e) s.heap.objs.size (Nat.ne_of_gt hlt.1) (Nat.ne_of_gt hlt.2) _ 0 hS
    (fun h' tk acc c' hk e hi => ⟨rfl, h', tk, acc, c', rfl, fun b o q => hk b o (Nat.ne_of_lt (Heap.lt_size q)) (Heap.get?_push_of_some _ q), e, hi⟩) hn) (fun fin s' h => ?_) (fun e s' h => ?_)
  · cases fin with
    | done f =>
      obtain ⟨e, h', tk, acc, c', rfl, hk, hS', hi⟩ := h
      cases e
      show wpAny _ A (load s.heap.objs.size >>= _) _ _ _
      exact wpAny_bind (wpAny_load hS' (wpAny_pure (hQ h' tk acc hk hi)))
    | again c' =>
      refine ⟨h.1, codeAny_mono h.2 fun rr s'' hr' => ?_⟩
      obtain ⟨rfl, h', tk, acc, c', rfl, hk, hS', hi⟩ := hr'
      show wpAny _ A (load s.heap.objs.size >>= _) _ _ _
      exact wpAny_bind (wpAny_load hS' (wpAny_pure (hQ h' tk acc hk hi)))
  · exact absurd h.1 (by simp)
theorem code_tuple_new_src {Q₁ : Value → Shared → Prop} (K : PySem.W.KdlSrc prog w T r d n P OK) (hh : A.handled = none) (hok : OK s.heap) (hn : n ≤ sizeLine)
    (h : ∀ (h' : Heap) (tk : Nat) (acc : Array Value), (∀ b o, s.heap.get? b = some o → h'.get? b = some o) → ItemsOf P acc n →
      Q₁ (.ref h'.objs.size) { s with heap := h'.push { cls := .type "tuple", data := .seq acc }, toks := tk }) :
    codeAny (model prog w) A (.call (.builtin "tuple.__new__") ⟨[.type "tuple", .ref r], []⟩) (wants Q₁ E) s := by
  refine codeAny_of_tree ?_
  show wpAny _ A.in1 (do checkBuiltinCall "tuple.__new__" ⟨[.type "tuple", .ref r], []⟩; again (.builtin "tuple.__new__" ⟨[.type "tuple", .ref r], []⟩)) _ _ s
  refine wpAny_bind (wpAny_of_eq (F.newCall_tuple_1 _) (wpAny_pure ⟨plainId_quiet F.plain_tuple_new _, codeAny_builtin F.entry_tuple_new ?_⟩))
  rw [Around.under_plainId F.plain_tuple_new _]
  have hsub := sub_tuple_self
  have hinit := init_tuple_lookup
  have hmh := madeHere_tuple
  have hTI : s.TypeIs (.ref r) T := K.type s hok
  have hnt := K.notTuple
  have hh1 : A.in1.handled = none := hh
  wp_walk using wpAny_typeOf hTI, collect_src (A := A.in1) K hh1 hok hn
  intro h' tk acc hk hacc
  show wpAny _ _ (Builtin.Tuple.tupleExact acc.toList.toArray >>= fun v => ret v) _ _ _
  unfold Builtin.Tuple.tupleExact
  refine wpAny_bind (wpAny_newObj_type ?_ (by show acc.toList.toArray.size ≤ sizeLine; simp only [Array.toArray_toList]; rw [hacc.1]; exact hn))
  refine wpAny_pure ?_
  have e : acc.toList.toArray = acc := by simp
  rw [e]
  exact h h' tk acc hk hacc
theorem call_tuple_src {Q : Value → Shared → Prop} (K : PySem.W.KdlSrc prog w T r d n P OK) (hh : A.handled = none) (hok : OK s.heap) (hn : n ≤ sizeLine)
    (hQ : ∀ (h' : Heap) (tk : Nat) (acc : Array Value), (∀ b o, s.heap.get? b = some o → h'.get? b = some o) → ItemsOf P acc n →
      Q (.ref h'.objs.size) { s with heap := h'.push { cls := .type "tuple", data := .seq acc }, toks := tk }) :
    wpAny (model prog w) A (call (.type "tuple") [.ref r]) Q E s := by
  refine callType_codes (Q₁ := fun obj s₁ => s₁.TypeIs obj "tuple" ∧ Q obj s₁) F.called_tuple (F.typeCall_tuple_1 _) F.entry_object_init
    (code_tuple_new_src (A := A.in1) K hh hok hn fun h' tk acc hk hacc => ⟨⟨_, Heap.get?_push_size _ rfl, rfl⟩, hQ h' tk acc hk hacc⟩) fun obj s₁ h₁ => ?_
  exact ⟨h₁.1, F.args_object_init_2 obj _, object_init_meets F.called_tuple.init.lookup F.called_tuple.made (by decide) prog w A.in1 _ s₁ ⟨h₁.1, rfl, h₁.2⟩⟩
end
section
variable {X : Cx} {o : Expr} {to : DT} {pos p apos cpos : Pos}
theorem pairX_vals : ∀ {xs : Row3} {vs : List (NestedKey × Addr × Value)}, PairX xs vs → Vals (xs.map (·.2.2)) (vs.map (·.2.2))
  | _, _, .nil => .nil
  | _, _, .cons h r => .cons h.2.2 (pairX_vals r)
/-- tuple(d.values()) -/
def tVals (wd : World) (to : TE) : TE := fun σ H Q => to σ H fun x H1 => ∃ a xs, x = .ref a ∧ DN wd H1 a xs ∧ NewT H1 (xs.map (·.2.2)) Q
theorem pe_tupVals {to : TE} (hc : X.calm = true) (hg : Gl X "tuple") (hm : X.mg "tuple" = none) (ho : PE X o to)
    (na : starEach [.Call (.Attribute o "values" apos) [] [] cpos] X.env = (false, eval (.Call (.Attribute o "values" apos) [] [] cpos) X.env) :: starEach [] X.env := by rfl)
    (hbase : attributeBase o "values" X.env (eval o X.env) = eval o X.env := by rfl) (hline : (apos.endLine == cpos.line) = true := by rfl) :
    PE X (.Call (.Name "tuple" p) [.Call (.Attribute o "values" apos) [] [] cpos] [] pos) (tVals X.w to) := by
  refine ⟨fun pins s σ H Q I h => ?_⟩
  refine Call_ (ld_blt I hg hm boot_tuple (PyProof.Rows.callWith_type1 (PyProof.Rows.args_cons ?_ na) na))
  refine wpAny_Call_method (T := "dict") (id := "dict.values") hbase rfl hline F.plainAttrs_dict F.slot_dict_values F.type_dict_values (thn (ho.run pins s σ H _ I h) fun u s1 ⟨x, H1, I1, rx, d, xs, ex, dn, q⟩ => ?_)
  subst ex
  obtain rfl : u = Value.ref d := rx
  obtain ⟨vs, rp, dd⟩ := dn.dict I1
  obtain ⟨ob, es, ep, hob, hex, hdt, hes, hk8, hnd⟩ := id dd
  have hraw : s1.heap.DictRaw d es ep := ⟨ob, hob, hex, hdt⟩
  refine ⟨dd.typeIs, fun b eb => by cases eb; exact ⟨ob, hob, hex.2.1⟩, ?_⟩
  have hsz : es.size = vs.length := by rw [← Array.length_toList, hes, List.length_map]
  show wpAny _ _ (callWith cpos (.builtin "dict.values") [.ref d] [] []) _ X.xe s1
  refine method_meetsIn F.slot_dict_values F.entry_dict_values rfl (PySem.evalArgs_none ⟨rfl, dd.typeIs, F.args_dict_values_1 _, _, meets_dict_values_raw d dn.ns, ⟨es, ep, hraw⟩, ?_⟩)
  refine PyProof.Rows.args_nil ?_
  have I2 : Inv X pins σ H1 { s1 with heap := s1.heap.push { cls := .type "dict_values", data := .fields #[.ref d] } } := I1.kept (t' := s1.toks) fun b ob q => Heap.get?_push_of_some _ q
  refine call_tuple_src (PySem.KdlSrc.rawValues (r := s1.heap.objs.size) (d := d) (es := es) (ep := ep)) (I1.ok.hd hc) ⟨⟨_, Heap.get?_push_size _ rfl, rfl, rfl⟩, hraw.at fun o e => Heap.get?_push_of_some _ e⟩ (by rw [hsz, ← pairX_len rp]; exact dn.sz) fun h' tk acc hk hacc => ?_
  have I3 : Inv X pins σ H1 { s1 with heap := h', toks := tk } := I2.kept hk
  have hav : acc.toList = vs.map (·.2.2) := by
    apply List.ext_getElem?
    intro i
    by_cases hi : i < es.size
    · have ha : i < acc.size := by rw [hacc.1]; exact hi
      obtain ⟨hi', e1⟩ := hacc.2 i acc[i] (Array.getElem?_eq_getElem ha)
      have e2 : es.toList[i]? = some es[i] := by rw [Array.getElem?_toList]; exact Array.getElem?_eq_getElem hi
      rw [hes, List.getElem?_map] at e2
      obtain ⟨v0, hv0, ev0⟩ := Option.map_eq_some_iff.mp e2
      rw [List.getElem?_map, hv0, Array.getElem?_toList, Array.getElem?_eq_getElem ha, e1, ← ev0]
      rfl
    · rw [List.getElem?_eq_none (by rw [Array.length_toList, hacc.1]; omega), List.getElem?_eq_none (by rw [List.length_map]; omega)]
  have hvs : Vals (xs.map (·.2.2)) acc.toList := by rw [hav]; exact pairX_vals rp
  refine ⟨.ref h'.objs.size, _, I3.laid (t' := tk) (o := .frz { cls := .type "tuple", data := .seq acc } (.tup (xs.map (·.2.2)))) (fun c o e => Heap.get?_push_of_some _ e) (Nat.le_refl _) ?_, rfl, q _ _ rfl (I3.hok.fresh (Nat.le_refl _))⟩
  refine ⟨Heap.get?_push_size _ rfl, by rw [List.length_map]; exact dn.sz, acc.toList, hvs, ?_⟩
  rw [Array.toArray_toList]
  exact IsTup.new _ _
def dTupVals (to : DT) : DT := fun r m Q => to r m fun o m1 => ∃ p kvs, o = .ref p ∧ m1 p = some (.dN kvs) ∧ Q (.tup (kvs.map (·.2))) m1
theorem pd_tupVals (hc : X.calm = true) (hg : Gl X "tuple") (hm : X.mg "tuple" = none) (ho : PD X o to)
    (na : starEach [.Call (.Attribute o "values" apos) [] [] cpos] X.env = (false, eval (.Call (.Attribute o "values" apos) [] [] cpos) X.env) :: starEach [] X.env := by rfl)
    (hbase : attributeBase o "values" X.env (eval o X.env) = eval o X.env := by rfl) (hline : (apos.endLine == cpos.line) = true := by rfl) :
    PD X (.Call (.Name "tuple" p) [.Call (.Attribute o "values" apos) [] [] cpos] [] pos) (dTupVals to) := by
  refine peM (pe_tupVals hc hg hm ho na hbase hline) fun s H Q ⟨G, ro, m, Qd, hs, hr, q, w⟩ => ?_
  refine ⟨G, ro, m, _, hs, hr, q, fun v H1 G1 m1 d s1 r1 h1 ⟨p, kvs, e1, e2, q1⟩ => ?_⟩
  subst e1
  cases h1
  obtain ⟨xs, dn, ek, rv, _, z, _⟩ := r1.dn e2
  exact ⟨p, xs, rfl, dn, Rl.newTup (w.after s1) r1 rv (by rw [List.length_map]; exact z) q1⟩
end
end Mn

set_option Elab.async false
set_option linter.all false
set_option maxRecDepth 100000
set_option maxHeartbeats 4000000
set_option autoImplicit false
namespace Mn
open PySem PySem.Spec PyProof.Rows L2
variable [Tbs]
/-! loops and comprehensions over data that is given by a list -/
section
variable {α σ : Type} {g : DG} {tb : DS} {De : DE} {tt : DB} {te : DT} {r : Ro} {m : Mu} {enc : α → D}
/-- a loop as a fold over what its state stands for -/
theorem forGo_fold (f : σ → α → σ) (I : σ → Ro → Mu → Prop) : ∀ (xs : List α) (s : σ) (r : Ro) (m : Mu), I s r m →
    (∀ (s : σ) (x : α) (r : Ro) (m : Mu) (P : Ro → Mu → Prop), x ∈ xs → I s r m → (∀ r' m', I (f s x) r' m' → P r' m') → g (enc x) r fun r1 => tb { De with nx := P, ct := P, bk := De.nx } r1 m) →
    (∀ r m, I (xs.foldl f s) r m → De.nx r m) → forGo g tb De (xs.map enc) r m
  | [], s, r, m, h0, _, hd => hd r m h0
  | x :: xs, s, r, m, h0, hs, hd =>
    hs s x r m (forGo g tb De (xs.map enc)) List.mem_cons_self h0 fun r' m' h1 => forGo_fold f I xs (f s x) r' m' h1 (fun s y r m P hy => hs s y r m P (List.mem_cons_of_mem _ hy)) hd
/-- a loop that may end early: the state behind the items that were taken -/
theorem forGo_take (I : List α → Ro → Mu → Prop) (xs : List α) : ∀ (pre post : List α) (r : Ro) (m : Mu), xs = pre ++ post → I pre r m →
    (∀ (pre : List α) (x : α) (post : List α) (r : Ro) (m : Mu) (P : Ro → Mu → Prop), xs = pre ++ x :: post → I pre r m → (∀ r' m', I (pre ++ [x]) r' m' → P r' m') → g (enc x) r fun r1 => tb { De with nx := P, ct := P, bk := De.nx } r1 m) →
    (∀ r m, I xs r m → De.nx r m) → forGo g tb De (post.map enc) r m
  | pre, [], r, m, e, h0, _, hd => hd r m (by rw [e, List.append_nil]; exact h0)
  | pre, x :: post, r, m, e, h0, hs, hd =>
    hs pre x post r m (forGo g tb De (post.map enc)) e h0 fun r' m' h1 => forGo_take I xs (pre ++ [x]) post r' m' (by rw [e, List.append_assoc]; rfl) h1 hs hd
/-- a comprehension whose parts change nothing -/
theorem lcGo_maps (f : α → D) : ∀ (xs : List α) (acc : List D) (Q : List D → Mu → Prop), (∀ x ∈ xs, ∀ K : DK, K (f x) m → g (enc x) r fun r1 => te r1 m K) → Q (acc ++ xs.map f) m → lcGo g dYes te r (xs.map enc) acc m Q
  | [], acc, Q, _, h => by rw [List.map_nil, List.append_nil] at h; exact h
  | x :: xs, acc, Q, hf, h => by
    rw [List.map_cons]
    show g (enc x) r fun r1 => te r1 m fun y m2 => lcGo g dYes te r (xs.map enc) (acc ++ [y]) m2 Q
    refine hf x List.mem_cons_self _ (lcGo_maps f xs (acc ++ [f x]) Q (fun e he => hf e (List.mem_cons_of_mem _ he)) ?_)
    rw [List.append_assoc]
    exact h
/-- .. with a test -/
theorem lcGo_filt (p : α → Bool) (f : α → D) : ∀ (xs : List α) (acc : List D) (Q : List D → Mu → Prop), (∀ x ∈ xs, ∀ (A : DK) (B : Mu → Prop), (if p x = true then A (f x) m else B m) → g (enc x) r fun r1 => tt r1 m fun z m1 => if z = true then te r1 m1 A else B m1) →
    Q (acc ++ (xs.filter p).map f) m → lcGo g tt te r (xs.map enc) acc m Q
  | [], acc, Q, _, h => by rw [List.filter_nil, List.map_nil, List.append_nil] at h; exact h
  | x :: xs, acc, Q, hf, h => by
    rw [List.map_cons]
    refine hf x List.mem_cons_self (fun y m2 => lcGo g tt te r (xs.map enc) (acc ++ [y]) m2 Q) (fun m2 => lcGo g tt te r (xs.map enc) acc m2 Q) ?_
    by_cases hp : p x = true
    · rw [if_pos hp]
      rw [List.filter_cons_of_pos hp, List.map_cons] at h
      refine lcGo_filt p f xs (acc ++ [f x]) Q (fun e he => hf e (List.mem_cons_of_mem _ he)) ?_
      rw [List.append_assoc]
      exact h
    · rw [if_neg hp]
      rw [List.filter_cons_of_neg hp] at h
      exact lcGo_filt p f xs acc Q (fun e he => hf e (List.mem_cons_of_mem _ he)) h
theorem lcIn_filt {β : Type} {enc1 : β → D} (p : β → Bool) (f : β → D) : ∀ (ys : List β) (acc : List D) (Q : List D → Mu → Prop), acc.length + (ys.filter p).length ≤ sizeLine → (∀ y ∈ ys, ∀ (A : DK) (B : Mu → Prop), (if p y = true then A (f y) m else B m) → g (enc1 y) r fun r1 => tt r1 m fun z m1 => if z = true then te r1 m1 A else B m1) →
    Q (acc ++ (ys.filter p).map f) m → lcIn g tt te r (ys.map enc1) acc m Q
  | [], acc, Q, _, _, h => by rw [List.filter_nil, List.map_nil, List.append_nil] at h; exact h
  | y :: ys, acc, Q, hl, hf, h => by
    rw [List.map_cons]
    refine hf y List.mem_cons_self (fun z m2 => acc.length < sizeLine ∧ lcIn g tt te r (ys.map enc1) (acc ++ [z]) m2 Q) (fun m2 => lcIn g tt te r (ys.map enc1) acc m2 Q) ?_
    by_cases hp : p y = true
    · rw [if_pos hp]
      rw [List.filter_cons_of_pos hp, List.map_cons] at h
      rw [List.filter_cons_of_pos hp, List.length_cons] at hl
      refine ⟨by omega, lcIn_filt p f ys (acc ++ [f y]) Q (by rw [List.length_append, List.length_singleton]; omega) (fun e he => hf e (List.mem_cons_of_mem _ he)) ?_⟩
      rw [List.append_assoc]
      exact h
    · rw [if_neg hp]
      rw [List.filter_cons_of_neg hp] at h hl
      exact lcIn_filt p f ys acc Q hl (fun e he => hf e (List.mem_cons_of_mem _ he)) h
theorem lcGo2_maps {β : Type} {enc1 : β → D} {src1 : DI} {vs1 : List Nat} {g1 : DG} {tt1 : DB} (ys : α → List β) (f : α → β → D) (p : α → β → Bool) : ∀ (xs : List α) (acc : List D) (Q : List D → Mu → Prop), acc.length + (xs.flatMap fun x => (ys x).filter (p x)).length ≤ sizeLine →
    (∀ x ∈ xs, ∀ R : Ro → Prop, (∀ r1, (∀ (P : List D → Mu → Prop), P ((ys x).map enc1) m → src1 r1 m P) → (∀ y ∈ ys x, ∀ (A : DK) (B : Mu → Prop), (if p x y = true then A (f x y) m else B m) → g1 (enc1 y) (wipeD r1 vs1) fun r2 => tt1 r2 m fun z m1 => if z = true then te r2 m1 A else B m1) → R r1) → g (enc x) r R) →
    Q (acc ++ (xs.flatMap fun x => ((ys x).filter (p x)).map (f x))) m → lcGo2 g dYes src1 vs1 g1 tt1 te r (xs.map enc) acc m Q
  | [], acc, Q, _, _, h => by rw [List.flatMap_nil, List.append_nil] at h; exact h
  | x :: xs, acc, Q, hl, hf, h => by
    rw [List.flatMap_cons, List.length_append] at hl
    rw [List.flatMap_cons] at h
    rw [List.map_cons]
    show g (enc x) r fun r1 => src1 r1 m fun items m2 => lcIn g1 tt1 te (wipeD r1 vs1) items acc m2 fun acc' m3 => lcGo2 g dYes src1 vs1 g1 tt1 te r (xs.map enc) acc' m3 Q
    refine hf x List.mem_cons_self _ fun r1 h1 h2 => h1 _ (lcIn_filt (p x) (f x) (ys x) acc _ (by omega) h2 ?_)
    refine lcGo2_maps ys f p xs _ Q ?_ (fun e he => hf e (List.mem_cons_of_mem _ he)) ?_
    · rw [List.length_append, List.length_map]; omega
    · rw [List.append_assoc]; exact h
end
/-! readings at known data -/
theorem aSl_tup {ds : List D} {l h : Option Int} {m : Mu} {Q : DK} : aSl (.tup ds) l h m Q ↔ Q (.tup (cutD ds l h)) m := Iff.rfl
theorem aSl_lst {ds : List D} {l h : Option Int} {m : Mu} {Q : DK} : aSl (.lst ds) l h m Q ↔ Q (.lst (cutD ds l h)) m := Iff.rfl
theorem sqf_tup {ds : List D} {m : Mu} : seqOf (.tup ds) m = some ds := rfl
theorem sqf_lst {ds : List D} {m : Mu} : seqOf (.lst ds) m = some ds := rfl
theorem sqf_pair {ds : List D} {m : Mu} : seqOf (.pair ds) m = some ds := rfl
/-! what is walked, as a list -/
theorem zip2_map {α β : Type} {ea : α → D} {eb : β → D} : ∀ (as : List α) (bs : List β), zip2 (as.map ea) (bs.map eb) = (as.zip bs).map fun p => D.pair [ea p.1, eb p.2]
  | [], _ => by simp [zip2]
  | _ :: _, [] => by simp [zip2]
  | a :: as, b :: bs => by
    have ih := zip2_map (ea := ea) (eb := eb) as bs
    unfold zip2 at ih ⊢
    rw [List.map_cons, List.map_cons, List.zipWith_cons_cons, ih, List.zip_cons_cons, List.map_cons]
theorem enumD_map {α : Type} {e : α → D} : ∀ (xs : List α) (k : Nat), enumD k (xs.map e) = (xs.zipIdx k).map fun p => D.pair [.int (p.2 : Nat), e p.1]
  | [], _ => rfl
  | x :: xs, k => by
    rw [List.map_cons, enumD, enumD_map xs (k + 1), List.zipIdx_cons, List.map_cons]
theorem rgD_map (k : Nat) : rgD 0 k = (List.range k).map fun i : Nat => D.int i := by
  unfold rgD
  rw [show ((k : Int) - 0).toNat = k by omega]
  simp only [Int.zero_add]
end Mn

set_option Elab.async false
set_option linter.all false
set_option maxRecDepth 100000
set_option maxHeartbeats 4000000
set_option autoImplicit false
namespace Mn
open PySem PySem.Spec PyProof.Rows L2
variable [Tbs]
/-! ahead of a statement: a mutable list of a register, from here on not changed -/
def xFrz (i : Nat) (t : DS) : DS := fun De r m => ∃ p ds, r[i]? = some (some (.ref p)) ∧ m p = some (.lst ds) ∧ t De (r.set i (some (.lst ds))) (er m p)
section
variable {X : Cx} {st : Stmt} {sts : List Stmt} {t : DS}
/-- a, b, c = x, y, z -/
def xPar3 (i j l : Nat) (ta : DA) : DS := fun De r m => ta r m fun ds m1 => ∃ d e f, ds = [d, e, f] ∧ De.nx (((r.set i (some d)).set j (some e)).set l (some f)) m1
theorem pds_par3 {i j l : Nat} {x y z : Str} {a b c : Expr} {ta : DA} {px py pz pt pos : Pos} {kt k2 pt2} (hc : X.calm = true) (hN : X.N.Nodup) (hi : X.N[i]? = some x) (hj : X.N[j]? = some y) (hl : X.N[l]? = some z) (hij : i ≠ j) (hil : i ≠ l) (hjl : j ≠ l)
    (hx : X.env.scope.names.lookup x = some .local) (hy : X.env.scope.names.lookup y = some .local) (hz : X.env.scope.names.lookup z = some .local) (ha : PDA X [a, b, c] ta)
    (hw : swappedStores [.Tuple [.Name x px, .Name y py, .Name z pz] kt pt] (.Tuple [a, b, c] k2 pt2) X.env = pure (some [x, y, z]))
    (hs : swapsWithSole [.Tuple [.Name x px, .Name y py, .Name z pz] kt pt] (.Tuple [a, b, c] k2 pt2) pos.line X.env = pure false := by rfl) :
    PDS X (.Assign [.Tuple [.Name x px, .Name y py, .Name z pz] kt pt] (.Tuple [a, b, c] k2 pt2) pos) (xPar3 i j l ta) := by
  refine psM (ps_par3 hc hN hi hj hl hij hil hjl hx hy hz ha hw hs) fun E s H ⟨G, r, m, De, hs, hr, q, w⟩ => ?_
  refine ⟨G, r, m, _, hs, hr, q, fun vs H1 G1 m1 ds s1 r1 h1 ⟨d, e, f, ed, q1⟩ => ?_⟩
  subst ed
  cases h1 with
  | cons ra rb =>
    obtain ⟨v, u, ev, rv, ru⟩ := rb.two
    subst ev
    exact ⟨_, v, u, rfl, w.nx _ _ _ _ _ s1 ((((hs.same s1.g).set ra i).set rv j).set ru l) r1 q1⟩
/-! xs.count(k) of a list of whole numbers -/
def dCountL (to te : DT) : DT := fun r m Q => to r m fun o m1 => (lst1 o m1).isSome = true ∧ te r m1 fun d m2 => ∃ (ns : List Int) (k : Int), lst1 o m2 = some (ns.map D.int) ∧ d = .int k ∧ Q (.int (ns.count k : Nat)) m2
end
end Mn

set_option Elab.async false
set_option linter.all false
set_option maxRecDepth 100000
set_option maxHeartbeats 4000000
set_option autoImplicit false
namespace Mn
open PySem PySem.Spec PyProof.Rows L2
variable [Tbs]
/-! zip over any number of lists and tuples, to any target -/
section
variable {prog : Program} {w : World} {A : Around} {E : Value → Shared → Prop}
structure Src where
  k : Bool
  it : Addr
  a : Addr
  items : Array Value
def Src.ok (d : Src) (h : Heap) (i : Nat) : Prop := ItAt d.k h d.it d.a i ∧ IsB d.k h d.a d.items
def IsZ (h : Heap) (z TI TO : Addr) (f0 : Value) (f : Bool) : Prop := h.get? z = some { cls := .type "zip", dict := none, data := .fields #[f0, .bool f, .bool false, .ref TI, .ref TO], slots := #[] }
def IsT (h : Heap) (T : Addr) (arr : Array Value) : Prop := h.get? T = some { cls := .type "tuple", data := .seq arr }
def Own0 (f0 : Value) : Prop := f0 = .none ∨ ∃ T : Addr, f0 = rawInt T
structure Apart (z TI TO : Addr) (ds : List Src) : Prop where
  zI : z ≠ TI
  zO : z ≠ TO
  IO : TI ≠ TO
  it : ∀ d ∈ ds, d.it ≠ z ∧ d.it ≠ TI ∧ d.it ≠ TO ∧ d.a ≠ z ∧ d.a ≠ TO ∧ ∀ e ∈ ds, d.a ≠ e.it
  nd : ds.Pairwise fun d e => d.it ≠ e.it
theorem Src.ok.at {d : Src} {h h' : Heap} {i : Nat} (x : d.ok h i) (q : ∀ c o, c = d.it ∨ c = d.a → h.get? c = some o → h'.get? c = some o) : d.ok h' i := by
  refine ⟨x.1.at fun o e => q _ o (.inl rfl) e, ?_⟩
  have h2 := x.2
  unfold IsB at h2 ⊢
  cases hk : d.k with
  | true => rw [hk] at h2; exact Heap.IsList.at (show h.IsList d.a d.items from h2) fun o e => q _ o (.inr rfl) e
  | false => rw [hk] at h2; exact Heap.IsTuple.at (show h.IsTuple d.a d.items from h2) fun o e => q _ o (.inr rfl) e
theorem Src.ok.over {d : Src} {h h' : Heap} {i : Nat} {x : Addr} (k : d.ok h i) (hs : Heap.SameBut x h h') (h1 : d.it ≠ x) (h2 : d.a ≠ x) : d.ok h' i :=
  k.at fun c o hc e => hs.extBut _ _ (by rcases hc with rfl | rfl <;> assumption) e
def Kept (z TO : Addr) (ds : List Src) (h h' : Heap) : Prop := ∀ c o, c ≠ z → c ≠ TO → (∀ e ∈ ds, c ≠ e.it) → h.get? c = some o → h'.get? c = some o
/-- what a step of zip leaves -/
structure ZnOut (z TI TO : Addr) (ds : List Src) (i : Nat) (h h' : Heap) (T : Addr) : Prop where
  lt : ∀ d ∈ ds, i < d.items.size
  zip : ∃ f0 f, IsZ h' z TI TO f0 f ∧ Own0 f0
  to : ∃ arr : Array Value, IsT h' TO arr ∧ arr.size = ds.length
  ok : ∀ d ∈ ds, d.ok h' (i + 1)
  tup : ∃ vs : List Value, vs.length = ds.length ∧ (∀ (j : Nat) (d : Src), ds[j]? = some d → vs[j]? = d.items[i]?) ∧ IsT h' T vs.toArray
  new : h.objs.size ≤ T
  kept : Kept z TO ds h h'
end
end Mn

set_option Elab.async false
set_option linter.all false
set_option maxRecDepth 100000
set_option maxHeartbeats 4000000
set_option autoImplicit false
namespace Mn
open PySem PySem.Spec PyProof.Rows L2
variable [Tbs]
/-! the turns of a zip of any number -/
def withIt (f : Src → Array Value) (c : Src) : Src := { c with items := f c }
theorem Apart.with {z TI TO : Addr} {cs : List Src} (ap : Apart z TI TO cs) (f : Src → Array Value) : Apart z TI TO (cs.map (withIt f)) where
  zI := ap.zI
  zO := ap.zO
  IO := ap.IO
  it := fun d hd => by
    obtain ⟨c, hc, rfl⟩ := List.mem_map.mp hd
    have q := ap.it c hc
    exact ⟨q.1, q.2.1, q.2.2.1, q.2.2.2.1, q.2.2.2.2.1, fun e he => by obtain ⟨c', hc', rfl⟩ := List.mem_map.mp he; exact q.2.2.2.2.2 c' hc'⟩
  nd := by rw [List.pairwise_map]; exact ap.nd
end Mn

set_option Elab.async false
set_option linter.all false
set_option maxRecDepth 100000
set_option maxHeartbeats 4000000
set_option autoImplicit false
namespace Mn
open PySem PySem.Spec PyProof.Rows L2
variable [Tbs]
theorem nn {n i j : Nat} (h : i ≠ j) : n + i ≠ n + j := by omega
theorem n0 {n i : Nat} (h : i ≠ 0) : n ≠ n + i := by omega
/-! zip of two, to any target -/
section
variable {K : KF}
end
section
variable {X : Cx} {tg e e2 : Expr} {t u : DT} {p pos : Pos}
end
end Mn

set_option Elab.async false
set_option linter.all false
set_option maxRecDepth 100000
set_option maxHeartbeats 4000000
set_option autoImplicit false
namespace Mn
open PySem PySem.Spec PyProof.Rows L2
variable [Tbs]
/-! zip of four -/
end Mn

set_option Elab.async false
set_option linter.all false
set_option maxRecDepth 100000
set_option maxHeartbeats 4000000
set_option autoImplicit false
namespace Mn
open PySem PySem.Spec PyProof.Rows L2
variable [Tbs]
def zip4 : List D → List D → List D → List D → List D
  | x :: xs, y :: ys, z :: zs, w :: ws => .pair [x, y, z, w] :: zip4 xs ys zs ws
  | _, _, _, _ => []
def sZip4 (t u v x : DT) : DI := fun r m Q => t r m fun d m1 => u r m1 fun e m2 => v r m2 fun f m3 => x r m3 fun g m4 => ∃ xs ys zs ws, seqI d = some xs ∧ seqI e = some ys ∧ seqI f = some zs ∧ seqI g = some ws ∧ Q (zip4 xs ys zs ws) m4
section
variable {K : KF}
end
section
variable {X : Cx} {tg e e2 e3 e4 : Expr} {t u v x : DT} {p pos : Pos}
end
end Mn

set_option linter.all false
set_option maxHeartbeats 4000000
set_option autoImplicit false
set_option maxRecDepth 100000
namespace Mn
open PySem L2
variable [Tbs]
local macro_rules | `(tactic| walk_at "d") => `(tactic| (try simp only [xNext, xSeq, xAsg, xRet, xRetF, xDrop, xIf, xPar, xPar3, xFrz, xPut, xAug, xFor, dVar, dC, dOp, dTest, dChain, dAndV, dOrV, dNotV, dAnd, dOr, dNot, dIf, dNil, dCons, dTup, dLst, dLstM, dCB, dIsi, dLc, dLcM, dYes, wipeD, dSlice, oSome, oNone, aSl_tup, aSl_lst, dNeg, dStar, dNewD, dTupVals, dCountL, dExtend, dAppend, dFrz, dLc2, dCountT, dIndexT, sqf_tup, sqf_lst, sqf_pair, sSeq, sSeq_tup, sSeq_lst, sRg1, sRg2, sZip2, sZip3, sZip4, sEnum, gV, gN, gC, gT, tupOf_tup, tupOf_pair, aAdd_int, aAdd_tup, aAdd_lst, aSub_int, aMul_int, aDiv_int, aMod_int, aPow_int, aCmp_int, aIx_tup, aIx_lst, aIx_scr, aIx_pair, aMax_int, aMin_int, aInt_bl, aInt_int, aLen_tup, aLen_lst, aLen_scr, aLen_pair, aTuple_lst, aTuple_tup, aEq_int, aNe_int, startD, List.map_cons, List.map_nil, List.length_cons, List.length_nil, List.cons_append, List.nil_append, List.replicate_zero, List.replicate_succ, List.append_nil, List.getElem?_cons_zero, List.getElem?_cons_succ, List.set_cons_zero, List.set_cons_succ, Option.some.injEq, exists_eq_left', exists_eq_left, exists_eq', D.int.injEq, D.bl.injEq, D.tup.injEq, D.lst.injEq, D.pair.injEq, D.ref.injEq, List.cons.injEq, Nat.sub_self, Nat.zero_add, Nat.add_sub_cancel, seqI_tup, seqI_lst, seqOf_tup, seqOf_lst, tyN_tup, tyN_lst, tyN_int, tyN_bl, tyN_str, tyN_non, isi_tt, at_0, at_1, at_2, at_3, Option.map_some, true_and, and_true, if_true, Bool.false_eq_true, if_false, Bool.not_true, Bool.not_false, ↓reduceIte, Nat.reduceAdd, Nat.reduceSub, exists_and_left, and_assoc]))
/-! attributes, in plain data -/
def maxN (l : List Nat) : Nat := l.foldl max 0
theorem le_maxN {l : List Nat} : ∀ {x : Nat}, x ∈ l → x ≤ maxN l := by
  have key : ∀ (l : List Nat) (a : Nat), a ≤ l.foldl max a ∧ ∀ x ∈ l, x ≤ l.foldl max a := by
    intro l
    induction l with
    | nil => intro a; exact ⟨Nat.le_refl _, fun _ h => nomatch h⟩
    | cons y l ih =>
      intro a
      have := ih (max a y)
      simp only [List.foldl_cons]
      refine ⟨by omega, fun x hx => ?_⟩
      rcases List.mem_cons.mp hx with rfl | hx
      · omega
      · exact this.2 x hx
  intro x hx
  exact (key l 0).2 x hx
theorem maxN_le {b : Nat} : ∀ {l : List Nat}, (∀ x ∈ l, x ≤ b) → maxN l ≤ b := by
  have key : ∀ (l : List Nat) (a : Nat), a ≤ b → (∀ x ∈ l, x ≤ b) → l.foldl max a ≤ b := by
    intro l
    induction l with
    | nil => intro a h _; exact h
    | cons y l ih =>
      intro a h hl
      exact ih (max a y) (by have := hl y List.mem_cons_self; omega) fun x hx => hl x (List.mem_cons_of_mem _ hx)
  intro l hl
  exact key l 0 (Nat.zero_le _) hl
/-- how many groups a level has -/
def At.sz (a : At) : Nat → Nat
  | 0 => a.n
  | l + 1 => maxN (a.ss.getD l []) + 1
def stepG (st : List Nat) (g : Nat) : Nat := st.getD g 0
theorem stepG_get {st : List Nat} {g : Nat} (h : g < st.length) : stepG st g = st[g] := by
  unfold stepG; rw [List.getD_eq_getElem?_getD, List.getElem?_eq_getElem h]; rfl
/-- the group above -/
def At.up (a : At) (g lo hi : Nat) : Nat := ((a.ss.drop lo).take (hi - lo)).foldl (fun g st => stepG st g) g
theorem Stp1.max {g g' : Nat} {s : List Nat} (h : Stp1 g s g') (hg : 1 ≤ g) : maxN s + 1 = g' := by
  obtain ⟨hl, hlt, hx, hy⟩ := h
  have h1 : 1 ≤ g' := by
    cases s with
    | nil => rw [List.length_nil] at hl; omega
    | cons a r => have := hx a (by simp); omega
  have a := maxN_le (b := g' - 1) fun x hx' => by have := hx x hx'; omega
  have b := le_maxN (hy (g' - 1) (by omega))
  omega
theorem stepsV_at : ∀ {ss : List (List Nat)} {g : Nat}, 1 ≤ g → stepsV g ss → ∀ (l : Nat) (s : List Nat), ss[l]? = some s → ∃ gl, (if l = 0 then gl = g else gl = maxN (ss.getD (l - 1) []) + 1) ∧ 1 ≤ gl ∧ gl ≤ g ∧ Stp1 gl s (maxN s + 1)
  | [], _, _, _, l, s, e => by simp at e
  | st :: ss, g, hg, ⟨g', h1, h2⟩, 0, s, e => by
    simp only [List.getElem?_cons_zero, Option.some.injEq] at e
    subst e
    refine ⟨g, by simp, hg, Nat.le_refl _, ?_⟩
    rw [h1.max hg]
    exact h1
  | st :: ss, g, hg, ⟨g', h1, h2⟩, l + 1, s, e => by
    have hm := h1.max hg
    have g1 : 1 ≤ g' := by omega
    obtain ⟨gl, q1, q2, q3, q4⟩ := stepsV_at g1 h2 l s (by simpa using e)
    refine ⟨gl, ?_, q2, ?_, q4⟩
    · rw [if_neg (by omega)]
      cases l with
      | zero => rw [if_pos rfl] at q1; simp [q1, hm]
      | succ k => rw [if_neg (by omega)] at q1; simpa using q1
    · have := h1.2.1; omega
theorem At.V.step {a : At} (h : a.V) {l : Nat} (hl : l < a.ss.length) : Stp1 (a.sz l) (a.ss.getD l []) (a.sz (l + 1)) := by
  obtain ⟨h1, h2, h3, h4⟩ := h
  have e : a.ss[l]? = some (a.ss.getD l []) := by rw [List.getD_eq_getElem?_getD, List.getElem?_eq_getElem hl]; rfl
  obtain ⟨gl, q1, q2, q3, q4⟩ := stepsV_at h1 h4 l _ e
  cases l with
  | zero => rw [if_pos rfl] at q1; rw [q1] at q4; exact q4
  | succ k => rw [if_neg (by omega)] at q1; rw [q1] at q4; exact q4
theorem At.V.sz_le {a : At} (h : a.V) : ∀ {l : Nat}, l ≤ a.ss.length → 1 ≤ a.sz l ∧ a.sz l ≤ a.n
  | 0, _ => ⟨h.1, Nat.le_refl _⟩
  | l + 1, hl => by
    have := (h.step (l := l) hl).2.1
    have ih := h.sz_le (l := l) (by omega)
    refine ⟨by show 1 ≤ maxN _ + 1; omega, by omega⟩
theorem At.V.lt {a : At} (h : a.V) {l g : Nat} (hl : l < a.ss.length) (hg : g < a.sz l) : stepG (a.ss.getD l []) g < a.sz (l + 1) := by
  obtain ⟨s1, s2, s3, s4⟩ := h.step hl
  refine s3 _ ?_
  rw [stepG_get (by omega)]
  exact List.getElem_mem _
theorem up_same_ (a : At) (g l : Nat) : a.up g l l = g := by unfold At.up; rw [Nat.sub_self, List.take_zero]; rfl
theorem up_succ {a : At} {g lo hi : Nat} (h1 : lo ≤ hi) (h2 : hi < a.ss.length) : a.up g lo (hi + 1) = stepG (a.ss.getD hi []) (a.up g lo hi) := by
  unfold At.up
  have e : hi + 1 - lo = (hi - lo) + 1 := by omega
  have hk : hi - lo < (a.ss.drop lo).length := by rw [List.length_drop]; omega
  rw [e, List.take_succ_eq_append_getElem hk, List.foldl_append, List.foldl_cons, List.foldl_nil, List.getElem_drop]
  congr 1
  rw [List.getD_eq_getElem?_getD, List.getElem?_eq_getElem h2]
  simp only [Option.getD_some]
  congr 1
  omega
theorem At.V.up_lt {a : At} (h : a.V) {g lo : Nat} (hg : g < a.sz lo) : ∀ {hi : Nat}, lo ≤ hi → hi ≤ a.ss.length → a.up g lo hi < a.sz hi
  | hi, h1, h2 => by
    induction hi with
    | zero => obtain rfl : lo = 0 := by omega
              rw [up_same_]; exact hg
    | succ k ih =>
      by_cases e : lo = k + 1
      · subst e; rw [up_same_]; exact hg
      · rw [up_succ (by omega) (by omega)]
        exact h.lt (by omega) (ih (by omega) (by omega))
theorem up_trans {a : At} {g lo mid : Nat} (h1 : lo ≤ mid) : ∀ {hi : Nat}, mid ≤ hi → hi ≤ a.ss.length → a.up (a.up g lo mid) mid hi = a.up g lo hi
  | hi, h2, h3 => by
    induction hi with
    | zero => obtain rfl : mid = 0 := by omega
              rw [up_same_]
    | succ k ih =>
      by_cases e : mid = k + 1
      · subst e; rw [up_same_]
      · rw [up_succ (by omega) (by omega), up_succ (by omega) (by omega), ih (by omega) (by omega)]
theorem At.V.surj {a : At} (h : a.V) {l y : Nat} (hl : l < a.ss.length) (hy : y < a.sz (l + 1)) : ∃ x, x < a.sz l ∧ stepG (a.ss.getD l []) x = y := by
  obtain ⟨s1, s2, s3, s4⟩ := h.step hl
  obtain ⟨i, hi, e⟩ := List.mem_iff_getElem.mp (s4 y hy)
  exact ⟨i, by omega, by rw [stepG_get hi]; exact e⟩
theorem At.V.up_surj {a : At} (h : a.V) {lo : Nat} : ∀ {hi y : Nat}, lo ≤ hi → hi ≤ a.ss.length → y < a.sz hi → ∃ x, x < a.sz lo ∧ a.up x lo hi = y
  | hi, y, h1, h2, hy => by
    induction hi generalizing y with
    | zero => obtain rfl : lo = 0 := by omega
              exact ⟨y, hy, up_same_ _ _ _⟩
    | succ k ih =>
      by_cases e : lo = k + 1
      · subst e; exact ⟨y, hy, up_same_ _ _ _⟩
      · obtain ⟨z, hz, ez⟩ := h.surj (l := k) (by omega) hy
        obtain ⟨x, hx, ex⟩ := ih _ (by omega) (by omega) hz
        exact ⟨x, hx, by rw [up_succ (by omega) (by omega), ex, ez]⟩
/-! all tuples below -/
def cellsN (ns : List Nat) : List (List Nat) := ns.foldl (fun rows k => rows.flatMap fun row => (List.range k).map fun j => row ++ [j]) [[]]
theorem cellsN_snoc (ns : List Nat) (k : Nat) : cellsN (ns ++ [k]) = (cellsN ns).flatMap fun row => (List.range k).map fun j => row ++ [j] := by
  unfold cellsN; rw [List.foldl_append]; rfl
theorem sum_const {α : Type} (l : List α) (k : Nat) : (l.map fun _ => k).sum = l.length * k := by
  induction l with
  | nil => simp
  | cons a l ih => simp only [List.map_cons, List.sum_cons, ih, List.length_cons]; rw [Nat.add_mul]; omega
theorem cellsN_length_step (rows : List (List Nat)) (k : Nat) : (rows.flatMap fun row => (List.range k).map fun j => row ++ [j]).length = rows.length * k := by
  rw [List.length_flatMap]
  simp only [List.length_map, List.length_range]
  exact sum_const rows k
theorem cellsN_len (ns : List Nat) : (cellsN ns).length = prodN ns := by
  unfold cellsN prodN
  have key : ∀ (ns : List Nat) (rows : List (List Nat)), (ns.foldl (fun rows k => rows.flatMap fun row => (List.range k).map fun j => row ++ [j]) rows).length = ns.foldl (fun a n => a * n) rows.length := by
    intro ns
    induction ns with
    | nil => intro rows; rfl
    | cons k ns ih =>
      intro rows
      rw [List.foldl_cons, List.foldl_cons, ih, cellsN_length_step]
  exact key ns [[]]
/-- c is a cell below ns -/
def Below (c ns : List Nat) : Prop := c.length = ns.length ∧ ∀ (i : Nat) (x n : Nat), c[i]? = some x → ns[i]? = some n → x < n
theorem below_snoc {c ns : List Nat} {x n : Nat} : Below (c ++ [x]) (ns ++ [n]) ↔ Below c ns ∧ x < n := by
  constructor
  · rintro ⟨h1, h2⟩
    rw [List.length_append, List.length_append, List.length_singleton, List.length_singleton] at h1
    have h1 : c.length = ns.length := by omega
    refine ⟨⟨h1, fun i y k hy hk => h2 i y k ?_ ?_⟩, h2 c.length x n ?_ ?_⟩
    · rw [List.getElem?_append_left (List.getElem?_eq_some_iff.mp hy).1]; exact hy
    · rw [List.getElem?_append_left (List.getElem?_eq_some_iff.mp hk).1]; exact hk
    · rw [List.getElem?_append_right (Nat.le_refl _), Nat.sub_self]; rfl
    · rw [h1, List.getElem?_append_right (Nat.le_refl _), Nat.sub_self]; rfl
  · rintro ⟨⟨h1, h2⟩, hx⟩
    refine ⟨by rw [List.length_append, List.length_append, h1]; rfl, fun i y k hy hk => ?_⟩
    by_cases hi : i < c.length
    · rw [List.getElem?_append_left hi] at hy
      rw [List.getElem?_append_left (by omega)] at hk
      exact h2 i y k hy hk
    · rw [List.getElem?_append_right (by omega)] at hy hk
      have : i - c.length = 0 := by
        have := (List.getElem?_eq_some_iff.mp hy).1
        rw [List.length_singleton] at this; omega
      rw [this] at hy
      rw [show i - ns.length = 0 by omega] at hk
      cases hy; cases hk
      exact hx
theorem mem_cellsN (ns : List Nat) : ∀ c, c ∈ cellsN ns ↔ Below c ns := by
  have key : ∀ (n : Nat) (ns : List Nat), ns.length = n → ∀ c, c ∈ cellsN ns ↔ Below c ns := by
    intro n
    induction n with
    | zero =>
      intro ns hn c
      obtain rfl : ns = [] := List.eq_nil_of_length_eq_zero hn
      constructor
      · intro h
        obtain rfl : c = [] := by simpa [cellsN] using h
        exact ⟨rfl, by simp⟩
      · intro h
        obtain rfl : c = [] := List.eq_nil_of_length_eq_zero h.1
        simp [cellsN]
    | succ n ih =>
      intro ns hn c
      obtain ⟨ms, k, rfl⟩ : ∃ ms k, ns = ms ++ [k] := ⟨ns.dropLast, ns.getLast (by intro e; rw [e] at hn; simp at hn), (List.dropLast_concat_getLast _).symm⟩
      rw [List.length_append, List.length_singleton] at hn
      rw [cellsN_snoc, List.mem_flatMap]
      constructor
      · rintro ⟨row, hr, hc⟩
        obtain ⟨j, hj, rfl⟩ := List.mem_map.mp hc
        exact below_snoc.mpr ⟨(ih ms (by omega) row).mp hr, List.mem_range.mp hj⟩
      · intro h
        have hl : c.length = ms.length + 1 := by have := h.1; rw [List.length_append, List.length_singleton] at this; exact this
        obtain ⟨d, x, rfl⟩ : ∃ d x, c = d ++ [x] := ⟨c.dropLast, c.getLast (by intro e; rw [e] at hl; simp at hl), (List.dropLast_concat_getLast _).symm⟩
        obtain ⟨h1, h2⟩ := below_snoc.mp h
        exact ⟨d, (ih ms (by omega) d).mpr h1, List.mem_map.mpr ⟨x, List.mem_range.mpr h2, rfl⟩⟩
  exact key ns.length ns rfl
theorem nodup_flatMap_snoc {k : Nat} : ∀ {rows : List (List Nat)}, rows.Nodup → (rows.flatMap fun row => (List.range k).map fun j => row ++ [j]).Nodup
  | [], _ => by simp
  | row :: rows, h => by
    rw [List.nodup_cons] at h
    rw [List.flatMap_cons, List.nodup_append]
    refine ⟨?_, nodup_flatMap_snoc h.2, fun a ha b hb => ?_⟩
    · exact List.Pairwise.map _ (fun x y hxy e => hxy (by have := List.append_cancel_left e; simpa using this)) List.nodup_range
    · obtain ⟨j, _, rfl⟩ := List.mem_map.mp ha
      obtain ⟨r2, hr2, hb⟩ := List.mem_flatMap.mp hb
      obtain ⟨i, _, rfl⟩ := List.mem_map.mp hb
      intro e
      have := (List.append_inj' e rfl).1
      subst this
      exact h.1 hr2
theorem cellsN_nodup (ns : List Nat) : (cellsN ns).Nodup := by
  unfold cellsN
  have key : ∀ (ns : List Nat) (rows : List (List Nat)), rows.Nodup → (ns.foldl (fun rows k => rows.flatMap fun row => (List.range k).map fun j => row ++ [j]) rows).Nodup := by
    intro ns
    induction ns with
    | nil => intro rows h; exact h
    | cons k ns ih => intro rows h; exact ih _ (nodup_flatMap_snoc h)
  exact key ns [[]] (by simp)
/-! rollups, cells of schemes -/
def szs (s : Sch) (r : List Nat) : List Nat := List.zipWith At.sz s r
def cellsOf (s : Sch) (r : List Nat) : List (List Nat) := cellsN (szs s r)
def finN (s : Sch) : List Nat := List.replicate s.length 0
theorem Roll.at {s : Sch} {r : List Nat} (h : Roll s r) {i : Nat} {a : At} {l : Nat} (ha : s[i]? = some a) (hl : r[i]? = some l) : l ≤ a.ss.length := by
  simp only [Roll, tD, isRoll, Bool.and_eq_true, decide_eq_true_eq, List.length_map] at h
  have h2 := h.2
  rw [List.all_eq_true] at h2
  have hz : (List.zipWith (fun (a : At) l => betw l 0 a.ss.length) s (r.map nD))[i]? = some (betw (nD l) 0 a.ss.length) := by
    rw [List.getElem?_zipWith, ha, List.getElem?_map, hl]; rfl
  have := h2 _ (List.mem_of_getElem? hz)
  simp only [betw, nD, id, Bool.and_eq_true, decide_eq_true_eq] at this
  omega
theorem prodN_mono : ∀ {l l' : List Nat} (a a' : Nat), a ≤ a' → l.length = l'.length → (∀ (i : Nat) (x y : Nat), l[i]? = some x → l'[i]? = some y → x ≤ y) → l.foldl (fun a n => a * n) a ≤ l'.foldl (fun a n => a * n) a'
  | [], [], a, a', h, _, _ => h
  | [], _ :: _, _, _, _, e, _ => by simp at e
  | _ :: _, [], _, _, _, e, _ => by simp at e
  | x :: l, y :: l', a, a', h, e, hh => by
    rw [List.foldl_cons, List.foldl_cons]
    exact prodN_mono (a * x) (a' * y) (Nat.mul_le_mul h (hh 0 x y rfl rfl)) (by simpa using e) fun i u v hu hv => hh (i + 1) u v (by simpa using hu) (by simpa using hv)
theorem szs_len {s : Sch} {r : List Nat} (h : Roll s r) : (szs s r).length = s.length := by unfold szs; rw [List.length_zipWith, h.len]; omega
theorem szs_at {s : Sch} {r : List Nat} {i k : Nat} (h : (szs s r)[i]? = some k) : ∃ a l, s[i]? = some a ∧ r[i]? = some l ∧ k = a.sz l := by
  unfold szs at h
  rw [List.getElem?_zipWith] at h
  cases ha : s[i]? with
  | none => rw [ha] at h; simp at h
  | some a =>
    cases hl : r[i]? with
    | none => rw [ha, hl] at h; simp at h
    | some l => rw [ha, hl] at h; simp at h; exact ⟨a, l, rfl, rfl, h.symm⟩
theorem szs_prod {s : Sch} {r : List Nat} (hs : SchV s) (h : Roll s r) : prodN (szs s r) ≤ 60 := by
  refine Nat.le_trans (prodN_mono 1 1 (Nat.le_refl _) (by rw [szs_len h, List.length_map]) fun i x y hx hy => ?_) hs.2.2.2
  obtain ⟨a, l, ha, hl, rfl⟩ := szs_at hx
  rw [List.getElem?_map, ha] at hy
  cases hy
  exact ((hs.2.2.1 a (List.mem_of_getElem? ha)).sz_le (h.at ha hl)).2
theorem szs_le {s : Sch} {r : List Nat} (hs : SchV s) (h : Roll s r) : ∀ k ∈ szs s r, 1 ≤ k ∧ k ≤ 6 := by
  intro k hk
  obtain ⟨i, hi⟩ := List.mem_iff_getElem?.mp hk
  obtain ⟨a, l, ha, hl, rfl⟩ := szs_at hi
  have hv := hs.2.2.1 a (List.mem_of_getElem? ha)
  have := hv.sz_le (h.at ha hl)
  have := hv.2.1
  omega
theorem fin_roll (s : Sch) : Roll s (finN s) := by
  unfold finN
  simp only [Roll, tD, isRoll, Bool.and_eq_true, decide_eq_true_eq, List.length_map, List.length_replicate, true_and]
  rw [List.all_eq_true]
  intro b hb
  obtain ⟨i, hi, rfl⟩ := List.mem_iff_getElem.mp hb
  rw [List.getElem_zipWith, List.getElem_map, List.getElem_replicate]
  simp only [betw, nD, id, Bool.and_eq_true, decide_eq_true_eq]
  omega
theorem szs_fin (s : Sch) : szs s (finN s) = s.map At.n := by
  unfold szs finN
  induction s with
  | nil => rfl
  | cons a s ih => rw [List.length_cons, List.replicate_succ, List.zipWith_cons_cons, ih]; rfl
/-- the cell above -/
def abv (s : Sch) (r c o : List Nat) : List Nat := (s.zip (c.zip (r.zip o))).map fun p => p.1.up p.2.1 p.2.2.1 p.2.2.2
end Mn

set_option linter.all false
set_option maxHeartbeats 4000000
set_option autoImplicit false
set_option maxRecDepth 100000
namespace Mn
open PySem L2
variable [Tbs]
local macro_rules | `(tactic| walk_at "d") => `(tactic| (try simp only [xNext, xSeq, xAsg, xRet, xRetF, xDrop, xIf, xPar, xPar3, xFrz, xPut, xAug, xFor, dVar, dC, dOp, dTest, dChain, dAndV, dOrV, dNotV, dAnd, dOr, dNot, dIf, dNil, dCons, dTup, dLst, dLstM, dCB, dIsi, dLc, dLcM, dYes, wipeD, dSlice, oSome, oNone, aSl_tup, aSl_lst, dNeg, dStar, dNewD, dTupVals, dCountL, dExtend, dAppend, dFrz, dLc2, dCountT, dIndexT, sqf_tup, sqf_lst, sqf_pair, sSeq, sSeq_tup, sSeq_lst, sRg1, sRg2, sZip2, sZip3, sZip4, sEnum, gV, gN, gC, gT, tupOf_tup, tupOf_pair, aAdd_int, aAdd_tup, aAdd_lst, aSub_int, aMul_int, aDiv_int, aMod_int, aPow_int, aCmp_int, aIx_tup, aIx_lst, aIx_scr, aIx_pair, aMax_int, aMin_int, aInt_bl, aInt_int, aLen_tup, aLen_lst, aLen_scr, aLen_pair, aTuple_lst, aTuple_tup, aEq_int, aNe_int, startD, List.map_cons, List.map_nil, List.length_cons, List.length_nil, List.cons_append, List.nil_append, List.replicate_zero, List.replicate_succ, List.append_nil, List.getElem?_cons_zero, List.getElem?_cons_succ, List.set_cons_zero, List.set_cons_succ, Option.some.injEq, exists_eq_left', exists_eq_left, exists_eq', D.int.injEq, D.bl.injEq, D.tup.injEq, D.lst.injEq, D.pair.injEq, D.ref.injEq, List.cons.injEq, Nat.sub_self, Nat.zero_add, Nat.add_sub_cancel, seqI_tup, seqI_lst, seqOf_tup, seqOf_lst, tyN_tup, tyN_lst, tyN_int, tyN_bl, tyN_str, tyN_non, isi_tt, at_0, at_1, at_2, at_3, Option.map_some, true_and, and_true, if_true, Bool.false_eq_true, if_false, Bool.not_true, Bool.not_false, ↓reduceIte, Nat.reduceAdd, Nat.reduceSub, exists_and_left, and_assoc]))
theorem at_nat (ds : List D) (k : Nat) : at_ ds (k : Int) = ds[k]? := by
  unfold at_; rw [if_pos (by omega), Int.toNat_natCast]
theorem maxI_nat : ∀ (l : List Nat), l ≠ [] → maxI (l.map fun k : Nat => (k : Int)) = maxN l
  | [], h => absurd rfl h
  | n :: r, _ => by
    unfold maxN
    simp only [List.map_cons, maxI, List.foldl_cons]
    have key : ∀ (r : List Nat) (a : Nat), (r.map fun k : Nat => (k : Int)).foldl max (a : Int) = ((r.foldl max a : Nat) : Int) := by
      intro r
      induction r with
      | nil => intro a; rfl
      | cons x r ih =>
        intro a
        rw [List.map_cons, List.foldl_cons, List.foldl_cons, show max (a : Int) (x : Int) = ((max a x : Nat) : Int) by omega, ih]
    rw [key, Nat.zero_max]
/-- max of a tuple of numbers -/
theorem aMax_tD {l : List Nat} {m : Mu} {Q : DK} (h : l ≠ []) (q : Q (nD (maxN l)) m) : aMax [tD l] m Q := by
  cases l with
  | nil => exact absurd rfl h
  | cons n r =>
    unfold tD
    simp only [aMax]
    refine ⟨(n : Int), r.map fun k : Nat => (k : Int), ?_, ?_⟩
    · first | rfl | (simp only [List.map_cons, List.map_map, nD]; rfl)
    · have e := maxI_nat (n :: r) (by simp)
      simp only [List.map_cons, maxI] at e
      rw [e]
      exact q
/-! groups -/
def s_groups_at : DSp := fun ds m Q => ∃ (a : At) (l : Nat), ds = [a.enc, nD l] ∧ a.V ∧ l ≤ a.ss.length ∧ Q (nD (a.sz l)) m
theorem l_groups_at : ∀ ds m Q, s_groups_at ds m Q → ds.length = 2 := by rintro ds m Q ⟨a, l, rfl, _⟩; rfl
def t_groups_at : DS := (xRet (dIf (dTest (dOp aEq (dVar 1) (dC (.int 0)))) (dOp aIx (dVar 0) (dC (.int 0))) (dOp aAdd (dCB aMax (dCons (dOp aIx (dOp aIx (dVar 0) (dC (.int 1))) (dOp aSub (dVar 1) (dC (.int 1)))) dNil)) (dC (.int 1)))))
theorem v_groups_at : Body 2 t_groups_at s_groups_at := by
  rintro ds m Q ⟨a, l, rfl, ha, hl, q⟩
  have hq := end_rt (m0 := m) q
  unfold t_groups_at At.enc nD
  walk_at "d"
  cases l with
  | zero => exact hq
  | succ k =>
    have hk : ¬ (((k + 1 : Nat) : Int) = 0) := by omega
    have hst := ha.step (l := k) hl
    simp only [hk, decide_false, Bool.false_eq_true, ↓reduceIte]
    rw [show (((k + 1 : Nat) : Int) - 1) = (k : Int) by omega]
    walk_at "d"
    refine ⟨tD (a.ss.getD k []), ?_, ?_⟩
    · rw [at_nat, List.getElem?_map, List.getElem?_eq_getElem (by omega), List.getD_eq_getElem?_getD, List.getElem?_eq_getElem (by omega)]; rfl
    · refine aMax_tD ?_ ?_
      · intro e
        have := hst.1
        rw [e, List.length_nil] at this
        have := (ha.sz_le (l := k) (by omega)).1
        omega
      · unfold nD
        walk_at "d"
        exact hq
theorem cutD_nat (ds : List D) (lo hi : Nat) (h : hi ≤ ds.length) : cutD ds (some (lo : Int)) (some (hi : Int)) = (ds.drop lo).take (hi - lo) := by
  unfold cutD
  rw [HT.sIx_nat, HT.sIx_nat, Nat.min_eq_left h]
  by_cases hl : lo ≤ ds.length
  · rw [Nat.min_eq_left hl]
  · rw [Nat.min_eq_right (by omega), List.drop_length, List.drop_eq_nil_of_le (by omega), List.take_nil, List.take_nil]
def s_group_above : DSp := fun ds m Q => ∃ (a : At) (g lo hi : Nat), ds = [a.enc, nD g, nD lo, nD hi] ∧ a.V ∧ lo ≤ hi ∧ hi ≤ a.ss.length ∧ g < a.sz lo ∧ Q (nD (a.up g lo hi)) m
theorem l_group_above : ∀ ds m Q, s_group_above ds m Q → ds.length = 4 := by rintro ds m Q ⟨a, g, lo, hi, rfl, _⟩; rfl
def t_group_above : DS := (xSeq (xFor (sSeq (dSlice (dOp aIx (dVar 0) (dC (.int 1))) (oSome (dVar 2)) (oSome (dVar 3)))) (gV 4) (xAsg (dOp aIx (dVar 4) (dVar 1)) (gV 1)))
  (xRet (dVar 1)))
theorem v_group_above : Body 5 t_group_above s_group_above := by
  rintro ds m Q ⟨a, g, lo, hi, rfl, ha, h1, h2, hg, q⟩
  have hq := end_rt (m0 := m) q
  unfold t_group_above At.enc nD
  walk_at "d"
  rw [cutD_nat _ _ _ (by rw [List.length_map]; exact h2), ← List.map_drop, ← List.map_take]
  refine ⟨_, .inr rfl, ?_⟩
  refine forGo_take (enc := tD) (fun pre r m' => m' = m ∧ ∃ x4, r = [some (.tup [.int (a.n : Int), .tup (a.ss.map tD)]), some (nD (pre.foldl (fun g st => stepG st g) g)), some (.int (lo : Int)), some (.int (hi : Int)), x4]) ((a.ss.drop lo).take (hi - lo)) [] _ _ _ rfl ⟨rfl, none, rfl⟩ ?_ ?_
  · rintro pre st post r m' P e ⟨rfl, x4, rfl⟩ hP
    walk_at "d"
    have hpl : pre.length < hi - lo := by
      have := congrArg List.length e
      rw [List.length_append, List.length_cons, List.length_take, List.length_drop] at this
      omega
    have hpre : pre = (a.ss.drop lo).take (lo + pre.length - lo) := by
      have e1 : pre = ((a.ss.drop lo).take (hi - lo)).take pre.length := by rw [e, List.take_left']; rfl
      rw [List.take_take, Nat.min_eq_left (by omega)] at e1
      rw [show lo + pre.length - lo = pre.length by omega]
      exact e1
    have hst : st = a.ss.getD (lo + pre.length) [] := by
      have e1 : ((a.ss.drop lo).take (hi - lo))[pre.length]? = some st := by rw [e, List.getElem?_append_right (Nat.le_refl _), Nat.sub_self]; rfl
      rw [List.getElem?_take_of_lt (by omega), List.getElem?_drop] at e1
      rw [List.getD_eq_getElem?_getD, e1]; rfl
    have hlt : a.up g lo (lo + pre.length) < a.sz (lo + pre.length) := ha.up_lt hg (by omega) (by omega)
    have hs := ha.step (l := lo + pre.length) (by omega)
    have eup : pre.foldl (fun g st => stepG st g) g = a.up g lo (lo + pre.length) := by
      unfold At.up; rw [← hpre]
    rw [eup]
    unfold tD nD
    walk_at "d"
    refine ⟨nD (stepG st (a.up g lo (lo + pre.length))), ?_, hP _ _ ⟨rfl, some (tD st), ?_⟩⟩
    · rw [at_nat, List.getElem?_map, List.getElem?_eq_getElem (by rw [hst]; have := hs.1; omega), stepG_get (by rw [hst]; have := hs.1; omega)]; rfl
    · rw [List.foldl_append, List.foldl_cons, List.foldl_nil, eup]; rfl
  · rintro r m' ⟨rfl, x4, rfl⟩
    walk_at "d"
    exact hq
theorem filt_true {α : Type} (l : List α) : l.filter (fun _ => true) = l := List.filter_eq_self.mpr fun _ _ => rfl
/-! tuples below -/
def s_tuples_below : DSp := fun ds m Q => ∃ ns : List Nat, ds = [.lst (ns.map nD)] ∧ ns.length ≤ 3 ∧ (∀ k ∈ ns, k ≤ 6) ∧ Q (.lst ((cellsN ns).map tD)) m
theorem l_tuples_below : ∀ ds m Q, s_tuples_below ds m Q → ds.length = 1 := by rintro ds m Q ⟨ns, rfl, _⟩; rfl
def t_tuples_below : DS := (xSeq (xAsg (dLst (dCons (dTup dNil) dNil)) (gV 1))
  (xSeq (xFor (sSeq (dVar 0)) (gV 2) (xAsg (dLc2 (sSeq (dVar 1)) [3, 4] (gV 3) dYes (sRg1 (dVar 2)) [4] (gV 4) dYes (dTup (dStar (dVar 3) (dCons (dVar 4) dNil)))) (gV 1)))
  (xRet (dVar 1))))
theorem prodN_le : ∀ (ns : List Nat), ns.length ≤ 3 → (∀ k ∈ ns, k ≤ 6) → prodN ns ≤ 216
  | [], _, _ => by decide
  | [a], _, h => by have := h a (by simp); unfold prodN; simp only [List.foldl_cons, List.foldl_nil, Nat.one_mul]; omega
  | [a, b], _, h => by
    have h1 := h a (by simp); have h2 := h b (by simp)
    have := Nat.mul_le_mul h1 h2
    unfold prodN; simp only [List.foldl_cons, List.foldl_nil, Nat.one_mul]; omega
  | [a, b, c], _, h => by
    have h1 := h a (by simp); have h2 := h b (by simp); have h3 := h c (by simp)
    have := Nat.mul_le_mul (Nat.mul_le_mul h1 h2) h3
    unfold prodN; simp only [List.foldl_cons, List.foldl_nil, Nat.one_mul]; omega
  | _ :: _ :: _ :: _ :: _, h, _ => by simp at h
theorem cells_item {c : List Nat} {ns : List Nat} (h : c ∈ cellsN ns) : c.length = ns.length := ((mem_cellsN ns c).mp h).1
theorem v_tuples_below : Body 5 t_tuples_below s_tuples_below := by
  rintro ds m Q ⟨ns, rfl, hl, hk, q⟩
  have hq := end_rt (m0 := m) q
  unfold t_tuples_below
  walk_at "d"
  refine ⟨by decide, by decide, _, .inl rfl, ?_⟩
  refine forGo_take (enc := nD) (fun pre r m' => m' = m ∧ ∃ x2 x3 x4, r = [some (.lst (ns.map nD)), some (.lst ((cellsN pre).map tD)), x2, x3, x4]) ns [] _ _ _ rfl ⟨rfl, none, none, none, rfl⟩ ?_ ?_
  · rintro pre k post r m' P e ⟨rfl, x2, x3, x4, rfl⟩ hP
    unfold nD
    walk_at "d"
    have hk6 : k ≤ 6 := hk k (by rw [e]; simp)
    have hp3 : pre.length < 3 := by have := congrArg List.length e; rw [List.length_append, List.length_cons] at this; omega
    have hpp : prodN pre ≤ 216 := prodN_le pre (by omega) fun x hx => hk x (by rw [e]; simp [hx])
    refine ⟨_, .inl rfl, ?_⟩
    refine lcGo2_maps (enc := tD) (enc1 := fun i : Nat => D.int i) (fun _ => List.range k) (fun row j => tD (row ++ [j])) (fun _ _ => true) (cellsN pre) [] _ ?_ ?_ ?_
    · rw [List.length_nil, Nat.zero_add, List.length_flatMap]
      simp only [filt_true, List.length_range]
      rw [sum_const, cellsN_len, sizeLine_eq]
      have := Nat.mul_le_mul hpp hk6
      omega
    · intro row hrow R hR
      walk_at "d"
      have hrl := cells_item hrow
      refine hR _ (fun P2 h2 => ?_) fun j hj A B hAB => ?_
      · walk_at "d"
        refine ⟨by omega, by omega, ?_⟩
        rw [rgD_map]
        exact h2
      · rw [if_pos rfl] at hAB
        walk_at "d"
        refine ⟨row.map nD, by unfold tD; rfl, ?_⟩
        rw [List.length_append, List.length_map]
        refine ⟨small (k := 1000) (by rw [List.length_singleton]; omega), ?_⟩
        unfold tD at hAB
        rw [List.map_append] at hAB
        exact hAB
    · rw [List.nil_append]
      simp only [filt_true]
      have ec : ((cellsN pre).flatMap fun x => (List.range k).map fun j => tD (x ++ [j])) = (cellsN (pre ++ [k])).map tD := by
        rw [cellsN_snoc, List.map_flatMap]
        simp only [List.map_map]
        rfl
      rw [ec]
      exact hP _ _ ⟨rfl, _, _, _, rfl⟩
  · rintro r m' ⟨rfl, x2, x3, x4, rfl⟩
    walk_at "d"
    exact hq
end Mn

set_option linter.all false
set_option maxHeartbeats 4000000
set_option autoImplicit false
set_option maxRecDepth 100000
namespace Mn
open PySem L2
variable [Tbs]
local macro_rules | `(tactic| walk_at "d") => `(tactic| (try simp only [xNext, xSeq, xAsg, xRet, xRetF, xDrop, xIf, xPar, xPut, xAug, xFor, dVar, dC, dOp, dTest, dChain, dAndV, dOrV, dNotV, dAnd, dOr, dNot, dIf, dNil, dCons, dTup, dLst, dLstM, dCB, dIsi, dLc, dLcM, dYes, wipeD, sSeq, sSeq_tup, sSeq_lst, sRg1, sRg2, sZip2, sZip3, sEnum, gV, gN, gC, gT, tupOf_tup, tupOf_pair, aAdd_int, aAdd_tup, aAdd_lst, aSub_int, aMul_int, aDiv_int, aMod_int, aPow_int, aCmp_int, aIx_tup, aIx_lst, aIx_scr, aIx_pair, aMax_int, aMin_int, aInt_bl, aInt_int, aLen_tup, aLen_lst, aLen_scr, aLen_pair, aTuple_lst, aTuple_tup, aEq_int, aNe_int, startD, List.map_cons, List.map_nil, List.length_cons, List.length_nil, List.cons_append, List.nil_append, List.replicate_zero, List.replicate_succ, List.append_nil, List.getElem?_cons_zero, List.getElem?_cons_succ, List.set_cons_zero, List.set_cons_succ, Option.some.injEq, exists_eq_left', exists_eq_left, exists_eq', D.int.injEq, D.bl.injEq, D.tup.injEq, D.lst.injEq, D.pair.injEq, D.ref.injEq, List.cons.injEq, Nat.sub_self, Nat.zero_add, Nat.add_sub_cancel, seqI_tup, seqI_lst, seqOf_tup, seqOf_lst, tyN_tup, tyN_lst, tyN_int, tyN_bl, tyN_str, tyN_non, isi_tt, at_0, at_1, at_2, at_3, Option.map_some, true_and, and_true, if_true, Bool.false_eq_true, if_false, Bool.not_true, Bool.not_false, ↓reduceIte, Nat.reduceAdd, Nat.reduceSub, exists_and_left, and_assoc]))
/-! a supply of numbers: a mutable list of three -/
def PenU (m : Mu) (p : Addr) (n : Nat) (m' : Mu) : Prop := ∃ a b c : Int, m' = up m p (.lst [.int a, .int b, .int c]) ∧ 0 ≤ a ∧ 0 ≤ b ∧ b < 2147483648 ∧ 0 ≤ c ∧ c ≤ n
def Pen (m : Mu) (p : Addr) (n : Nat) : Prop := ∃ a b c : Int, m p = some (.lst [.int a, .int b, .int c]) ∧ 0 ≤ a ∧ 0 ≤ b ∧ b < 2147483648 ∧ 0 ≤ c ∧ c ≤ n
theorem PenU.pen {m m' : Mu} {p : Addr} {n : Nat} (h : PenU m p n m') : Pen m' p n := by
  obtain ⟨a, b, c, rfl, h⟩ := h
  exact ⟨a, b, c, up_same, h⟩
theorem PenU.trans {m m1 m2 : Mu} {p : Addr} {n k : Nat} (h : PenU m p n m1) (h2 : PenU m1 p k m2) : PenU m p k m2 := by
  obtain ⟨a, b, c, rfl, _⟩ := h
  obtain ⟨a', b', c', rfl, h⟩ := h2
  exact ⟨a', b', c', up_up, h⟩
theorem up_self {m : Mu} {p : Addr} {o : MO} (h : m p = some o) : up m p o = m := by
  funext b; unfold up
  by_cases e : b = p
  · rw [if_pos e, e, h]
  · rw [if_neg e]
theorem Pen.u {m : Mu} {p : Addr} {n : Nat} (h : Pen m p n) : PenU m p n m := by
  obtain ⟨a, b, c, e, h⟩ := h
  exact ⟨a, b, c, (up_self e).symm, h⟩
theorem PenU.mono {m m' : Mu} {p : Addr} {n k : Nat} (h : PenU m p n m') (hk : n ≤ k) : PenU m p k m' := by
  obtain ⟨a, b, c, e, h1, h2, h3, h4, h5⟩ := h
  exact ⟨a, b, c, e, h1, h2, h3, h4, by omega⟩
theorem PenU.other {m m' : Mu} {p q : Addr} {n : Nat} (h : PenU m p n m') (hq : q ≠ p) : m' q = m q := by
  obtain ⟨a, b, c, rfl, _⟩ := h
  exact up_ne hq
def s_law_draw : DSp := fun ds m Q => ∃ (p : Addr) (k n : Nat), ds = [.ref p, nD k] ∧ Pen m p n ∧ n ≤ 1000000000 ∧ 1 ≤ k ∧ k ≤ 100000000 ∧ ∀ r m', r < k → PenU m p (n + 1) m' → Q (nD r) m'
end Mn

set_option linter.all false
set_option maxHeartbeats 4000000
set_option autoImplicit false
set_option maxRecDepth 100000
namespace Mn
open PySem L2
variable [Tbs]
local macro_rules | `(tactic| walk_at "d") => `(tactic| (try simp only [xNext, xSeq, xAsg, xRet, xRetF, xDrop, xIf, xPar, xPut, xAug, xFor, dVar, dC, dOp, dTest, dChain, dAndV, dOrV, dNotV, dAnd, dOr, dNot, dIf, dNil, dCons, dTup, dLst, dLstM, dCB, dIsi, dLc, dLcM, dYes, wipeD, sSeq, sSeq_tup, sSeq_lst, sRg1, sRg2, sZip2, sZip3, sEnum, gV, gN, gC, gT, tupOf_tup, tupOf_pair, aAdd_int, aAdd_tup, aAdd_lst, aSub_int, aMul_int, aDiv_int, aMod_int, aPow_int, aCmp_int, aIx_tup, aIx_lst, aIx_scr, aIx_pair, aMax_int, aMin_int, aInt_bl, aInt_int, aLen_tup, aLen_lst, aLen_scr, aLen_pair, aTuple_lst, aTuple_tup, aEq_int, aNe_int, startD, List.map_cons, List.map_nil, List.length_cons, List.length_nil, List.cons_append, List.nil_append, List.replicate_zero, List.replicate_succ, List.append_nil, List.getElem?_cons_zero, List.getElem?_cons_succ, List.set_cons_zero, List.set_cons_succ, Option.some.injEq, exists_eq_left', exists_eq_left, exists_eq', D.int.injEq, D.bl.injEq, D.tup.injEq, D.lst.injEq, D.pair.injEq, D.ref.injEq, List.cons.injEq, Nat.sub_self, Nat.zero_add, Nat.add_sub_cancel, seqI_tup, seqI_lst, seqOf_tup, seqOf_lst, tyN_tup, tyN_lst, tyN_int, tyN_bl, tyN_str, tyN_non, isi_tt, at_0, at_1, at_2, at_3, Option.map_some, true_and, and_true, if_true, Bool.false_eq_true, if_false, Bool.not_true, Bool.not_false, ↓reduceIte, Nat.reduceAdd, Nat.reduceSub, exists_and_left, and_assoc]))
def s_law_cell_at : DSp := fun ds m Q => ∃ (ns : List Int) (k : Int), ds = [.scr (ns.map D.int), .int k] ∧ 0 ≤ k ∧ ∀ z, Q (.int z) m
theorem l_law_cell_at : ∀ ds m Q, s_law_cell_at ds m Q → ds.length = 2 := by rintro ds m Q ⟨s, d, rfl, _⟩; rfl
def t_law_cell_at : DS := (xSeq (xIf (dTest (dOp aLt (dVar 1) (dCB aLen (dCons (dVar 0) dNil)))) (xRet (dOp aIx (dVar 0) (dVar 1))) xNext)
  (xRet (dC (.int 0))))
theorem v_law_cell_at : Body 2 t_law_cell_at s_law_cell_at := by
  rintro ds m Q ⟨ns, k, rfl, hk, q⟩
  unfold t_law_cell_at
  walk_at "d"
  simp only [aLen_scr, List.length_map]
  walk_at "d"
  by_cases h : k < (ns.length : Int)
  · simp only [h, decide_true, ↓reduceIte]
    refine ⟨.int (ns[k.toNat]'(by omega)), ?_, end_rt (q _)⟩
    unfold at_
    rw [if_pos hk, List.getElem?_map, List.getElem?_eq_getElem (by omega)]
    rfl
  · simp only [h, decide_false, Bool.false_eq_true, ↓reduceIte]
    exact end_rt (q 0)
/-- a sequence, apart from the pen -/
def Line (p : Addr) (d : D) (es : List D) (m : Mu) : Prop := d = .lst es ∨ d = .tup es ∨ ∃ a, a ≠ p ∧ d = .ref a ∧ m a = some (.lst es)
def s_law_pick : DSp := fun ds m Q => ∃ (p : Addr) (d : D) (es : List D) (n : Nat), ds = [.ref p, d] ∧ Line p d es m ∧ Pen m p n ∧ n ≤ 1000000000 ∧ 1 ≤ es.length ∧ es.length ≤ 1000 ∧ ∀ d m', d ∈ es → PenU m p (n + 1) m' → Q d m'
/-! mixing -/
def s_law_mixed : DSp := fun ds m Q => ∃ (p : Addr) (es : List D) (n : Nat), ds = [.ref p, .lst es] ∧ Pen m p n ∧ n + es.length ≤ 1000000000 ∧ es.length ≤ 1000 ∧ (∀ d ∈ es, Sm d 20 1000) ∧
  ∀ es' m', es'.Perm es → PenU m p (n + es.length) m' → Q (.lst es') m'
def s_law_attribute : DSp := fun ds m Q => ∃ (p : Addr) (most n : Nat), ds = [.ref p, nD most] ∧ Pen m p n ∧ n ≤ 900000000 ∧ 1 ≤ most ∧ most ≤ 6 ∧ ∀ a m', At.V a → a.n ≤ most → PenU m p (n + 100) m' → Q a.enc m'
theorem l_law_attribute : ∀ ds m Q, s_law_attribute ds m Q → ds.length = 2 := by rintro ds m Q ⟨s, d, n, rfl, _⟩; rfl
def t_law_attribute : DS := (xSeq (xAsg (dOp aAdd (dC (.int 1)) (dCB s_law_draw (dCons (dVar 0) (dCons (dVar 1) dNil)))) (gV 2))
  (xSeq (xPar 4 5 (dCons (dVar 2) (dCons (dLstM dNil) dNil)))
  (xSeq (xFor (sRg1 (dCB s_law_draw (dCons (dVar 0) (dCons (dC (.int 4)) dNil)))) (gV 3) (xIf (dTest (dOp aGt (dVar 4) (dC (.int 1)))) (xSeq (xAsg (dOp aAdd (dC (.int 1)) (dCB s_law_draw (dCons (dVar 0) (dCons (dOp aSub (dVar 4) (dC (.int 1))) dNil)))) (gV 6))
  (xSeq (xAsg (dLc (sRg1 (dOp aSub (dVar 4) (dVar 6))) [8] (gV 8) dYes (dCB s_law_draw (dCons (dVar 0) (dCons (dVar 6) dNil)))) (gV 7))
  (xSeq (xDrop (dAppend (dVar 5) (dCB aTuple (dCons (dCB s_law_mixed (dCons (dVar 0) (dCons (dOp aAdd (dListRg (dVar 6)) (dVar 7)) dNil))) dNil))))
  (xAsg (dVar 6) (gV 4))))) xNext))
  (xRet (dTup (dCons (dVar 2) (dCons (dCB aTuple (dCons (dVar 5) dNil)) dNil)))))))
/-- the steps so far lead from g0 groups to g groups -/
def leads : Nat → List (List Nat) → Nat → Prop
  | g, [], g1 => g = g1
  | g, s :: r, g1 => ∃ g', Stp1 g s g' ∧ leads g' r g1
theorem leads_snoc : ∀ {ss : List (List Nat)} {g g1 g2 : Nat} {s : List Nat}, leads g ss g1 → Stp1 g1 s g2 → leads g (ss ++ [s]) g2
  | [], g, g1, g2, s, h, h2 => by cases h; exact ⟨g2, h2, rfl⟩
  | a :: r, g, g1, g2, s, ⟨g', h1, h3⟩, h2 => ⟨g', h1, leads_snoc h3 h2⟩
theorem leads_V : ∀ {ss : List (List Nat)} {g g1 : Nat}, leads g ss g1 → stepsV g ss
  | [], _, _, _ => trivial
  | s :: r, g, g1, ⟨g', h1, h2⟩ => ⟨g', h1, leads_V h2⟩
theorem perm_map_inv {α β : Type} {f : α → β} {l : List α} {es : List β} (h : es.Perm (l.map f)) : ∃ l' : List α, es = l'.map f ∧ l'.Perm l := by
  have key : ∀ {xs es : List β}, xs.Perm es → ∀ l : List α, xs = l.map f → ∃ l' : List α, es = l'.map f ∧ l'.Perm l := by
    intro xs es h
    induction h with
    | nil => intro l e; exact ⟨[], rfl, by cases l with | nil => exact List.Perm.refl _ | cons a r => cases e⟩
    | cons x h ih =>
      intro l e
      cases l with
      | nil => cases e
      | cons a r =>
        rw [List.map_cons] at e
        obtain ⟨rfl, e2⟩ := List.cons.inj e
        obtain ⟨l', rfl, h2⟩ := ih r e2
        exact ⟨a :: l', rfl, h2.cons a⟩
    | swap x y zs =>
      intro l e
      match l, e with
      | a :: b :: r, e =>
        rw [List.map_cons, List.map_cons] at e
        obtain ⟨rfl, e2⟩ := List.cons.inj e
        obtain ⟨rfl, rfl⟩ := List.cons.inj e2
        exact ⟨b :: a :: r, rfl, List.Perm.swap _ _ _⟩
    | trans h1 h2 i1 i2 =>
      intro l e
      obtain ⟨l1, e1, p1⟩ := i1 l e
      obtain ⟨l2, e2, p2⟩ := i2 l1 e1
      exact ⟨l2, e2, p2.trans p1⟩
  exact key h.symm l rfl
theorem small' {n k : Nat} (h : n ≤ k) (hk : k < 16777216 := by decide) : n < sizeLine := by show n < 2 ^ 24; omega
theorem rgD_nat (k : Nat) : rgD 0 k = (List.range k).map nD := by
  unfold rgD nD
  rw [show ((k : Int) - 0).toNat = k by omega]
  simp only [Int.zero_add]
def AtI (m0 : Mu) (p q : Addr) (most many n0 : Nat) : Nat → Ro → Mu → Prop := fun i r m => ∃ (g : Nat) (ss : List (List Nat)) (x3 x6 x7 x8 : Option D),
  r = [some (.ref p), some (nD most), some (nD many), x3, some (nD g), some (.ref q), x6, x7, x8] ∧ Pen m p (n0 + 20 * i) ∧ m q = some (.lst (ss.map tD)) ∧ ss.length ≤ i ∧ leads many ss g ∧ 1 ≤ g ∧ g ≤ most ∧
  ∀ a, a ≠ p → a ≠ q → m a = m0 a
theorem v_law_attribute : Body 9 t_law_attribute s_law_attribute := by
  rintro ds m Q ⟨p, most, n, rfl, hp, hn, h1, h6, q⟩
  unfold t_law_attribute
  walk_at "d"
  refine ⟨p, most, n, rfl, hp, by omega, h1, by omega, fun r1 m1 hr1 hu1 => ?_⟩
  simp only [nD]
  walk_at "d"
  refine ⟨by decide, fun q1 hq1 => ?_⟩
  have hm1 : ∃ o, m1 p = some o := by obtain ⟨a, b, c, e, _⟩ := hu1.pen; exact ⟨_, e⟩
  have nq : q1 ≠ p := by rintro rfl; obtain ⟨o, e⟩ := hm1; rw [hq1] at e; cases e
  have hq0 : m q1 = none := by rw [hu1.other nq] at hq1; exact hq1
  have hpen : Pen (up m1 q1 (.lst [])) p (n + 1) := by
    obtain ⟨a, b, c, e, h⟩ := hu1.pen
    exact ⟨a, b, c, by rw [up_ne nq.symm]; exact e, h⟩
  refine ⟨p, 4, n + 1, rfl, hpen, by omega, by decide, by decide, fun r2 m2 hr2 hu2 => ⟨(r2 : Nat), rfl, by omega, by omega, ?_⟩⟩
  rw [rgD_nat]
  refine forGo_inv (AtI m p q1 most (1 + r1) (n + 2)) _ _ _ 0 ⟨1 + r1, [], none, none, none, none, rfl, hu2.pen, ?_, Nat.le_refl _, rfl, by omega, by omega, ?_⟩ ?_ ?_
  · rw [hu2.other nq, up_same]; rfl
  · intro a ha hb
    rw [hu2.other ha, up_ne hb, hu1.other ha]
  · rintro j d r m3 P hd ⟨g, ss, x3, x6, x7, x8, rfl, hpen3, hq3, hss, hle, hg1, hg2, hfr⟩ hP
    have hj : j < 4 := by
      have := (List.getElem?_eq_some_iff.mp hd).1
      rw [List.length_map, List.length_range] at this
      omega
    simp only [nD]
    walk_at "d"
    by_cases hg : (1 : Int) < (g : Int)
    · simp only [hg, decide_true, ↓reduceIte]
      refine ⟨p, g - 1, _, by rw [show ((g : Int) - 1) = ((g - 1 : Nat) : Int) by omega]; rfl, hpen3, by omega, by omega, by omega, fun r4 m4 hr4 hu4 => ?_⟩
      simp only [nD]
      walk_at "d"
      rw [show (g : Int) - (1 + (r4 : Int)) = ((g - (1 + r4) : Nat) : Int) by omega, rgD_nat, show (1 + (r4 : Int)) = ((1 + r4 : Nat) : Int) by omega]
      refine ⟨by omega, by omega, small (k := 1000) (by rw [List.length_map, List.length_range]; omega), ?_⟩
      refine lcGo_inv (fun i acc m' => ∃ ks : List Nat, acc = ks.map nD ∧ ks.length = i ∧ (∀ k ∈ ks, k < 1 + r4) ∧ PenU m3 p (n + 2 + 20 * (0 + j) + 1 + i) m') _ [] m4 0 ⟨[], rfl, rfl, (fun _ h => nomatch h), hu4⟩ ?_ ?_
      · rintro i x acc m5 P5 hx ⟨ks, rfl, hks, hlt, hu5⟩ hP5
        have hi : i < 6 := by
          have := (List.getElem?_eq_some_iff.mp hx).1
          rw [List.length_map, List.length_range] at this
          omega
        walk_at "d"
        refine ⟨p, 1 + r4, _, rfl, hu5.pen, by omega, by omega, by omega, fun r6 m6 hr6 hu6 => ?_⟩
        refine hP5 _ _ ⟨ks ++ [r6], by rw [List.map_append]; rfl, by rw [List.length_append, List.length_singleton, hks], fun k hk => ?_, hu5.trans hu6⟩
        rcases List.mem_append.mp hk with hk | hk
        · exact hlt k hk
        · rw [List.mem_singleton.mp hk]; exact hr6
      · rintro acc m5 ⟨ks, rfl, hks, hlt, hu5⟩
        rw [List.length_map, List.length_range] at hks hu5
        unfold dAppend dListRg
        walk_at "d"
        refine ⟨_, by rw [hu5.other nq]; exact hq3, by omega, by omega, ?_⟩
        rw [rgD_nat, ← List.map_append]
        simp only [List.length_map, List.length_range]
        refine ⟨small (k := 1000) (by omega), p, _, _, rfl, hu5.pen, ?_⟩
        have hlen : (List.range (1 + r4) ++ ks).length = g := by rw [List.length_append, List.length_range]; omega
        rw [List.length_map, hlen]
        refine ⟨by omega, by omega, fun d hd => ?_, fun es' m6 hpm hu6 => ?_⟩
        · obtain ⟨k, hk, rfl⟩ := List.mem_map.mp hd
          have : k < 1000 := by
            rcases List.mem_append.mp hk with hk | hk
            · have := List.mem_range.mp hk; omega
            · have := hlt k hk; omega
          exact (sm_int (i := (k : Int)) (by omega)).mono (by decide) (by decide)
        · obtain ⟨st, rfl, hst⟩ := perm_map_inv hpm
          walk_at "d"
          have hu7 := hu5.trans hu6
          refine ⟨ss.map tD, by rw [hu7.other nq]; exact hq3, small' (k := 1000) (by rw [List.length_map]; omega), ?_⟩
          refine hP _ _ ⟨1 + r4, ss ++ [st], _, _, _, _, rfl, ?_, ?_, ?_, leads_snoc hle ⟨?_, by omega, ?_, ?_⟩, by omega, by omega, ?_⟩
          · obtain ⟨a, b, c, e, hh⟩ := (hu7.mono (k := n + 2 + 20 * (0 + j + 1)) (by omega)).pen
            exact ⟨a, b, c, by rw [up_ne nq.symm]; exact e, hh⟩
          · rw [up_same, List.map_append]; rfl
          · rw [List.length_append, List.length_singleton]; omega
          · rw [hst.length_eq]; exact hlen
          · intro x hx
            rcases List.mem_append.mp (hst.subset hx) with hk | hk
            · exact List.mem_range.mp hk
            · exact hlt x hk
          · intro y hy
            exact hst.symm.subset (List.mem_append_left _ (List.mem_range.mpr hy))
          · intro x hx hx1
            rw [up_ne hx1, hu7.other hx]
            exact hfr x hx hx1
    · simp only [hg, decide_false, Bool.false_eq_true, ↓reduceIte]
      refine hP _ _ ⟨g, ss, _, x6, x7, x8, rfl, ?_, hq3, by omega, hle, hg1, hg2, hfr⟩
      exact (hpen3.u.mono (by omega)).pen
  · rintro r m3 ⟨g, ss, x3, x6, x7, x8, rfl, hpen3, hq3, hss, hle, hg1, hg2, hfr⟩
    rw [List.length_map, List.length_range] at hpen3 hss
    simp only [nD]
    walk_at "d"
    simp only [aTuple_ref hq3]
    walk_at "d"
    obtain ⟨a, b, c, ep, hh⟩ := hpen3
    refine ⟨by decide, end_rtL (m2 := up m p (.lst [.int a, .int b, .int c])) (fun x o e => ?_) (q ⟨1 + r1, ss⟩ _ ⟨by show 1 ≤ 1 + r1; omega, by show 1 + r1 ≤ 6; omega, by show ss.length ≤ 3; omega, leads_V hle⟩ (by show 1 + r1 ≤ most; omega) ?_)⟩
    · by_cases hx : x = p
      · subst hx
        rw [up_same] at e
        rw [ep]; exact e
      · rw [up_ne hx] at e
        have x1 : x ≠ q1 := by rintro rfl; rw [hq0] at e; cases e
        rw [hfr x hx x1]; exact e
    · exact ⟨a, b, c, rfl, hh.1, hh.2.1, hh.2.2.1, hh.2.2.2.1, by have := hh.2.2.2.2; omega⟩
end Mn

set_option linter.all false
set_option maxHeartbeats 4000000
set_option autoImplicit false
set_option maxRecDepth 100000
namespace Mn
open PySem L2
variable [Tbs]
local macro_rules | `(tactic| walk_at "d") => `(tactic| (try simp only [xNext, xSeq, xAsg, xRet, xRetF, xDrop, xIf, xPar, xPar3, xFrz, xPut, xAug, xFor, dVar, dC, dOp, dTest, dChain, dAndV, dOrV, dNotV, dAnd, dOr, dNot, dIf, dNil, dCons, dTup, dLst, dLstM, dCB, dIsi, dLc, dLcM, dYes, wipeD, dSlice, oSome, oNone, aSl_tup, aSl_lst, dNeg, dStar, dNewD, dTupVals, dCountL, dExtend, dAppend, dFrz, dLc2, dCountT, dIndexT, sqf_tup, sqf_lst, sqf_pair, sSeq, sSeq_tup, sSeq_lst, sRg1, sRg2, sZip2, sZip3, sZip4, sEnum, gV, gN, gC, gT, tupOf_tup, tupOf_pair, aAdd_int, aAdd_tup, aAdd_lst, aSub_int, aMul_int, aDiv_int, aMod_int, aPow_int, aCmp_int, aIx_tup, aIx_lst, aIx_scr, aIx_pair, aMax_int, aMin_int, aInt_bl, aInt_int, aLen_tup, aLen_lst, aLen_scr, aLen_pair, aTuple_lst, aTuple_tup, aEq_int, aNe_int, startD, List.map_cons, List.map_nil, List.length_cons, List.length_nil, List.cons_append, List.nil_append, List.replicate_zero, List.replicate_succ, List.append_nil, List.getElem?_cons_zero, List.getElem?_cons_succ, List.set_cons_zero, List.set_cons_succ, Option.some.injEq, exists_eq_left', exists_eq_left, exists_eq', D.int.injEq, D.bl.injEq, D.tup.injEq, D.lst.injEq, D.pair.injEq, D.ref.injEq, List.cons.injEq, Nat.sub_self, Nat.zero_add, Nat.add_sub_cancel, seqI_tup, seqI_lst, seqOf_tup, seqOf_lst, tyN_tup, tyN_lst, tyN_int, tyN_bl, tyN_str, tyN_non, isi_tt, at_0, at_1, at_2, at_3, Option.map_some, true_and, and_true, if_true, Bool.false_eq_true, if_false, Bool.not_true, Bool.not_false, ↓reduceIte, Nat.reduceAdd, Nat.reduceSub, exists_and_left, and_assoc]))
theorem zip_mem {α β : Type} {as : List α} {bs : List β} {p : α × β} (h : p ∈ as.zip bs) : ∃ i : Nat, as[i]? = some p.1 ∧ bs[i]? = some p.2 := by
  obtain ⟨i, hi⟩ := List.mem_iff_getElem?.mp h
  rw [List.getElem?_zip_eq_some] at hi
  exact ⟨i, hi⟩
theorem zipWith_zip {α β γ : Type} (f : α → β → γ) : ∀ (as : List α) (bs : List β), List.zipWith f as bs = (as.zip bs).map fun p => f p.1 p.2
  | [], _ => by simp
  | _ :: _, [] => by simp
  | a :: as, b :: bs => by rw [List.zipWith_cons_cons, List.zip_cons_cons, List.map_cons, zipWith_zip f as bs]
def s_sizes_at : DSp := fun ds m Q => ∃ (s : Sch) (r : List Nat), ds = [encS s, tD r] ∧ SchV s ∧ Roll s r ∧ Q (.lst ((szs s r).map nD)) m
theorem l_sizes_at : ∀ ds m Q, s_sizes_at ds m Q → ds.length = 2 := by rintro ds m Q ⟨s, r, rfl, _⟩; rfl
def t_sizes_at : DS := (xRet (dLc (sZip2 (dVar 0) (dVar 1)) [2, 3] (gT 2 (gC (gV 2) (gC (gV 3) gN))) dYes (dCB s_groups_at (dCons (dVar 2) (dCons (dVar 3) dNil)))))
theorem v_sizes_at : Body 4 t_sizes_at s_sizes_at := by
  rintro ds m Q ⟨s, r, rfl, hs, hr, q⟩
  have hq := end_rt (m0 := m) q
  have hl := hr.len; have h3 := hs.2.1
  unfold t_sizes_at encS tD
  walk_at "d"
  rw [zip2_map]
  refine ⟨small (k := 1000) (by rw [List.length_map, List.length_zip]; omega), ?_⟩
  refine lcGo_maps (fun p : At × Nat => nD (p.1.sz p.2)) _ [] _ (fun p hp K hK => ?_) ?_
  · obtain ⟨i, h1, h2⟩ := zip_mem hp
    walk_at "d"
    exact ⟨p.1, p.2, rfl, hs.2.2.1 _ (List.mem_of_getElem? h1), hr.at h1 h2, hK⟩
  · rw [List.nil_append]
    have e : ((s.zip r).map fun p : At × Nat => nD (p.1.sz p.2)) = (szs s r).map nD := by unfold szs; rw [zipWith_zip, List.map_map]; rfl
    rw [e]
    exact hq
def s_cells_of : DSp := fun ds m Q => ∃ (s : Sch) (r : List Nat), ds = [encS s, tD r] ∧ SchV s ∧ Roll s r ∧ Q (.lst ((cellsOf s r).map tD)) m
theorem l_cells_of : ∀ ds m Q, s_cells_of ds m Q → ds.length = 2 := by rintro ds m Q ⟨s, r, rfl, _⟩; rfl
def t_cells_of : DS := (xRet (dCB s_tuples_below (dCons (dCB s_sizes_at (dCons (dVar 0) (dCons (dVar 1) dNil))) dNil)))
theorem v_cells_of : Body 2 t_cells_of s_cells_of := by
  rintro ds m Q ⟨s, r, rfl, hs, hr, q⟩
  have h3 := hs.2.1
  unfold t_cells_of
  walk_at "d"
  exact ⟨s, r, rfl, hs, hr, szs s r, rfl, by rw [szs_len hr]; exact h3, fun k hk => (szs_le hs hr k hk).2, end_rt q⟩
def s_size_of : DSp := fun ds m Q => ∃ (s : Sch) (r : List Nat), ds = [encS s, tD r] ∧ SchV s ∧ Roll s r ∧ Q (nD (prodN (szs s r))) m
theorem l_size_of : ∀ ds m Q, s_size_of ds m Q → ds.length = 2 := by rintro ds m Q ⟨s, r, rfl, _⟩; rfl
def t_size_of : DS := (xRet (dCB s_product_of (dCons (dCB s_sizes_at (dCons (dVar 0) (dCons (dVar 1) dNil))) dNil)))
theorem v_size_of : Body 2 t_size_of s_size_of := by
  rintro ds m Q ⟨s, r, rfl, hs, hr, q⟩
  have h3 := hs.2.1
  unfold t_size_of
  walk_at "d"
  refine ⟨s, r, rfl, hs, hr, (szs s r).map fun k : Nat => (k : Int), by rw [List.map_map]; rfl, fun n hn => ?_, by rw [List.length_map, szs_len hr]; omega, ?_⟩
  · obtain ⟨k, hk, rfl⟩ := List.mem_map.mp hn
    have := szs_le hs hr k hk
    omega
  · have e : prodI ((szs s r).map fun k : Nat => (k : Int)) = (prodN (szs s r) : Nat) := prod_cast (szs s r) 1
    rw [e]
    exact end_rt q
def s_finest : DSp := fun ds m Q => ∃ s : Sch, ds = [encS s] ∧ SchV s ∧ Q (tD (finN s)) m
theorem l_finest : ∀ ds m Q, s_finest ds m Q → ds.length = 1 := by rintro ds m Q ⟨s, rfl, _⟩; rfl
def t_finest : DS := (xRet (dOp aMulA (dTup (dCons (dC (.int 0)) dNil)) (dCB aLen (dCons (dVar 0) dNil))))
theorem rep_tD (k : Nat) : (List.replicate k [D.int 0]).flatten = (List.replicate k 0).map nD := by
  induction k with
  | zero => rfl
  | succ k ih => rw [List.replicate_succ, List.flatten_cons, ih, List.replicate_succ]; rfl
theorem v_finest : Body 1 t_finest s_finest := by
  rintro ds m Q ⟨s, rfl, hs, q⟩
  have hq := end_rt (m0 := m) q
  have h1 := hs.1; have h3 := hs.2.1
  unfold t_finest encS
  walk_at "d"
  rw [List.length_map]
  refine ⟨by decide, by simp, by simp, by omega, by omega, ?_⟩
  rw [Int.toNat_natCast, rep_tD]
  exact hq
/-! cells -/
def isCell (s : Sch) (r : List Nat) (d : D) : Bool := match d with
  | .tup ds => decide (ds.length = s.length) && (List.zipWith (fun x (k : Nat) => betw x 0 ((k : Int) - 1)) ds (szs s r)).all id
  | _ => false
def Cell (s : Sch) (r c : List Nat) : Prop := Below c (szs s r)
theorem Cell.ok {s : Sch} {r c : List Nat} (hr : Roll s r) (h : Cell s r c) : isCell s r (tD c) = true := by
  have hl := szs_len hr
  simp only [isCell, tD, List.length_map, Bool.and_eq_true, decide_eq_true_eq]
  refine ⟨by have := h.1; omega, ?_⟩
  rw [List.all_eq_true]
  intro b hb
  obtain ⟨i, hi⟩ := List.mem_iff_getElem?.mp hb
  rw [List.getElem?_zipWith, List.getElem?_map] at hi
  cases hc : c[i]? with
  | none => rw [hc] at hi; simp at hi
  | some x =>
    cases hk : (szs s r)[i]? with
    | none => rw [hc, hk] at hi; simp at hi
    | some k =>
      rw [hc, hk] at hi
      simp only [Option.map_some, Option.some.injEq] at hi
      subst hi
      have := h.2 i x k hc hk
      simp only [betw, nD, id, Bool.and_eq_true, decide_eq_true_eq]
      omega
theorem Cell.len {s : Sch} {r c : List Nat} (hr : Roll s r) (h : Cell s r c) : c.length = s.length := by rw [h.1, szs_len hr]
theorem Cell.at {s : Sch} {r c : List Nat} (h : Cell s r c) {i : Nat} {a : At} {l x : Nat} (ha : s[i]? = some a) (hl : r[i]? = some l) (hx : c[i]? = some x) : x < a.sz l := by
  refine h.2 i x _ hx ?_
  unfold szs
  rw [List.getElem?_zipWith, ha, hl]
theorem cell_iff {s : Sch} {r c : List Nat} : c ∈ cellsOf s r ↔ Cell s r c := mem_cellsN _ _
def s_is_cell : DSp := fun ds m Q => ∃ (s : Sch) (r : List Nat) (d : D), ds = [encS s, tD r, d] ∧ SchV s ∧ Roll s r ∧ Kn m d ∧ Q (.bl (isCell s r d)) m
theorem l_is_cell : ∀ ds m Q, s_is_cell ds m Q → ds.length = 3 := by rintro ds m Q ⟨s, r, d, rfl, _⟩; rfl
def t_is_cell : DS := (xSeq (xIf (dOr (dNot (dTest (dIsi "tuple" (dVar 2)))) (dTest (dOp aNe (dCB aLen (dCons (dVar 2) dNil)) (dCB aLen (dCons (dVar 0) dNil))))) (xRet (dC (.bl false))) xNext)
  (xRet (dCB aAll (dCons (dLc (sZip2 (dVar 2) (dCB s_sizes_at (dCons (dVar 0) (dCons (dVar 1) dNil)))) [3, 4] (gT 2 (gC (gV 3) (gC (gV 4) gN))) dYes (dCB s_is_between (dCons (dVar 3) (dCons (dC (.int 0)) (dCons (dOp aSub (dVar 4) (dC (.int 1))) dNil))))) dNil))))
theorem zip2_id {β : Type} {eb : β → D} (ds : List D) (bs : List β) : zip2 ds (bs.map eb) = (ds.zip bs).map fun p => D.pair [p.1, eb p.2] := by
  have := zip2_map (ea := id) (eb := eb) ds bs
  rw [List.map_id] at this
  exact this
theorem v_is_cell : Body 5 t_is_cell s_is_cell := by
  rintro ds m Q ⟨s, r, d, rfl, hs, hr, ht, q⟩
  have hq := end_rt (m0 := m) q
  obtain ⟨t, et⟩ := ht.ty
  unfold t_is_cell
  cases d with
  | tup ls =>
    have e0 : encS s = .tup (s.map At.enc) := rfl
    walk_at "d"
    simp only [e0]
    walk_at "d"
    rw [List.length_map]
    by_cases hl : ls.length = s.length
    · have e1 : (ls.length : Int) = s.length := by omega
      simp only [e1, decide_true, Bool.not_true, Bool.false_eq_true, ↓reduceIte]
      refine ⟨s, r, rfl, hs, hr, _, rfl, ?_⟩
      have h3 := hs.2.1
      rw [zip2_id]
      refine ⟨small (k := 1000) (by rw [List.length_map, List.length_zip]; omega), ?_⟩
      refine lcGo_maps (fun p : D × Nat => .bl (betw p.1 0 ((p.2 : Int) - 1))) _ [] _ (fun p hp K hK => ?_) ?_
      · obtain ⟨i, h1, h2⟩ := zip_mem hp
        unfold nD
        walk_at "d"
        exact ⟨p.1, 0, _, rfl, ht.tup (List.mem_of_getElem? h1), hK⟩
      · rw [List.nil_append]
        have e : ((ls.zip (szs s r)).map fun p : D × Nat => D.bl (betw p.1 0 ((p.2 : Int) - 1))) = (List.zipWith (fun x (k : Nat) => betw x 0 ((k : Int) - 1)) ls (szs s r)).map D.bl := by
          rw [zipWith_zip, List.map_map]; rfl
        rw [e]
        refine aAll_list ?_
        simpa only [isCell, hl, decide_true, Bool.true_and] using hq
    · have e1 : ¬ (ls.length : Int) = s.length := by omega
      simp only [e1, decide_false, Bool.not_false, ↓reduceIte]
      simpa only [isCell, hl, decide_false, Bool.false_and] using hq
  | _ =>
    have e2 := isi_tup et
    simp only [xSeq, xIf, dOr, dNot, dTest, dIsi, dVar]
    refine ⟨_, rfl, t, et, _, rfl, ?_⟩
    rw [e2]
    exact hq
def s_need_cell : DSp := fun ds m Q => ∃ (s : Sch) (r c : List Nat), ds = [encS s, tD r, tD c] ∧ SchV s ∧ Roll s r ∧ Cell s r c ∧ Q .non m
theorem l_need_cell : ∀ ds m Q, s_need_cell ds m Q → ds.length = 3 := by rintro ds m Q ⟨s, r, d, rfl, _⟩; rfl
def t_need_cell : DS := (xIf (dNot (dTest (dCB s_is_cell (dCons (dVar 0) (dCons (dVar 1) (dCons (dVar 2) dNil)))))) xNever xNext)
theorem v_need_cell : Body 3 t_need_cell s_need_cell := by
  rintro ds m Q ⟨s, r, c, rfl, hs, hr, hc, q⟩
  unfold t_need_cell
  walk_at "d"
  refine ⟨s, r, _, rfl, hs, hr, kn_tD m c, _, rfl, ?_⟩
  rw [hc.ok hr]
  exact end_nx q
theorem fine_at {a b : List Nat} (h : fineB a b = true) {i x y : Nat} (hx : a[i]? = some x) (hy : b[i]? = some y) : x ≤ y := by
  unfold fineB at h
  rw [List.all_eq_true] at h
  have : (List.zipWith (fun x y => decide (x ≤ y)) a b)[i]? = some (decide (x ≤ y)) := by rw [List.getElem?_zipWith, hx, hy]
  exact of_decide_eq_true (h _ (List.mem_of_getElem? this))
theorem fine_of {a b : List Nat} (h : ∀ (i x y : Nat), a[i]? = some x → b[i]? = some y → x ≤ y) : fineB a b = true := by
  unfold fineB
  rw [List.all_eq_true]
  intro c hc
  obtain ⟨i, hi⟩ := List.mem_iff_getElem?.mp hc
  rw [List.getElem?_zipWith] at hi
  cases ha : a[i]? with
  | none => rw [ha] at hi; simp at hi
  | some x =>
    cases hb : b[i]? with
    | none => rw [ha, hb] at hi; simp at hi
    | some y =>
      rw [ha, hb] at hi
      simp only [Option.some.injEq] at hi
      rw [← hi]
      exact decide_eq_true (h i x y ha hb)
/-! the cell above -/
def s_cell_above : DSp := fun ds m Q => ∃ (s : Sch) (r c o : List Nat), ds = [encS s, tD r, tD c, tD o] ∧ SchV s ∧ Roll s r ∧ Cell s r c ∧ Roll s o ∧ fineB r o = true ∧ Q (tD (abv s r c o)) m
theorem l_cell_above : ∀ ds m Q, s_cell_above ds m Q → ds.length = 4 := by rintro ds m Q ⟨s, r, c, o, rfl, _⟩; rfl
def t_cell_above : DS := (xSeq (xAsg (dLstM dNil) (gV 4))
  (xSeq (xFor (sEnum (dVar 0)) (gT 2 (gC (gV 5) (gC (gV 6) gN))) (xDrop (dAppend (dVar 4) (dCB s_group_above (dCons (dVar 6) (dCons (dOp aIx (dVar 2) (dVar 5)) (dCons (dOp aIx (dVar 1) (dVar 5)) (dCons (dOp aIx (dVar 3) (dVar 5)) dNil))))))))
  (xRet (dCB aTuple (dCons (dVar 4) dNil)))))
theorem abv_len {s : Sch} {r c o : List Nat} (hr : r.length = s.length) (hc : c.length = s.length) (ho : o.length = s.length) : (abv s r c o).length = s.length := by
  unfold abv; simp only [List.length_map, List.length_zip]; omega
theorem abv_at {s : Sch} {r c o : List Nat} {i : Nat} {a : At} {x l k : Nat} (ha : s[i]? = some a) (hx : c[i]? = some x) (hl : r[i]? = some l) (hk : o[i]? = some k) : (abv s r c o)[i]? = some (a.up x l k) := by
  unfold abv
  rw [List.getElem?_map]
  have : (s.zip (c.zip (r.zip o)))[i]? = some (a, x, l, k) := by
    rw [List.getElem?_zip_eq_some, List.getElem?_zip_eq_some, List.getElem?_zip_eq_some]
    exact ⟨ha, hx, hl, hk⟩
  rw [this]; rfl
theorem get_ex {α : Type} {l : List α} {i : Nat} (h : i < l.length) : ∃ x, l[i]? = some x := ⟨l[i], List.getElem?_eq_getElem h⟩
theorem v_cell_above : Body 7 t_cell_above s_cell_above := by
  rintro ds m Q ⟨s, r, c, o, rfl, hs, hr, hc, ho, hf, q⟩
  have hrl := hr.len; have hol := ho.len; have hcl := hc.len hr; have h3 := hs.2.1
  unfold t_cell_above encS
  walk_at "d"
  refine ⟨by decide, fun p hp => ?_⟩
  rw [enumD_map]
  refine forGo_take (enc := fun p : At × Nat => D.pair [.int (p.2 : Nat), p.1.enc]) (fun pre rr m' => ∃ x5 x6, rr = [some (.tup (s.map At.enc)), some (tD r), some (tD c), some (tD o), some (.ref p), x5, x6] ∧ m' = up m p (.lst (((abv s r c o).take pre.length).map nD))) (s.zipIdx 0) [] _ _ _ rfl ⟨none, none, rfl, rfl⟩ ?_ ?_
  · rintro pre ⟨a, i⟩ post rr m' P e ⟨x5, x6, rfl, rfl⟩ hP
    have hi : (s.zipIdx 0)[pre.length]? = some (a, i) := by rw [e, List.getElem?_append_right (Nat.le_refl _), Nat.sub_self]; rfl
    rw [List.getElem?_zipIdx] at hi
    obtain ⟨a', ha, e2⟩ := Option.map_eq_some_iff.mp hi
    simp only [Prod.mk.injEq, Nat.zero_add] at e2
    obtain ⟨rfl, rfl⟩ := e2
    have hil : pre.length < s.length := (List.getElem?_eq_some_iff.mp ha).1
    obtain ⟨x, hx⟩ := get_ex (l := c) (i := pre.length) (by omega)
    obtain ⟨l, hl⟩ := get_ex (l := r) (i := pre.length) (by omega)
    obtain ⟨k, hk⟩ := get_ex (l := o) (i := pre.length) (by omega)
    have ta : ∀ (z : List Nat) (y : Nat), z[pre.length]? = some y → at_ (z.map nD) (pre.length : Int) = some (nD y) := fun z y hy => by rw [at_nat, List.getElem?_map, hy]; rfl
    walk_at "d"
    refine ⟨_, up_same, ?_⟩
    unfold tD
    walk_at "d"
    refine ⟨_, ta c x hx, _, ta r l hl, _, ta o k hk, ?_⟩
    refine ⟨a', x, l, k, rfl, hs.2.2.1 a' (List.mem_of_getElem? ha), fine_at hf hl hk, ho.at ha hk, hc.at ha hl hx, ?_⟩
    refine ⟨_, up_same, ?_⟩
    rw [up_up]
    refine ⟨small' (k := 1000) (by rw [List.length_map, List.length_take]; omega), hP _ _ ⟨_, _, rfl, ?_⟩⟩
    rw [List.length_append, List.length_singleton, List.take_add_one, abv_at ha hx hl hk, List.map_append]
    rfl
  · rintro rr m' ⟨x5, x6, rfl, rfl⟩
    walk_at "d"
    have e : (s.zipIdx 0).length = (abv s r c o).length := by rw [List.length_zipIdx, abv_len hrl hcl hol]
    rw [e, List.take_length]
    simp only [aTuple_ref up_same]
    refine end_rtL (m2 := m) (fun b z hb => ?_) q
    rw [up_ne (fun z => by subst z; rw [hp] at hb; cases hb)]
    exact hb
end Mn

set_option linter.all false
set_option maxHeartbeats 4000000
set_option autoImplicit false
set_option maxRecDepth 100000
namespace Mn
open PySem L2
variable [Tbs]
local macro_rules | `(tactic| walk_at "d") => `(tactic| (try simp only [xNext, xSeq, xAsg, xRet, xRetF, xDrop, xIf, xPar, xPar3, xFrz, xPut, xAug, xFor, dVar, dC, dOp, dTest, dChain, dAndV, dOrV, dNotV, dAnd, dOr, dNot, dIf, dNil, dCons, dTup, dLst, dLstM, dCB, dIsi, dLc, dLcM, dYes, wipeD, dSlice, oSome, oNone, aSl_tup, aSl_lst, dNeg, dStar, dNewD, dTupVals, dCountL, dExtend, dAppend, dFrz, dLc2, dCountT, dIndexT, sqf_tup, sqf_lst, sqf_pair, sSeq, sSeq_tup, sSeq_lst, sRg1, sRg2, sZip2, sZip3, sZip4, sEnum, gV, gN, gC, gT, tupOf_tup, tupOf_pair, aAdd_int, aAdd_tup, aAdd_lst, aSub_int, aMul_int, aDiv_int, aMod_int, aPow_int, aCmp_int, aIx_tup, aIx_lst, aIx_scr, aIx_pair, aMax_int, aMin_int, aInt_bl, aInt_int, aLen_tup, aLen_lst, aLen_scr, aLen_pair, aTuple_lst, aTuple_tup, aEq_int, aNe_int, startD, List.map_cons, List.map_nil, List.length_cons, List.length_nil, List.cons_append, List.nil_append, List.replicate_zero, List.replicate_succ, List.append_nil, List.getElem?_cons_zero, List.getElem?_cons_succ, List.set_cons_zero, List.set_cons_succ, Option.some.injEq, exists_eq_left', exists_eq_left, exists_eq', D.int.injEq, D.bl.injEq, D.tup.injEq, D.lst.injEq, D.pair.injEq, D.ref.injEq, List.cons.injEq, Nat.sub_self, Nat.zero_add, Nat.add_sub_cancel, seqI_tup, seqI_lst, seqOf_tup, seqOf_lst, tyN_tup, tyN_lst, tyN_int, tyN_bl, tyN_str, tyN_non, isi_tt, at_0, at_1, at_2, at_3, Option.map_some, true_and, and_true, if_true, Bool.false_eq_true, if_false, Bool.not_true, Bool.not_false, ↓reduceIte, Nat.reduceAdd, Nat.reduceSub, exists_and_left, and_assoc]))
/-! own groups -/
def ownG (a : At) (l g : Nat) : Nat × Nat :=
  if h : l < a.ss.length ∧ (a.ss.getD l []).count (stepG (a.ss.getD l []) g) = 1 then ownG a (l + 1) (stepG (a.ss.getD l []) g) else (l, g)
termination_by a.ss.length - l
decreasing_by omega
theorem ownG_yes {a : At} {l g : Nat} (h1 : l < a.ss.length) (h2 : (a.ss.getD l []).count (stepG (a.ss.getD l []) g) = 1) : ownG a l g = ownG a (l + 1) (stepG (a.ss.getD l []) g) := by
  rw [ownG, dif_pos ⟨h1, h2⟩]
theorem ownG_no {a : At} {l g : Nat} (h : ¬ (l < a.ss.length ∧ (a.ss.getD l []).count (stepG (a.ss.getD l []) g) = 1)) : ownG a l g = (l, g) := by
  rw [ownG, dif_neg h]
def ownL (s : Sch) (r c : List Nat) : List Nat := (s.zip (r.zip c)).map fun p => (ownG p.1 p.2.1 p.2.2).1
def ownC (s : Sch) (r c : List Nat) : List Nat := (s.zip (r.zip c)).map fun p => (ownG p.1 p.2.1 p.2.2).2
end Mn

set_option linter.all false
set_option maxHeartbeats 4000000
set_option autoImplicit false
set_option maxRecDepth 100000
namespace Mn
open PySem L2
variable [Tbs]
local macro_rules | `(tactic| walk_at "d") => `(tactic| (try simp only [xNext, xSeq, xAsg, xRet, xRetF, xDrop, xIf, xPar, xPar3, xFrz, xPut, xAug, xFor, dVar, dC, dOp, dTest, dChain, dAndV, dOrV, dNotV, dAnd, dOr, dNot, dIf, dNil, dCons, dTup, dLst, dLstM, dCB, dIsi, dLc, dLcM, dYes, wipeD, dSlice, oSome, oNone, aSl_tup, aSl_lst, dNeg, dStar, dNewD, dTupVals, dCountL, dExtend, dAppend, dFrz, dLc2, dCountT, dIndexT, sqf_tup, sqf_lst, sqf_pair, sSeq, sSeq_tup, sSeq_lst, sRg1, sRg2, sZip2, sZip3, sZip4, sEnum, gV, gN, gC, gT, tupOf_tup, tupOf_pair, aAdd_int, aAdd_tup, aAdd_lst, aSub_int, aMul_int, aDiv_int, aMod_int, aPow_int, aCmp_int, aIx_tup, aIx_lst, aIx_scr, aIx_pair, aMax_int, aMin_int, aInt_bl, aInt_int, aLen_tup, aLen_lst, aLen_scr, aLen_pair, aTuple_lst, aTuple_tup, aEq_int, aNe_int, startD, List.map_cons, List.map_nil, List.length_cons, List.length_nil, List.cons_append, List.nil_append, List.replicate_zero, List.replicate_succ, List.append_nil, List.getElem?_cons_zero, List.getElem?_cons_succ, List.set_cons_zero, List.set_cons_succ, Option.some.injEq, exists_eq_left', exists_eq_left, exists_eq', D.int.injEq, D.bl.injEq, D.tup.injEq, D.lst.injEq, D.pair.injEq, D.ref.injEq, List.cons.injEq, Nat.sub_self, Nat.zero_add, Nat.add_sub_cancel, seqI_tup, seqI_lst, seqOf_tup, seqOf_lst, tyN_tup, tyN_lst, tyN_int, tyN_bl, tyN_str, tyN_non, isi_tt, at_0, at_1, at_2, at_3, Option.map_some, true_and, and_true, if_true, Bool.false_eq_true, if_false, Bool.not_true, Bool.not_false, ↓reduceIte, Nat.reduceAdd, Nat.reduceSub, exists_and_left, and_assoc]))
/-! the law's own view: rows of groups, value by value -/
theorem at_last (ds : List D) (d : D) : at_ (ds ++ [d]) (-1) = some d := by
  unfold at_
  rw [if_neg (by decide), if_pos (by rw [List.length_append, List.length_singleton]; omega), List.length_append, List.length_singleton]
  rw [show (-1 + ((ds.length + 1 : Nat) : Int)).toNat = ds.length by omega, List.getElem?_append_right (Nat.le_refl _), Nat.sub_self]
  rfl
theorem er_back {m : Mu} {p : Addr} {o : MO} (h : m p = none) : er (up m p o) p = m := er_up h
def s_law_tuples : DSp := fun ds m Q => ∃ ns : List Nat, ds = [.lst (ns.map nD)] ∧ ns.length ≤ 3 ∧ (∀ k ∈ ns, k ≤ 6) ∧ Q (.lst ((cellsN ns).map tD)) m
theorem l_law_tuples : ∀ ds m Q, s_law_tuples ds m Q → ds.length = 1 := by rintro ds m Q ⟨ns, rfl, _⟩; rfl
def t_law_tuples : DS := (xSeq (xAsg (dLst (dCons (dTup dNil) dNil)) (gV 1))
  (xSeq (xFor (sSeq (dVar 0)) (gV 2) (xSeq (xAsg (dLstM dNil) (gV 3))
  (xSeq (xFor (sSeq (dVar 1)) (gV 4) (xDrop (dExtend (dVar 3) (dLc (sRg1 (dVar 2)) [5] (gV 5) dYes (dOp aAdd (dVar 4) (dTup (dCons (dVar 5) dNil)))))))
  (xAsg (dFrz 3) (gV 1)))))
  (xRet (dVar 1))))
theorem v_law_tuples : Body 6 t_law_tuples s_law_tuples := by
  rintro ds m Q ⟨ns, rfl, hl, hk, q⟩
  have hq := end_rt (m0 := m) q
  unfold t_law_tuples
  walk_at "d"
  refine ⟨by decide, by decide, _, .inl rfl, ?_⟩
  refine forGo_take (enc := nD) (fun pre r m' => m' = m ∧ ∃ x2 x3 x4 x5, r = [some (.lst (ns.map nD)), some (.lst ((cellsN pre).map tD)), x2, x3, x4, x5]) ns [] _ _ _ rfl ⟨rfl, none, none, none, none, rfl⟩ ?_ ?_
  · rintro pre k post r m' P e ⟨rfl, x2, x3, x4, x5, rfl⟩ hP
    unfold nD
    walk_at "d"
    have hk6 : k ≤ 6 := hk k (by rw [e]; simp)
    have hp3 : pre.length < 3 := by have := congrArg List.length e; rw [List.length_append, List.length_cons] at this; omega
    have hpp : prodN pre ≤ 216 := prodN_le pre (by omega) fun x hx => hk x (by rw [e]; simp [hx])
    refine ⟨by decide, fun p hp => ⟨_, .inl rfl, ?_⟩⟩
    refine forGo_take (enc := tD) (fun done r2 m2 => m2 = up m' p (.lst ((done.flatMap fun row => (List.range k).map fun j => row ++ [j]).map tD)) ∧ ∃ x4 x5, r2 = [some (.lst (ns.map nD)), some (.lst ((cellsN pre).map tD)), some (nD k), some (.ref p), x4, x5]) (cellsN pre) [] _ _ _ rfl ⟨rfl, x4, x5, rfl⟩ ?_ ?_
    · rintro done row post2 r2 m2 P2 e2 ⟨rfl, y4, y5, rfl⟩ hP2
      unfold nD
      walk_at "d"
      have hrow : row ∈ cellsN pre := by rw [e2]; simp
      have hrl := cells_item hrow
      have hdl : done.length ≤ 216 := by
        have := congrArg List.length e2
        rw [cellsN_len, List.length_append] at this
        omega
      refine ⟨_, up_same, by omega, by omega, ?_⟩
      rw [rgD_map]
      refine ⟨small (k := 1000) (by rw [List.length_map, List.length_range]; omega), ?_⟩
      refine lcGo_maps (fun j : Nat => tD (row ++ [j])) (List.range k) [] _ (fun j hj K hK => ?_) ?_
      · unfold tD at hK ⊢
        walk_at "d"
        refine ⟨by decide, small (k := 1000) (by rw [List.length_map]; omega), ?_⟩
        rw [List.map_append] at hK
        exact hK
      · rw [List.nil_append]
        refine ⟨_, up_same, _, rfl, ?_, ?_⟩
        · rw [List.length_map, List.length_map, List.length_range, cellsN_length_step, sizeLine_eq]
          have := Nat.mul_le_mul hdl hk6
          omega
        · rw [up_up]
          refine hP2 _ _ ⟨?_, _, _, rfl⟩
          rw [List.flatMap_append, List.map_append, List.flatMap_cons, List.flatMap_nil, List.append_nil, List.map_map]
          rfl
    · rintro r2 m2 ⟨rfl, y4, y5, rfl⟩
      walk_at "d"
      refine ⟨_, up_same, ?_⟩
      rw [er_back hp, ← cellsN_snoc]
      exact hP _ _ ⟨rfl, _, _, _, _, rfl⟩
  · rintro r m' ⟨rfl, x2, x3, x4, x5, rfl⟩
    walk_at "d"
    exact hq
def s_law_all_cells : DSp := fun ds m Q => ∃ (s : Sch) (r : List Nat), ds = [encS s, tD r] ∧ SchV s ∧ Roll s r ∧ Q (.lst ((cellsOf s r).map tD)) m
end Mn

set_option linter.all false
set_option maxHeartbeats 4000000
set_option autoImplicit false
set_option maxRecDepth 100000
namespace Mn
open PySem L2
variable [Tbs]
local macro_rules | `(tactic| walk_at "d") => `(tactic| (try simp only [xNext, xSeq, xAsg, xRet, xRetF, xDrop, xIf, xPar, xPut, xAug, xFor, dVar, dC, dOp, dTest, dChain, dAndV, dOrV, dNotV, dAnd, dOr, dNot, dIf, dNil, dCons, dTup, dLst, dLstM, dCB, dIsi, dLc, dLcM, dYes, wipeD, sSeq, sSeq_tup, sSeq_lst, sRg1, sRg2, sZip2, sZip3, sEnum, gV, gN, gC, gT, tupOf_tup, tupOf_pair, aAdd_int, aAdd_tup, aAdd_lst, aSub_int, aMul_int, aDiv_int, aMod_int, aPow_int, aCmp_int, aIx_tup, aIx_lst, aIx_scr, aIx_pair, aMax_int, aMin_int, aInt_bl, aInt_int, aLen_tup, aLen_lst, aLen_scr, aLen_pair, aTuple_lst, aTuple_tup, aEq_int, aNe_int, startD, List.map_cons, List.map_nil, List.length_cons, List.length_nil, List.cons_append, List.nil_append, List.replicate_zero, List.replicate_succ, List.append_nil, List.getElem?_cons_zero, List.getElem?_cons_succ, List.set_cons_zero, List.set_cons_succ, Option.some.injEq, exists_eq_left', exists_eq_left, exists_eq', D.int.injEq, D.bl.injEq, D.tup.injEq, D.lst.injEq, D.pair.injEq, D.ref.injEq, List.cons.injEq, Nat.sub_self, Nat.zero_add, Nat.add_sub_cancel, seqI_tup, seqI_lst, seqOf_tup, seqOf_lst, tyN_tup, tyN_lst, tyN_int, tyN_bl, tyN_str, tyN_non, isi_tt, at_0, at_1, at_2, at_3, Option.map_some, true_and, and_true, if_true, Bool.false_eq_true, if_false, Bool.not_true, Bool.not_false, ↓reduceIte, Nat.reduceAdd, Nat.reduceSub, exists_and_left, and_assoc]))
theorem prodN_snoc (l : List Nat) (a : Nat) : prodN (l ++ [a]) = prodN l * a := by unfold prodN; rw [List.foldl_append]; rfl
def mss : List (List Nat) := [[6], [6, 6], [4, 6], [3, 3, 3], [6, 3, 3], [2, 4, 4], [6, 5, 2]]
theorem mss_ok : ∀ ms ∈ mss, 1 ≤ ms.length ∧ ms.length ≤ 3 ∧ prodN ms ≤ 60 ∧ ∀ k ∈ ms, 1 ≤ k ∧ k ≤ 6 := by decide
def s_law_scheme : DSp := fun ds m Q => ∃ (p : Addr) (n : Nat), ds = [.ref p] ∧ Pen m p n ∧ n ≤ 800000000 ∧ ∀ s m', SchV s → PenU m p (n + 400) m' → Q (encS s) m'
theorem l_law_scheme : ∀ ds m Q, s_law_scheme ds m Q → ds.length = 1 := by rintro ds m Q ⟨s, n, rfl, _⟩; rfl
def t_law_scheme : DS := (xSeq (xAsg (dCB s_law_pick (dCons (dVar 0) (dCons (dLst (dCons (dLst (dCons (dC (.int 6)) dNil)) (dCons (dLst (dCons (dC (.int 6)) (dCons (dC (.int 6)) dNil))) (dCons (dLst (dCons (dC (.int 4)) (dCons (dC (.int 6)) dNil))) (dCons (dLst (dCons (dC (.int 3)) (dCons (dC (.int 3)) (dCons (dC (.int 3)) dNil)))) (dCons (dLst (dCons (dC (.int 6)) (dCons (dC (.int 3)) (dCons (dC (.int 3)) dNil)))) (dCons (dLst (dCons (dC (.int 2)) (dCons (dC (.int 4)) (dCons (dC (.int 4)) dNil)))) (dCons (dLst (dCons (dC (.int 6)) (dCons (dC (.int 5)) (dCons (dC (.int 2)) dNil)))) dNil)))))))) dNil))) (gV 1))
  (xRet (dCB aTuple (dCons (dLc (sSeq (dVar 1)) [2] (gV 2) dYes (dCB s_law_attribute (dCons (dVar 0) (dCons (dVar 2) dNil)))) dNil))))
theorem v_law_scheme : Body 3 t_law_scheme s_law_scheme := by
  rintro ds m Q ⟨p, n, rfl, hp, hn, q⟩
  unfold t_law_scheme
  walk_at "d"
  refine ⟨by decide, by decide, by decide, by decide, by decide, by decide, by decide, by decide, p, _, _, n, rfl, Or.inl rfl, hp, by omega, by decide, by decide, fun d m1 hd hu1 => ?_⟩
  have hd' : d ∈ mss.map fun ms => D.lst (ms.map nD) := hd
  obtain ⟨ms, hms, rfl⟩ := List.mem_map.mp hd'
  obtain ⟨k1, k2, k3, k4⟩ := mss_ok ms hms
  walk_at "d"
  refine ⟨_, .inl rfl, by rw [List.length_map]; exact small (k := 1000) (by omega), ?_⟩
  refine lcGo_inv (fun i acc m' => ∃ s : Sch, acc = s.map At.enc ∧ s.length = i ∧ (∀ a ∈ s, a.V) ∧ prodN (s.map At.n) ≤ prodN (ms.take i) ∧ PenU m p (n + 1 + 100 * i) m') _ [] m1 0 ⟨[], rfl, rfl, (fun _ h => nomatch h), Nat.le_refl _, hu1⟩ ?_ ?_
  · rintro i x acc m5 P5 hx ⟨s, rfl, hks, hV, hpr, hu5⟩ hP5
    rw [List.getElem?_map] at hx
    obtain ⟨k, hk, rfl⟩ := Option.map_eq_some_iff.mp hx
    have hki := k4 k (List.mem_of_getElem? hk)
    have hi : i < ms.length := (List.getElem?_eq_some_iff.mp hk).1
    walk_at "d"
    refine ⟨p, k, _, rfl, hu5.pen, by omega, hki.1, hki.2, fun a m6 ha hak hu6 => ?_⟩
    refine hP5 _ _ ⟨s ++ [a], by rw [List.map_append]; rfl, by rw [List.length_append, List.length_singleton, hks], fun b hb => ?_, ?_, (hu5.trans hu6).mono (by omega)⟩
    · rcases List.mem_append.mp hb with hb | hb
      · exact hV b hb
      · rw [List.mem_singleton.mp hb]; exact ha
    · rw [List.map_append, List.map_singleton, prodN_snoc, Nat.zero_add, List.take_add_one, hk, Option.toList_some, prodN_snoc]
      rw [Nat.zero_add] at hpr
      exact Nat.mul_le_mul hpr hak
  · rintro acc m5 ⟨s, rfl, hks, hV, hpr, hu5⟩
    rw [List.length_map] at hks hu5 hpr
    walk_at "d"
    rw [Nat.zero_add, List.take_length] at hpr
    exact ⟨_, fun _ _ e => e, q s _ ⟨by omega, by omega, hV, by omega⟩ (hu5.mono (by omega))⟩
theorem roll_of {s : Sch} {l : List Nat} (hl : l.length = s.length) (h : ∀ (i : Nat) (a : At) (k : Nat), s[i]? = some a → l[i]? = some k → k ≤ a.ss.length) : Roll s l := by
  simp only [Roll, tD, isRoll, Bool.and_eq_true, decide_eq_true_eq, List.length_map]
  refine ⟨hl, ?_⟩
  rw [List.all_eq_true]
  intro b hb
  obtain ⟨i, hi, rfl⟩ := List.mem_iff_getElem.mp hb
  rw [List.length_zipWith, List.length_map] at hi
  rw [List.getElem_zipWith, List.getElem_map]
  have := h i s[i] l[i] (List.getElem?_eq_getElem (by omega)) (List.getElem?_eq_getElem (by omega))
  simp only [betw, nD, id, Bool.and_eq_true, decide_eq_true_eq]
  omega
end Mn

set_option linter.all false
set_option maxHeartbeats 4000000
set_option autoImplicit false
set_option maxRecDepth 100000
namespace Mn
open PySem L2
variable [Tbs]
local macro_rules | `(tactic| walk_at "d") => `(tactic| (try simp only [xNext, xSeq, xAsg, xRet, xRetF, xDrop, xIf, xPar, xPar3, xFrz, xPut, xAug, xFor, dVar, dC, dOp, dTest, dChain, dAndV, dOrV, dNotV, dAnd, dOr, dNot, dIf, dNil, dCons, dTup, dLst, dLstM, dCB, dIsi, dLc, dLcM, dYes, wipeD, dSlice, oSome, oNone, aSl_tup, aSl_lst, dNeg, dStar, dNewD, dTupVals, dCountL, dExtend, dAppend, dFrz, dLc2, dCountT, dIndexT, sqf_tup, sqf_lst, sqf_pair, sSeq, sSeq_tup, sSeq_lst, sRg1, sRg2, sZip2, sZip3, sZip4, sEnum, gV, gN, gC, gT, tupOf_tup, tupOf_pair, aAdd_int, aAdd_tup, aAdd_lst, aSub_int, aMul_int, aDiv_int, aMod_int, aPow_int, aCmp_int, aIx_tup, aIx_lst, aIx_scr, aIx_pair, aMax_int, aMin_int, aInt_bl, aInt_int, aLen_tup, aLen_lst, aLen_scr, aLen_pair, aTuple_lst, aTuple_tup, aEq_int, aNe_int, startD, List.map_cons, List.map_nil, List.length_cons, List.length_nil, List.cons_append, List.nil_append, List.replicate_zero, List.replicate_succ, List.append_nil, List.getElem?_cons_zero, List.getElem?_cons_succ, List.set_cons_zero, List.set_cons_succ, Option.some.injEq, exists_eq_left', exists_eq_left, exists_eq', D.int.injEq, D.bl.injEq, D.tup.injEq, D.lst.injEq, D.pair.injEq, D.ref.injEq, List.cons.injEq, Nat.sub_self, Nat.zero_add, Nat.add_sub_cancel, seqI_tup, seqI_lst, seqOf_tup, seqOf_lst, tyN_tup, tyN_lst, tyN_int, tyN_bl, tyN_str, tyN_non, isi_tt, at_0, at_1, at_2, at_3, Option.map_some, true_and, and_true, if_true, Bool.false_eq_true, if_false, Bool.not_true, Bool.not_false, ↓reduceIte, Nat.reduceAdd, Nat.reduceSub, exists_and_left, and_assoc]))
/-! the scaffold of a law: the pens and the laps -/
def s_law : DSp := fun ds m Q => ∃ ns : List Int, ds = [.scr (ns.map D.int)] ∧ ns.length ≤ 63 ∧ ∀ m, Q (.bl true) m
theorem l_law : ∀ ds m Q, s_law ds m Q → ds.length = 1 := by rintro ds m Q ⟨ns, rfl, _⟩; rfl
theorem s_law_ok : ∀ (ns : List Int) (Q : DK), ns.length ≤ 63 → (∀ m, Q (.bl true) m) → s_law [.scr (ns.map D.int)] (fun _ => none) Q := fun ns Q hl h => ⟨ns, rfl, hl, h⟩
end Mn

set_option Elab.async false
set_option linter.all false
set_option maxRecDepth 100000
set_option maxHeartbeats 4000000
set_option autoImplicit false
namespace Mn
open PySem PySem.Spec PyProof.Rows L2
variable [Tbs]
/-! sorted(set(t)), t a list or a tuple of tuples of ints -/
abbrev nset (w : World) : Obj := { cls := .type "set", dict := none, data := .set #[] 0 (.fresh 0 0 (!w.params.followText "set-order")) }
section
variable {P : Program} {w : World} {A : Around} {E : Value → Shared → Prop} {s : Shared}
set_option maxHeartbeats 6400000 in
theorem call_set_tt {l : Addr} {its : Array Value} (ks : List (Addr × List Int)) {Q : Value → Shared → Prop} (nh : A.handled = none) (lt : s.heap.IsTuple l its) (ei : its.toList = ks.map fun p => Value.ref p.1)
    (kt : ∀ p ∈ ks, L2.IsT P w s.heap p.2 p.1) (few : ks.length < 64) (ru : A.units + 3 < cLine)
    (fin : ∀ (h' : Heap) (tk : Nat) L es ep t, SetTR P w h' s.heap.objs.size L es ep t → Got ks ks.length L → (∀ b o, s.heap.get? b = some o → h'.get? b = some o) → Q (.ref s.heap.objs.size) { s with heap := h', toks := tk }) : wpAny (model P w) A (call (.type "set") [.ref l]) Q E s := by
  have zi : its.size = ks.length := by rw [← Array.length_toList, ei, List.length_map]
  obtain ⟨_, _, e0⟩ := F.called_set.mro
  have e1 := F.called_set.made; have e2 := F.called_set.sub
  refine wpAny_call (codeAny_of_tree ?_)
  show wpAny _ _ (callAny (.type "set") _) _ _ _
  refine wpAny_pure ⟨Code.quiet_builtin _ (by decide +kernel), codeAny_builtin F.entry_type_call ?_⟩
  rw [Around.under_plain (weight_type_call_type "set" [.ref l] []) rfl]
  have e3 := F.called_set.notType; have e4 := F.called_set.canCreate; have e5 := F.typeCall_set_1 (.ref l)
  repeat (any_goals (first | assumption | wp_step))
  refine codeAny_mono (code_set_led1 (.ref l) (E := E) (Q₁ := fun x t => x = .ref s.heap.objs.size ∧ t = { s with heap := s.heap.push (nset w) }) ⟨rfl, rfl⟩) fun r t hr => ?_
  cases r with
  | error e => exact hr
  | ok fl =>
    cases fl with
    | ret obj =>
      obtain ⟨rfl, rfl⟩ := hr
      have a1 : (s.heap.push (nset w)).get? s.heap.objs.size = some (nset w) := Heap.get?_push_size _ rfl
      have a2 : Shared.TypeIs { s with heap := s.heap.push (nset w) } (.ref s.heap.objs.size) "set" := ⟨_, a1, rfl⟩
      have a3 := F.called_set.init.lookup; have a4 := F.called_set.init.bind (.ref s.heap.objs.size)
      repeat (any_goals (first | assumption | wp_step))
      refine codeAny_mono (codeAny_call_builtin (R := wants (fun r u => r = .none ∧ ∃ h' tk L es ep t, u = { s with heap := h', toks := tk } ∧ SetTR P w h' s.heap.objs.size L es ep t ∧ Got ks ks.length L ∧ (∀ b o, s.heap.get? b = some o → h'.get? b = some o)) E) F.called_set.init.plain F.entry_set_init (check_set_init_1 a2 ?_)) fun r u hu => ?_
      · obtain ⟨⟨c0, d0, x0, y0⟩, hol, hcl, nl, hdl⟩ := lt
        simp only at hcl hdl
        subst hcl; subst hdl
        have b0 : (s.heap.push (nset w)).get? l = some { cls := .type "tuple", dict := d0, data := .seq its nl, slots := y0 } := Heap.get?_push_of_some _ hol
        have b1 := F.sub_tuple_set; have b2 := F.sub_tuple_frozenset
        have b3 : (Value.type "tuple" == Value.type "dict") = false := by decide
        have b4 : (s.heap.push (nset w)).IsTuple l its := ⟨_, b0, rfl, nl, rfl⟩
        unfold Builtin.«set.__init__» noKeywords Builtin.Frozenset.updateFrom
        generalize hPI : pyIter = PI
        wp_walk
        subst hPI
        refine wpAny_pyIter_tuple b4 (wpAny_bind (wpAny_runValue ?_))
        have lS : l < s.heap.objs.size := Heap.lt_size hol
        have nh3 : A.in1.in1.in1.handled = none := by simp [nh]
        have sz : (s.heap.push (nset w)).objs.size = s.heap.objs.size + 1 := Heap.size_push ..
        have lI : l ≠ (s.heap.push (nset w)).objs.size := by rw [sz]; exact Nat.ne_of_lt (Nat.lt_succ_of_lt lS)
        have sf : s.heap.objs.size ∉ [(s.heap.push (nset w)).objs.size, l] := by
          rw [sz]; simp only [List.mem_cons, List.mem_singleton, List.not_mem_nil, or_false, not_or]
          exact ⟨Nat.ne_of_lt (Nat.lt_succ_self _), Nat.ne_of_gt lS⟩
        have gv : ∀ (i : Nat) (v : Value), its[i]? = some v → ∃ p, ks[i]? = some p ∧ v = .ref p.1 := fun i v hv => by
          have q : (ks.map fun p => Value.ref p.1)[i]? = some v := by rw [← ei, Array.getElem?_toList]; exact hv
          rw [List.getElem?_map] at q
          obtain ⟨p, h1, h2⟩ := Option.map_eq_some_iff.mp q
          exact ⟨p, h1, h2.symm⟩
        have nn : ∀ b, s.heap.objs.size ≤ b → s.heap.get? b = none := fun b hb => by
          cases q : s.heap.get? b with
          | none => rfl
          | some o => exact absurd (Nat.lt_of_lt_of_le (Heap.lt_size q) hb) (Nat.lt_irrefl _)
        refine set_update_tups ((Walks.tuple nh3 _ l lI its).toS) s.heap.objs.size sf ks zi few gv s.heap kt (nn _ (Nat.le_refl _)) (fun b hb => nn b (by rw [List.mem_singleton.mp hb, sz]; exact Nat.le_succ _)) ru
          (its.size - 0) 0 _ (by omega) (Nat.zero_le _) ⟨⟨_, Heap.get?_push_size _ rfl, rfl, rfl⟩, (b4.push _)⟩ (fun b o e => Heap.get?_push_of_some _ (Heap.get?_push_of_some _ e)) ?c1 ?c2
        case c1 => exact ⟨[], #[], 0, _, setTR_fresh (Heap.get?_push_of_some _ a1), Got.zero ks⟩
        case c2 =>
          intro s' L es ep t hm hS' g' hkp
          obtain ⟨h', g2, d', tk', os'⟩ := s'
          have eg : g2 = s.gens := hm.gens
          have ed : d' = s.drawn := hm.drawn
          have eo : os' = s.os := hm.os
          subst eg; subst ed; subst eo
          show wpAny _ _ _ _ _ _
          refine wpAny_pure ?_
          show wpAny _ _ (ret Value.none) _ _ _
          rw [zi] at g'
          exact wpAny_pure ⟨rfl, h', tk', L, es, ep, t, rfl, hS', g', hkp⟩
      · cases r with
        | error e => exact hu
        | ok f2 =>
          cases f2 with
          | ret r =>
            obtain ⟨rfl, h', tk, L, es, ep, t, rfl, x1, x2, x3⟩ := hu
            repeat (any_goals (first | assumption | wp_step))
            exact fin _ _ _ _ _ _ x1 x2 x3
          | _ => exact hu.elim
    | _ => exact hr.elim
end
section
variable {X : Cx}
end
/-! over data -/
def tupI (ns : List Int) : D := .tup (ns.map D.int)
/-- the place of a tuple in the order -/
abbrev cd (ns : List Int) : Int := TS.code 64 ns
def srtK (d : D) (Q : D → Prop) : Prop := ∃ (ks : List (List Int)) (n : Nat), seqI d = some (ks.map tupI) ∧ ks.length < 64 ∧ 1 ≤ n ∧ (∀ k ∈ ks, k.length = n ∧ TS.Bd 64 k) ∧
  ∀ out : List (List Int), (∀ k, k ∈ out ↔ k ∈ ks) → out.Nodup → out.Pairwise (fun a b => cd a ≤ cd b) → Q (.lst (out.map tupI))
def dSortSet (ta : DT) : DT := fun r m Q => ta r m fun d m1 => srtK d fun x => Q x m1
section
variable {X : Cx}
end
/-! what is sorted without doubles is known by its members -/
end Mn

set_option Elab.async false
set_option linter.all false
set_option maxRecDepth 100000
set_option maxHeartbeats 4000000
set_option autoImplicit false
namespace Mn
open PySem PySem.Spec PyProof.Rows L2
variable [Tbs]
/-! match a, b: case "word", k: .. -/
abbrev MArm := Str × Int × DS
inductive PDMs (X : Cx) : List MatchCase → List MArm → Prop
  | nil : PDMs X [] []
  | cons {x : Str} {k : Int} {j1 j2 : Nat} {p1 p2 p3 p4 p5 : Pos} {body : List Stmt} {t : DS} {rest : List MatchCase} {ts : List MArm} : PDSs X body t → PDMs X rest ts →
      PDMs X (⟨.MatchSequence [.MatchValue (.Constant (.str x) j1 p1) p2, .MatchValue (.Constant (.int k) j2 p3) p4] p5, none, body⟩ :: rest) ((x, k, t) :: ts)
def mGo : List MArm → Str → Int → DS
  | [], _, _ => xNext
  | (x, k, t) :: ts, y, n => fun De r m => if y = x ∧ n = k then t De r m else mGo ts y n De r m
def xMatch (ta : DA) (ts : List MArm) : DS := fun De r m => ta r m fun ds m1 => ∃ x n, ds = [.str x, .int n] ∧ mGo ts x n De r m1
section
variable {X : Cx}
end
end Mn

set_option Elab.async false
set_option linter.all false
set_option maxRecDepth 100000
set_option maxHeartbeats 4000000
set_option autoImplicit false
namespace Mn
open PySem PySem.Spec PyProof.Rows L2
variable [Tbs]
/-! xs * k, xs a list -/
def aMulL : DR2 := fun x y m Q => ∃ (ds : List D) (k : Nat), lst1 x m = some ds ∧ y = .int (k : Int) ∧ k ≤ 1000000 ∧ ds.length * k ≤ sizeLine ∧ Q (.lst (List.replicate k ds).flatten) m
theorem c2_mulL {K : KF} : C2 K rRep aMulL := by
  rintro G H m x y dx dy Q Qv r rx ry ⟨ds, k, e1, rfl, hk, hz, q⟩ w
  obtain ⟨a, vs, rfl, ha, rv, _⟩ := lst1_is r rx e1
  cases ry
  refine ⟨a, k, vs, rfl, rfl, ha, by omega, by omega, ?_, ?_⟩
  · rw [← rv.len, Int.toNat_natCast]; exact hz
  · rw [Int.toNat_natCast]
    exact Rl.newLst w r (rep_rp rv k) (by rw [PyProof.Rows.lm_len_rep_flat, Nat.mul_comm]; exact hz) q
/-! is, is not, of bools -/
def aIsB : DR2 := fun x y m Q => ∃ a b : Bool, x = .bl a ∧ y = .bl b ∧ Q (.bl (decide (a = b))) m
def aNotB : DR2 := fun x y m Q => ∃ a b : Bool, x = .bl a ∧ y = .bl b ∧ Q (.bl (!decide (a = b))) m
theorem aIsB_bl {a b : Bool} {m : Mu} {Q : DK} : aIsB (.bl a) (.bl b) m Q ↔ Q (.bl (decide (a = b))) m := by simp [aIsB]
theorem aNotB_bl {a b : Bool} {m : Mu} {Q : DK} : aNotB (.bl a) (.bl b) m Q ↔ Q (.bl (!decide (a = b))) m := by simp [aNotB]
/-! data that may be compared, whatever the numbers' size -/
def Cm (d : D) (k : Nat) : Prop := pur d = true ∧ (py d).canLay0 = true ∧ (py d).depth ≤ k
theorem Cm.ok {d : D} {k : Nat} (h : Cm d k) (hk : k ≤ 64) (m : Mu) : okD d m := by
  obtain ⟨e1, e2⟩ := pyM_of h.1 m
  refine ⟨by rw [e2]; exact h.1, ?_⟩
  rw [e1, SeqAt.shaped, h.2.1, Bool.true_and, decide_eq_true_eq]
  have := h.2.2
  omega
theorem Cm.mono {d : D} {k k' : Nat} (h : Cm d k) (hk : k ≤ k') : Cm d k' := ⟨h.1, h.2.1, Nat.le_trans h.2.2 hk⟩
theorem cm_int (i : Int) : Cm (.int i) 0 := ⟨rfl, rfl, Nat.zero_le _⟩
theorem cm_all {k : Nat} : ∀ {ds : List D}, (∀ d ∈ ds, Cm d k) → purL ds = true ∧ PyData.canLayAll0 (pyL ds) = true ∧ PyData.depthAll (pyL ds) ≤ k
  | [], _ => ⟨rfl, rfl, Nat.zero_le _⟩
  | d :: ds, h => by
    obtain ⟨a1, a2, a3⟩ := h d (by simp)
    obtain ⟨b1, b2, b3⟩ := cm_all (ds := ds) fun x hx => h x (by simp [hx])
    exact ⟨by rw [purL, a1, b1]; rfl, by rw [pyL, PyData.canLayAll0, a2, b2]; rfl, by rw [pyL, PyData.depthAll]; omega⟩
theorem cm_tup {k : Nat} {ds : List D} (h : ∀ d ∈ ds, Cm d k) : Cm (.tup ds) (k + 1) := by
  obtain ⟨b1, b2, b3⟩ := cm_all h
  exact ⟨by rw [pur]; exact b1, by rw [py, PyData.canLay0]; exact b2, by rw [py, PyData.depth]; omega⟩
theorem cm_lst {k : Nat} {ds : List D} (h : ∀ d ∈ ds, Cm d k) : Cm (.lst ds) (k + 1) := by
  obtain ⟨b1, b2, b3⟩ := cm_all h
  exact ⟨by rw [pur]; exact b1, by rw [py, PyData.canLay0]; exact b2, by rw [py, PyData.depth]; omega⟩
end Mn

set_option linter.all false
set_option maxHeartbeats 4000000
set_option autoImplicit false
set_option maxRecDepth 100000
namespace Mn
open PySem L2
variable [Tbs]
local macro_rules | `(tactic| walk_at "d") => `(tactic| (try simp only [xNext, xSeq, xAsg, xRet, xRetF, xDrop, xIf, xPar, xPar3, xMatch, mGo, xFrz, xPut, xAug, xFor, dVar, dC, dOp, dTest, dChain, dAndV, dOrV, dNotV, dAnd, dOr, dNot, dIf, dNil, dCons, dTup, dLst, dLstM, dCB, dIsi, dLc, dLcM, dYes, wipeD, dSlice, oSome, oNone, aSl_tup, aSl_lst, dNeg, dStar, dNewD, dTupVals, dSortSet, dCountL, dExtend, dAppend, dFrz, dLc2, dCountT, dIndexT, sqf_tup, sqf_lst, sqf_pair, sSeq, sSeq_tup, sSeq_lst, sRg1, sRg2, sZip2, sZip3, sZip4, sEnum, gV, gN, gC, gT, tupOf_tup, tupOf_pair, aAdd_int, aAdd_tup, aAdd_lst, aSub_int, aMul_int, aDiv_int, aMod_int, aPow_int, aCmp_int, aIx_tup, aIx_lst, aIx_scr, aIx_pair, aMax_int, aMin_int, aInt_bl, aInt_int, aLen_tup, aLen_lst, aLen_scr, aLen_pair, aTuple_lst, aTuple_tup, aIsB_bl, aNotB_bl, aEq_int, aNe_int, startD, List.map_cons, List.map_nil, List.length_cons, List.length_nil, List.cons_append, List.nil_append, List.replicate_zero, List.replicate_succ, List.append_nil, List.getElem?_cons_zero, List.getElem?_cons_succ, List.set_cons_zero, List.set_cons_succ, Option.some.injEq, exists_eq_left', exists_eq_left, exists_eq', D.int.injEq, D.bl.injEq, D.tup.injEq, D.lst.injEq, D.pair.injEq, D.ref.injEq, List.cons.injEq, Nat.sub_self, Nat.zero_add, Nat.add_sub_cancel, seqI_tup, seqI_lst, seqOf_tup, seqOf_lst, tyN_tup, tyN_lst, tyN_int, tyN_bl, tyN_str, tyN_non, isi_tt, at_0, at_1, at_2, at_3, Option.map_some, true_and, and_true, if_true, Bool.false_eq_true, if_false, Bool.not_true, Bool.not_false, ↓reduceIte, Nat.reduceAdd, Nat.reduceSub, exists_and_left, and_assoc]))
namespace B
def s_law_cell : DSp := Mn.s_law_cell_at
theorem l_law_cell : ∀ ds m Q, s_law_cell ds m Q → ds.length = 2 := Mn.l_law_cell_at
def t_law_cell : DS := (xSeq (xIf (dTest (dOp aLt (dVar 1) (dCB aLen (dCons (dVar 0) dNil)))) (xRet (dOp aIx (dVar 0) (dVar 1))) xNext)
  (xRet (dC (.int 0))))
theorem v_law_cell : Body 2 t_law_cell s_law_cell := Mn.v_law_cell_at
def s_law_draw : DSp := Mn.s_law_draw
def s_law_choose : DSp := Mn.s_law_pick
def s_law_step : DSp := fun ds m Q => ∃ (p : Addr) (g n : Nat), ds = [.ref p, nD g] ∧ Pen m p n ∧ n ≤ 900001000 ∧ 2 ≤ g ∧ g ≤ 6 ∧ ∀ st g' m', Stp1 g st g' → 1 ≤ g' → PenU m p (n + 20) m' → Q (tD st) m'
def s_law_attribute : DSp := Mn.s_law_attribute
theorem l_law_attribute : ∀ ds m Q, s_law_attribute ds m Q → ds.length = 2 := Mn.l_law_attribute
def t_law_attribute : DS := (xSeq (xAsg (dCB aMax (dCons (dOp aAdd (dC (.int 1)) (dCB s_law_draw (dCons (dVar 0) (dCons (dVar 1) dNil)))) (dCons (dOp aAdd (dC (.int 1)) (dCB s_law_draw (dCons (dVar 0) (dCons (dVar 1) dNil)))) dNil))) (gV 2))
  (xSeq (xPar 4 5 (dCons (dVar 2) (dCons (dTup dNil) dNil)))
  (xSeq (xFor (sRg1 (dCB s_law_draw (dCons (dVar 0) (dCons (dC (.int 4)) dNil)))) (gV 3) (xIf (dTest (dOp aGt (dVar 4) (dC (.int 1)))) (xSeq (xAsg (dOp aAdd (dVar 5) (dTup (dCons (dCB s_law_step (dCons (dVar 0) (dCons (dVar 4) dNil))) dNil))) (gV 5))
  (xAsg (dOp aAdd (dCB aMax (dCons (dOp aIx (dVar 5) (dNeg (dC (.int 1)))) dNil)) (dC (.int 1))) (gV 4))) xNext))
  (xRet (dTup (dCons (dVar 2) (dCons (dVar 5) dNil)))))))
def AtI (m0 : Mu) (p : Addr) (most many n0 : Nat) : Nat → Ro → Mu → Prop := fun i r m => ∃ (g : Nat) (ss : List (List Nat)) (x3 : Option D),
  r = [some (.ref p), some (nD most), some (nD many), x3, some (nD g), some (.tup (ss.map tD))] ∧ PenU m0 p (n0 + 20 * i) m ∧ ss.length ≤ i ∧ leads many ss g ∧ 1 ≤ g ∧ g ≤ most
theorem maxI_nat : ∀ {l : List Nat}, l ≠ [] → maxI (l.map fun k : Nat => (k : Int)) = (maxN l : Nat) := by
  intro l h
  cases l with
  | nil => exact absurd rfl h
  | cons a r =>
    have key : ∀ (r : List Nat) (a : Nat), (r.map fun k : Nat => (k : Int)).foldl max (a : Int) = ((r.foldl max a : Nat) : Int) := by
      intro r
      induction r with
      | nil => intro a; rfl
      | cons b r ih => intro a; rw [List.map_cons, List.foldl_cons, List.foldl_cons, ← ih]; congr 1; omega
    show (r.map fun k : Nat => (k : Int)).foldl max (a : Int) = _
    rw [key]
    unfold maxN
    rw [List.foldl_cons, Nat.zero_max]
theorem aMax_tD {st : List Nat} {m : Mu} {Q : DK} (h : st ≠ []) (q : Q (nD (maxN st)) m) : aMax [tD st] m Q := by
  cases st with
  | nil => exact absurd rfl h
  | cons a r =>
    refine ⟨(a : Int), r.map fun k : Nat => (k : Int), ?_, ?_⟩
    · show some (nD a :: r.map nD) = _
      rw [List.map_map]
      rfl
    · have := maxI_nat h
      rw [List.map_cons] at this
      unfold nD at q
      rw [← this] at q
      exact q
theorem v_law_attribute : Body 6 t_law_attribute s_law_attribute := by
  rintro ds m Q ⟨p, most, n, rfl, hp, hn, h1, h6, q⟩
  unfold t_law_attribute
  walk_at "d"
  refine ⟨p, most, n, rfl, hp, by omega, h1, by omega, fun r1 m1 hr1 hu1 => ?_⟩
  simp only [nD]
  walk_at "d"
  refine ⟨p, most, n + 1, rfl, hu1.pen, by omega, h1, by omega, fun r2 m2 hr2 hu2 => ?_⟩
  simp only [nD]
  walk_at "d"
  refine ⟨by decide, p, 4, n + 2, rfl, hu2.pen, by omega, by decide, by decide, fun r3 m3 hr3 hu3 => ⟨(r3 : Nat), rfl, by omega, by omega, ?_⟩⟩
  rw [rgD_nat, show max (1 + (r1 : Int)) (1 + (r2 : Int)) = ((1 + max r1 r2 : Nat) : Int) by omega]
  have hu3' := (hu1.trans hu2).trans hu3
  refine forGo_inv (AtI m p most (1 + max r1 r2) (n + 3)) _ _ _ 0 ⟨1 + max r1 r2, [], none, rfl, hu3', Nat.le_refl _, rfl, by omega, by omega⟩ ?_ ?_
  · rintro j d r m4 P hd ⟨g, ss, x3, rfl, hu4, hss, hle, hg1, hg2⟩ hP
    have hj : j < 4 := by
      have := (List.getElem?_eq_some_iff.mp hd).1
      rw [List.length_map, List.length_range] at this
      omega
    simp only [nD]
    walk_at "d"
    by_cases hg : (1 : Int) < (g : Int)
    · simp only [hg, decide_true, ↓reduceIte]
      refine ⟨p, g, _, rfl, hu4.pen, by omega, by omega, by omega, fun st g' m5 hst hg' hu5 => ?_⟩
      walk_at "d"
      refine ⟨by decide, small (k := 1000) (by rw [List.length_map]; show ss.length + 1 ≤ _; omega), ?_⟩
      have hne : st ≠ [] := by rintro rfl; have := hst.1; rw [List.length_nil] at this; omega
      refine ⟨tD st, ?_, ?_⟩
      · unfold at_
        rw [if_neg (by decide), if_pos (by rw [List.length_append, List.length_singleton]; omega), List.length_append, List.length_singleton, List.length_map, show (-1 + ((ss.length + 1 : Nat) : Int)).toNat = ss.length by omega, List.getElem?_append_right (by rw [List.length_map]; exact Nat.le_refl _), List.length_map, Nat.sub_self]
        rfl
      · refine aMax_tD hne ?_
        unfold nD
        walk_at "d"
        have hmx := hst.max hg1
        refine hP _ _ ⟨g', ss ++ [st], some d, ?_, (hu4.trans hu5).mono (by omega), by rw [List.length_append, List.length_singleton]; omega, leads_snoc hle hst, hg', by have := hst.2.1; omega⟩
        rw [List.map_append, List.map_singleton, ← hmx]
        rfl
    · simp only [hg, decide_false, Bool.false_eq_true, ↓reduceIte]
      exact hP _ _ ⟨g, ss, _, rfl, hu4.mono (by omega), by omega, hle, hg1, hg2⟩
  · rintro r m4 ⟨g, ss, x3, rfl, hu4, hss, hle, hg1, hg2⟩
    rw [List.length_map, List.length_range] at hu4 hss
    simp only [nD]
    walk_at "d"
    exact ⟨by decide, end_rtL (m2 := m4) (fun _ _ e => e) (q ⟨1 + max r1 r2, ss⟩ _ ⟨by show 1 ≤ 1 + max r1 r2; omega, by show 1 + max r1 r2 ≤ 6; omega, by show ss.length ≤ 3; omega, leads_V hle⟩ (by show 1 + max r1 r2 ≤ most; omega) (hu4.mono (by omega)))⟩
def mss : List (List Nat) := [[6], [6, 6], [4, 6], [5, 4, 3], [3, 4, 5], [3, 3, 3], [2, 2, 2]]
theorem mss_ok : ∀ ms ∈ mss, 1 ≤ ms.length ∧ ms.length ≤ 3 ∧ prodN ms ≤ 60 ∧ ∀ k ∈ ms, 1 ≤ k ∧ k ≤ 6 := by decide
def s_law_scheme : DSp := Mn.s_law_scheme
theorem l_law_scheme : ∀ ds m Q, s_law_scheme ds m Q → ds.length = 1 := Mn.l_law_scheme
def t_law_scheme : DS := (xSeq (xAsg (dCB s_law_choose (dCons (dVar 0) (dCons (dLst (dCons (dTup (dCons (dC (.int 6)) dNil)) (dCons (dTup (dCons (dC (.int 6)) (dCons (dC (.int 6)) dNil))) (dCons (dTup (dCons (dC (.int 4)) (dCons (dC (.int 6)) dNil))) (dCons (dTup (dCons (dC (.int 5)) (dCons (dC (.int 4)) (dCons (dC (.int 3)) dNil)))) (dCons (dTup (dCons (dC (.int 3)) (dCons (dC (.int 4)) (dCons (dC (.int 5)) dNil)))) (dCons (dTup (dCons (dC (.int 3)) (dCons (dC (.int 3)) (dCons (dC (.int 3)) dNil)))) (dCons (dTup (dCons (dC (.int 2)) (dCons (dC (.int 2)) (dCons (dC (.int 2)) dNil)))) dNil)))))))) dNil))) (gV 1))
  (xRet (dCB aTuple (dCons (dLc (sSeq (dVar 1)) [2] (gV 2) dYes (dCB s_law_attribute (dCons (dVar 0) (dCons (dVar 2) dNil)))) dNil))))
theorem v_law_scheme : Body 3 t_law_scheme s_law_scheme := by
  rintro ds m Q ⟨p, n, rfl, hp, hn, q⟩
  unfold t_law_scheme
  walk_at "d"
  refine ⟨by decide, by decide, by decide, by decide, by decide, by decide, by decide, by decide, p, _, _, n, rfl, Or.inl rfl, hp, by omega, by decide, by decide, fun d m1 hd hu1 => ?_⟩
  have hd' : d ∈ mss.map fun ms => D.tup (ms.map nD) := hd
  obtain ⟨ms, hms, rfl⟩ := List.mem_map.mp hd'
  obtain ⟨k1, k2, k3, k4⟩ := mss_ok ms hms
  walk_at "d"
  refine ⟨_, .inr rfl, by rw [List.length_map]; exact small (k := 1000) (by omega), ?_⟩
  refine lcGo_inv (fun i acc m' => ∃ s : Sch, acc = s.map At.enc ∧ s.length = i ∧ (∀ a ∈ s, a.V) ∧ prodN (s.map At.n) ≤ prodN (ms.take i) ∧ PenU m p (n + 1 + 100 * i) m') _ [] m1 0 ⟨[], rfl, rfl, (fun _ h => nomatch h), Nat.le_refl _, hu1⟩ ?_ ?_
  · rintro i x acc m5 P5 hx ⟨s, rfl, hks, hV, hpr, hu5⟩ hP5
    rw [List.getElem?_map] at hx
    obtain ⟨k, hk, rfl⟩ := Option.map_eq_some_iff.mp hx
    have hki := k4 k (List.mem_of_getElem? hk)
    have hi : i < ms.length := (List.getElem?_eq_some_iff.mp hk).1
    walk_at "d"
    refine ⟨p, k, _, rfl, hu5.pen, by omega, hki.1, hki.2, fun a m6 ha hak hu6 => ?_⟩
    refine hP5 _ _ ⟨s ++ [a], by rw [List.map_append]; rfl, by rw [List.length_append, List.length_singleton, hks], fun b hb => ?_, ?_, (hu5.trans hu6).mono (by omega)⟩
    · rcases List.mem_append.mp hb with hb | hb
      · exact hV b hb
      · rw [List.mem_singleton.mp hb]; exact ha
    · rw [List.map_append, List.map_singleton, prodN_snoc, Nat.zero_add, List.take_add_one, hk, Option.toList_some, prodN_snoc]
      rw [Nat.zero_add] at hpr
      exact Nat.mul_le_mul hpr hak
  · rintro acc m5 ⟨s, rfl, hks, hV, hpr, hu5⟩
    rw [List.length_map] at hks hu5 hpr
    walk_at "d"
    rw [Nat.zero_add, List.take_length] at hpr
    exact ⟨_, fun _ _ e => e, q s _ ⟨by omega, by omega, hV, by omega⟩ (hu5.mono (by omega))⟩
end B
end Mn

set_option linter.all false
set_option maxHeartbeats 4000000
set_option autoImplicit false
set_option maxRecDepth 100000
namespace Mn
open PySem L2
variable [Tbs]
local macro_rules | `(tactic| walk_at "d") => `(tactic| (try simp only [xNext, xSeq, xAsg, xRet, xRetF, xDrop, xIf, xPar, xPar3, xFrz, xPut, xAug, xFor, dVar, dC, dOp, dTest, dChain, dAndV, dOrV, dNotV, dAnd, dOr, dNot, dIf, dNil, dCons, dTup, dLst, dLstM, dCB, dIsi, dLc, dLcM, dYes, wipeD, dSlice, oSome, oNone, aSl_tup, aSl_lst, dNeg, dStar, dNewD, dTupVals, dCountL, dExtend, dAppend, dFrz, dLc2, dCountT, dIndexT, sqf_tup, sqf_lst, sqf_pair, sSeq, sSeq_tup, sSeq_lst, sRg1, sRg2, sZip2, sZip3, sZip4, sEnum, gV, gN, gC, gT, tupOf_tup, tupOf_pair, aAdd_int, aAdd_tup, aAdd_lst, aSub_int, aMul_int, aDiv_int, aMod_int, aPow_int, aCmp_int, aIx_tup, aIx_lst, aIx_scr, aIx_pair, aMax_int, aMin_int, aInt_bl, aInt_int, aLen_tup, aLen_lst, aLen_scr, aLen_pair, aTuple_lst, aTuple_tup, aEq_int, aNe_int, startD, List.map_cons, List.map_nil, List.length_cons, List.length_nil, List.cons_append, List.nil_append, List.replicate_zero, List.replicate_succ, List.append_nil, List.getElem?_cons_zero, List.getElem?_cons_succ, List.set_cons_zero, List.set_cons_succ, Option.some.injEq, exists_eq_left', exists_eq_left, exists_eq', D.int.injEq, D.bl.injEq, D.tup.injEq, D.lst.injEq, D.pair.injEq, D.ref.injEq, List.cons.injEq, Nat.sub_self, Nat.zero_add, Nat.add_sub_cancel, seqI_tup, seqI_lst, seqOf_tup, seqOf_lst, tyN_tup, tyN_lst, tyN_int, tyN_bl, tyN_str, tyN_non, isi_tt, at_0, at_1, at_2, at_3, Option.map_some, true_and, and_true, if_true, Bool.false_eq_true, if_false, Bool.not_true, Bool.not_false, ↓reduceIte, Nat.reduceAdd, Nat.reduceSub, exists_and_left, and_assoc]))
/-! dicts of cells -/
def kyT (c : List Nat) : NestedKey := .tup (c.map fun k : Nat => NestedKey.num (k : Int))
theorem keyDs_nums : ∀ c : List Nat, keyDs (c.map fun k : Nat => NestedKey.num (k : Int)) = c.map nD
  | [] => by rw [List.map_nil, keyDs]; rfl
  | k :: c => by rw [List.map_cons, keyDs, keyDs_nums c, keyD]; rfl
theorem keyD_kyT (c : List Nat) : tD c = keyD (kyT c) := by unfold kyT; rw [keyD, keyDs_nums]; rfl
theorem kyT_inj {c d : List Nat} (h : kyT c = kyT d) : c = d := by
  unfold kyT at h
  have h2 := NestedKey.tup.inj h
  induction c generalizing d with
  | nil => cases d with
    | nil => rfl
    | cons y d => simp at h2
  | cons x c ih => cases d with
    | nil => simp at h2
    | cons y d =>
      rw [List.map_cons, List.map_cons, List.cons.injEq] at h2
      have h3 := NestedKey.num.inj h2.1
      have h4 : x = y := by omega
      rw [h4, ih (by rw [h2.2]) h2.2]
theorem depths_nums : ∀ c : List Nat, NestedKey.depthAll (c.map fun k : Nat => NestedKey.num (k : Int)) ≤ 1
  | [] => by rw [List.map_nil]; decide
  | k :: c => by
    have := depths_nums c
    rw [List.map_cons]
    simp only [NestedKey.depthAll, NestedKey.depth]
    omega
theorem kyT_depth (c : List Nat) : (kyT c).depth ≤ 8 := by
  have := depths_nums c
  unfold kyT
  simp only [NestedKey.depth]
  omega
def dct (cs : List (List Nat)) (f : List Nat → D) : List (NestedKey × D) := cs.map fun c => (kyT c, f c)
theorem look_dct {cs : List (List Nat)} {f : List Nat → D} {c : List Nat} (h : c ∈ cs) : lookN (dct cs f) (kyT c) = some (f c) := by
  unfold lookN dct
  induction cs with
  | nil => cases h
  | cons x cs ih =>
    rw [List.map_cons, List.find?_cons]
    by_cases e : x = c
    · subst e; simp
    · have : ¬ kyT x = kyT c := fun z => e (kyT_inj z)
      simp only [this, decide_false]
      exact ih (by rcases List.mem_cons.mp h with h | h; exact absurd h.symm e; exact h)
theorem look_none {cs : List (List Nat)} {f : List Nat → D} {c : List Nat} (h : c ∉ cs) : lookN (dct cs f) (kyT c) = none := by
  unfold lookN dct
  rw [Option.map_eq_none_iff, List.find?_eq_none]
  intro x hx
  obtain ⟨d, hd, rfl⟩ := List.mem_map.mp hx
  simp only [decide_eq_true_eq]
  exact fun z => h (by rw [← kyT_inj z]; exact hd)
theorem put_dct {cs : List (List Nat)} {f : List Nat → D} {c : List Nat} {d : D} (h : c ∈ cs) : putN (dct cs f) (kyT c) d = dct cs (fun x => if x = c then d else f x) := by
  unfold putN
  rw [look_dct h]
  simp only [Option.isSome_some, ↓reduceIte]
  unfold dct
  rw [List.map_map]
  refine List.map_congr_left fun x _ => ?_
  simp only [Function.comp]
  by_cases e : x = c
  · subst e; simp
  · have : ¬ kyT x = kyT c := fun z => e (kyT_inj z)
    simp [this, e]
theorem put_new {cs : List (List Nat)} {f : List Nat → D} {c : List Nat} (h : c ∉ cs) : putN (dct cs f) (kyT c) (f c) = dct (cs ++ [c]) f := by
  unfold putN
  rw [look_none h]
  simp only [Option.isSome_none, Bool.false_eq_true, ↓reduceIte]
  unfold dct
  rw [List.map_append]; rfl
/-! sums by cells -/
def iD (xs : List Int) : D := .tup (xs.map D.int)
def addF (f : List Nat → Int) (p : List Nat × Int) : List Nat → Int := fun c => if c = p.1 then f c + p.2 else f c
def rolF (kx : List (List Nat × Int)) : List Nat → Int := kx.foldl addF fun _ => 0
def kxOf (s : Sch) (r : List Nat) (xs : List Int) (o : List Nat) : List (List Nat × Int) := ((cellsOf s r).zip xs).map fun p => (abv s r p.1 o, p.2)
def rolN (s : Sch) (r : List Nat) (xs : List Int) (o : List Nat) : List Int := (cellsOf s o).map (rolF (kxOf s r xs o))
def isAm (s : Sch) (r : List Nat) (d : D) : Bool := match d with
  | .tup ds => decide (ds.length = prodN (szs s r)) && ds.all isIntD
  | _ => false
theorem isAm_ok {s : Sch} {r : List Nat} {xs : List Int} (h : xs.length = prodN (szs s r)) : isAm s r (iD xs) = true := by
  simp only [isAm, iD, List.length_map, h, decide_true, Bool.true_and, List.all_map, List.all_eq_true]
  intro x _
  rfl
theorem Cell.abv {s : Sch} {r c o : List Nat} (hs : SchV s) (hr : Roll s r) (hc : Cell s r c) (ho : Roll s o) (hf : fineB r o = true) : Cell s o (abv s r c o) := by
  have hrl := hr.len; have hol := ho.len; have hcl := hc.len hr
  refine ⟨by rw [abv_len hrl hcl hol, szs_len ho], fun i x k hx hk => ?_⟩
  obtain ⟨a, l', ha, hl', rfl⟩ := szs_at hk
  have hil : i < s.length := (List.getElem?_eq_some_iff.mp ha).1
  obtain ⟨y, hy⟩ := get_ex (l := c) (i := i) (by omega)
  obtain ⟨l, hl⟩ := get_ex (l := r) (i := i) (by omega)
  rw [abv_at ha hy hl hl'] at hx
  cases hx
  exact (hs.2.2.1 a (List.mem_of_getElem? ha)).up_lt (hc.at ha hl hy) (fine_at hf hl hl') (ho.at ha hl')
theorem cells_small {s : Sch} {r : List Nat} (hs : SchV s) (hr : Roll s r) : (cellsOf s r).length ≤ 60 := by
  unfold cellsOf; rw [cellsN_len]; exact szs_prod hs hr
def s_are_amounts : DSp := fun ds m Q => ∃ (s : Sch) (r : List Nat) (d : D), ds = [encS s, tD r, d] ∧ SchV s ∧ Roll s r ∧ Kn m d ∧ Q (.bl (isAm s r d)) m
theorem l_are_amounts : ∀ ds m Q, s_are_amounts ds m Q → ds.length = 3 := by rintro ds m Q ⟨s, r, d, rfl, _⟩; rfl
def t_are_amounts : DS := (xSeq (xIf (dOr (dNot (dTest (dIsi "tuple" (dVar 2)))) (dTest (dOp aNe (dCB aLen (dCons (dVar 2) dNil)) (dCB s_size_of (dCons (dVar 0) (dCons (dVar 1) dNil)))))) (xRet (dC (.bl false))) xNext)
  (xRet (dCB aAll (dCons (dLc (sSeq (dVar 2)) [3] (gV 3) dYes (dCB s_is_integer (dCons (dVar 3) dNil))) dNil))))
theorem v_are_amounts : Body 4 t_are_amounts s_are_amounts := by
  rintro ds m Q ⟨s, r, d, rfl, hs, hr, ht, q⟩
  have hq := end_rt (m0 := m) q
  obtain ⟨t, et⟩ := ht.ty
  unfold t_are_amounts
  cases d with
  | tup ls =>
    walk_at "d"
    refine ⟨s, r, rfl, hs, hr, ?_⟩
    unfold nD
    walk_at "d"
    by_cases hl : ls.length = prodN (szs s r)
    · have e1 : (ls.length : Int) = prodN (szs s r) := by omega
      have h60 := szs_prod hs hr
      simp only [e1, decide_true, Bool.not_true, Bool.false_eq_true, ↓reduceIte]
      refine ⟨_, Or.inr rfl, small (k := 1000) (by omega), ?_⟩
      refine lcGo_map (fun x => .bl (isIntD x)) _ [] _ (fun x hx K hK => ?_) ?_
      · walk_at "d"
        exact ⟨x, rfl, ht.tup hx, hK⟩
      · rw [List.nil_append]
        have e : (ls.map fun x => D.bl (isIntD x)) = (ls.map isIntD).map D.bl := by rw [List.map_map]; rfl
        rw [e]
        refine aAll_list ?_
        rw [List.all_map]
        simpa only [isAm, hl, decide_true, Bool.true_and, Function.id_comp] using hq
    · have e1 : ¬ (ls.length : Int) = prodN (szs s r) := by omega
      simp only [e1, decide_false, Bool.not_false, ↓reduceIte]
      simpa only [isAm, hl, decide_false, Bool.false_and] using hq
  | _ =>
    have e2 := isi_tup et
    simp only [xSeq, xIf, dOr, dNot, dTest, dIsi, dVar]
    refine ⟨_, rfl, t, et, _, rfl, ?_⟩
    rw [e2]
    exact hq
def s_is_table_of : DSp := fun ds m Q => ∃ (s : Sch) (d : D), ds = [encS s, d] ∧ SchV s ∧ Kn m d ∧ Q (.bl (isAm s (finN s) d)) m
theorem l_is_table_of : ∀ ds m Q, s_is_table_of ds m Q → ds.length = 2 := by rintro ds m Q ⟨s, d, rfl, _⟩; rfl
def t_is_table_of : DS := (xRet (dCB s_are_amounts (dCons (dVar 0) (dCons (dCB s_finest (dCons (dVar 0) dNil)) (dCons (dVar 1) dNil)))))
theorem v_is_table_of : Body 2 t_is_table_of s_is_table_of := by
  rintro ds m Q ⟨s, d, rfl, hs, ht, q⟩
  unfold t_is_table_of
  walk_at "d"
  exact ⟨s, rfl, hs, s, finN s, d, rfl, hs, fin_roll s, ht, end_rt q⟩
theorem kn_iD (m : Mu) (xs : List Int) : Kn m (iD xs) := Kn.of (by
  unfold iD; rw [refs]
  induction xs with
  | nil => rfl
  | cons x xs ih => rw [List.map_cons, refsL, ih]; rfl)
def s_rolled_of : DSp := fun ds m Q => ∃ (s : Sch) (r : List Nat) (xs : List Int) (o : List Nat), ds = [encS s, tD r, iD xs, tD o] ∧ SchV s ∧ Roll s r ∧ Roll s o ∧ fineB r o = true ∧ Q (iD (rolN s r xs o)) m
theorem l_rolled_of : ∀ ds m Q, s_rolled_of ds m Q → ds.length = 4 := by rintro ds m Q ⟨s, r, xs, o, rfl, _⟩; rfl
def t_rolled_of : DS := (xSeq (xAsg dNewD (gV 4))
  (xSeq (xFor (sSeq (dCB s_cells_of (dCons (dVar 0) (dCons (dVar 3) dNil)))) (gV 5) (xPut (dC (.int 0)) (dVar 4) (dVar 5)))
  (xSeq (xFor (sZip2 (dCB s_cells_of (dCons (dVar 0) (dCons (dVar 1) dNil))) (dVar 2)) (gT 2 (gC (gV 5) (gC (gV 6) gN))) (xSeq (xAsg (dCB s_cell_above (dCons (dVar 0) (dCons (dVar 1) (dCons (dVar 5) (dCons (dVar 3) dNil))))) (gV 7))
  (xPut (dOp aAdd (dOp aIx (dVar 4) (dVar 7)) (dVar 6)) (dVar 4) (dVar 7))))
  (xRet (dTupVals (dVar 4))))))
theorem dct_len (cs : List (List Nat)) (f : List Nat → D) : (dct cs f).length = cs.length := by unfold dct; rw [List.length_map]
theorem v_rolled_of : Body 8 t_rolled_of s_rolled_of := by
  rintro ds m Q ⟨s, r, xs, o, rfl, hs, hr, ho, hf, q⟩
  have h60 := cells_small hs ho
  unfold t_rolled_of
  walk_at "d"
  intro p hp
  refine ⟨s, o, rfl, hs, ho, _, Or.inl rfl, ?_⟩
  refine forGo_take (enc := tD) (fun pre rr m' => (∃ x5 x6 x7, rr = [some (encS s), some (tD r), some (iD xs), some (tD o), some (.ref p), x5, x6, x7]) ∧ m' = up m p (.dN (dct pre fun _ => .int 0))) (cellsOf s o) [] _ _ _ rfl ⟨⟨_, _, _, rfl⟩, rfl⟩ ?_ ?_
  · rintro pre c post rr m' P e ⟨⟨x5, x6, x7, rfl⟩, rfl⟩ hP
    have hn : c ∉ pre := fun hm => by
      have := cellsN_nodup (szs s o)
      rw [show cellsN (szs s o) = pre ++ c :: post from e, List.nodup_append] at this
      exact this.2.2 c hm c List.mem_cons_self rfl
    have hlen : pre.length ≤ 60 := by rw [e, List.length_append] at h60; omega
    unfold tD
    walk_at "d"
    refine ⟨_, up_same, kyT c, keyD_kyT c, kyT_depth c, small' (k := 1000) (by rw [dct_len]; omega), ?_⟩
    rw [up_up]
    exact hP _ _ ⟨⟨_, _, _, rfl⟩, by rw [← put_new hn]⟩
  · rintro rr m' ⟨⟨x5, x6, x7, rfl⟩, rfl⟩
    walk_at "d"
    refine ⟨s, r, rfl, hs, hr, ?_⟩
    unfold iD
    walk_at "d"
    rw [zip2_map]
    refine forGo_fold (enc := fun q : List Nat × Int => D.pair [tD q.1, .int q.2]) (fun g q => addF g (abv s r q.1 o, q.2)) (fun g rr m' => (∃ x5 x6 x7, rr = [some (encS s), some (tD r), some (.tup (xs.map D.int)), some (tD o), some (.ref p), x5, x6, x7]) ∧ m' = up m p (.dN (dct (cellsOf s o) fun c => .int (g c)))) _ _ _ _ ⟨⟨_, _, _, rfl⟩, rfl⟩ ?_ ?_
    · rintro g ⟨c, x⟩ rr m' P hq ⟨⟨x5, x6, x7, rfl⟩, rfl⟩ hP
      have hc : Cell s r c := cell_iff.mp (List.of_mem_zip hq).1
      have hin := cell_iff.mpr (hc.abv hs hr ho hf)
      walk_at "d"
      refine ⟨s, r, c, o, rfl, hs, hr, hc, ho, hf, ?_⟩
      unfold tD
      walk_at "d"
      refine ⟨p, _, kyT (abv s r c o), _, rfl, up_same, keyD_kyT _, kyT_depth _, look_dct hin, ?_⟩
      walk_at "d"
      refine ⟨_, up_same, kyT (abv s r c o), keyD_kyT _, kyT_depth _, small' (k := 1000) (by rw [dct_len]; omega), ?_⟩
      rw [up_up, put_dct hin]
      refine hP _ _ ⟨⟨_, _, _, rfl⟩, ?_⟩
      congr 2
      unfold dct
      refine List.map_congr_left fun y _ => ?_
      by_cases ey : y = abv s r c o
      · subst ey; simp [addF]
      · simp [addF, ey]
    · rintro rr m' ⟨⟨x5, x6, x7, rfl⟩, rfl⟩
      walk_at "d"
      refine ⟨_, up_same, ?_⟩
      refine end_rtL (m2 := m) (fun b z hb => ?_) ?_
      · rw [up_ne (fun z => by subst z; rw [hp] at hb; cases hb)]; exact hb
      · have e : ((dct (cellsOf s o) fun c => D.int (((cellsOf s r).zip xs).foldl (fun g q => addF g (abv s r q.1 o, q.2)) (fun _ => 0) c)).map (·.2)) = (rolN s r xs o).map D.int := by
          unfold dct rolN rolF kxOf
          rw [List.map_map, List.map_map, List.foldl_map]
          rfl
        rw [e]
        exact q
theorem fin_fine {s : Sch} {o : List Nat} : fineB (finN s) o = true := fine_of fun i x y hx _ => by
  unfold finN at hx
  rw [List.getElem?_replicate] at hx
  split at hx
  · cases hx; exact Nat.zero_le _
  · cases hx
def s_sums_of : DSp := fun ds m Q => ∃ (s : Sch) (xs : List Int) (o : List Nat), ds = [encS s, iD xs, tD o] ∧ SchV s ∧ Roll s o ∧ Q (iD (rolN s (finN s) xs o)) m
theorem l_sums_of : ∀ ds m Q, s_sums_of ds m Q → ds.length = 3 := by rintro ds m Q ⟨s, xs, o, rfl, _⟩; rfl
def t_sums_of : DS := (xRet (dCB s_rolled_of (dCons (dVar 0) (dCons (dCB s_finest (dCons (dVar 0) dNil)) (dCons (dVar 1) (dCons (dVar 2) dNil))))))
theorem v_sums_of : Body 3 t_sums_of s_sums_of := by
  rintro ds m Q ⟨s, xs, o, rfl, hs, ho, q⟩
  unfold t_sums_of
  walk_at "d"
  exact ⟨s, rfl, hs, s, finN s, xs, o, rfl, hs, fin_roll s, ho, fin_fine, end_rt q⟩
def Tab (s : Sch) (xs : List Int) : Prop := xs.length = prodN (szs s (finN s))
def s_need_table : DSp := fun ds m Q => ∃ (s : Sch) (xs : List Int), ds = [encS s, iD xs] ∧ SchV s ∧ Tab s xs ∧ Q .non m
theorem l_need_table : ∀ ds m Q, s_need_table ds m Q → ds.length = 2 := by rintro ds m Q ⟨s, xs, rfl, _⟩; rfl
def t_need_table : DS := (xIf (dNot (dTest (dCB s_is_table_of (dCons (dVar 0) (dCons (dVar 1) dNil))))) xNever xNext)
theorem v_need_table : Body 2 t_need_table s_need_table := by
  rintro ds m Q ⟨s, xs, rfl, hs, hx, q⟩
  unfold t_need_table
  walk_at "d"
  refine ⟨s, _, rfl, hs, kn_iD m xs, _, rfl, ?_⟩
  rw [isAm_ok hx]
  exact end_nx q
end Mn

set_option linter.all false
set_option maxHeartbeats 4000000
set_option autoImplicit false
set_option maxRecDepth 100000
namespace Mn
open PySem L2
variable [Tbs]
local macro_rules | `(tactic| walk_at "d") => `(tactic| (try simp only [xNext, xSeq, xAsg, xRet, xRetF, xDrop, xIf, xPar, xPar3, xMatch, mGo, xFrz, xPut, xAug, xFor, dVar, dC, dOp, dTest, dChain, dAndV, dOrV, dNotV, dAnd, dOr, dNot, dIf, dNil, dCons, dTup, dLst, dLstM, dCB, dIsi, dLc, dLcM, dYes, wipeD, dSlice, oSome, oNone, aSl_tup, aSl_lst, dNeg, dStar, dNewD, dTupVals, dSortSet, dCountL, dExtend, dAppend, dFrz, dLc2, dCountT, dIndexT, sqf_tup, sqf_lst, sqf_pair, sSeq, sSeq_tup, sSeq_lst, sRg1, sRg2, sZip2, sZip3, sZip4, sEnum, gV, gN, gC, gT, tupOf_tup, tupOf_pair, aAdd_int, aAdd_tup, aAdd_lst, aSub_int, aMul_int, aDiv_int, aMod_int, aPow_int, aCmp_int, aIx_tup, aIx_lst, aIx_scr, aIx_pair, aMax_int, aMin_int, aInt_bl, aInt_int, aLen_tup, aLen_lst, aLen_scr, aLen_pair, aTuple_lst, aTuple_tup, aIsB_bl, aNotB_bl, aEq_int, aNe_int, startD, List.map_cons, List.map_nil, List.length_cons, List.length_nil, List.cons_append, List.nil_append, List.replicate_zero, List.replicate_succ, List.append_nil, List.getElem?_cons_zero, List.getElem?_cons_succ, List.set_cons_zero, List.set_cons_succ, Option.some.injEq, exists_eq_left', exists_eq_left, exists_eq', D.int.injEq, D.bl.injEq, D.tup.injEq, D.lst.injEq, D.pair.injEq, D.ref.injEq, List.cons.injEq, Nat.sub_self, Nat.zero_add, Nat.add_sub_cancel, seqI_tup, seqI_lst, seqOf_tup, seqOf_lst, tyN_tup, tyN_lst, tyN_int, tyN_bl, tyN_str, tyN_non, isi_tt, at_0, at_1, at_2, at_3, Option.map_some, true_and, and_true, if_true, Bool.false_eq_true, if_false, Bool.not_true, Bool.not_false, ↓reduceIte, Nat.reduceAdd, Nat.reduceSub, exists_and_left, and_assoc]))
/-! the order of cells -/
/-! places: for each cell of the finest rollup the cell above -/
theorem flatMap_cong {α β : Type} {f g : α → List β} : ∀ {l : List α}, (∀ x ∈ l, f x = g x) → l.flatMap f = l.flatMap g
  | [], _ => rfl
  | x :: l, h => by rw [List.flatMap_cons, List.flatMap_cons, h x List.mem_cons_self, flatMap_cong fun y hy => h y (List.mem_cons_of_mem _ hy)]
namespace B
def s_law_cells : DSp := fun ds m Q => ∃ (s : Sch) (r : List Nat), ds = [encS s, tD r] ∧ SchV s ∧ Roll s r ∧ Q (.lst ((cellsOf s r).map tD)) m
end B
end Mn

set_option linter.all false
set_option maxHeartbeats 4000000
set_option autoImplicit false
set_option maxRecDepth 100000
namespace Mn
open PySem L2
variable [Tbs]
local macro_rules | `(tactic| walk_at "d") => `(tactic| (try simp only [xNext, xSeq, xAsg, xRet, xRetF, xDrop, xIf, xPar, xPar3, xFrz, xPut, xAug, xFor, dVar, dC, dOp, dTest, dChain, dAndV, dOrV, dNotV, dAnd, dOr, dNot, dIf, dNil, dCons, dTup, dLst, dLstM, dCB, dIsi, dLc, dLcM, dYes, wipeD, dSlice, oSome, oNone, aSl_tup, aSl_lst, dNeg, dStar, dNewD, dTupVals, dCountL, dExtend, dAppend, dFrz, dLc2, dCountT, dIndexT, sqf_tup, sqf_lst, sqf_pair, sSeq, sSeq_tup, sSeq_lst, sRg1, sRg2, sZip2, sZip3, sZip4, sEnum, gV, gN, gC, gT, tupOf_tup, tupOf_pair, aAdd_int, aAdd_tup, aAdd_lst, aSub_int, aMul_int, aDiv_int, aMod_int, aPow_int, aCmp_int, aIx_tup, aIx_lst, aIx_scr, aIx_pair, aMax_int, aMin_int, aInt_bl, aInt_int, aLen_tup, aLen_lst, aLen_scr, aLen_pair, aTuple_lst, aTuple_tup, aEq_int, aNe_int, startD, List.map_cons, List.map_nil, List.length_cons, List.length_nil, List.cons_append, List.nil_append, List.replicate_zero, List.replicate_succ, List.append_nil, List.getElem?_cons_zero, List.getElem?_cons_succ, List.set_cons_zero, List.set_cons_succ, Option.some.injEq, exists_eq_left', exists_eq_left, exists_eq', D.int.injEq, D.bl.injEq, D.tup.injEq, D.lst.injEq, D.pair.injEq, D.ref.injEq, List.cons.injEq, Nat.sub_self, Nat.zero_add, Nat.add_sub_cancel, seqI_tup, seqI_lst, seqOf_tup, seqOf_lst, tyN_tup, tyN_lst, tyN_int, tyN_bl, tyN_str, tyN_non, isi_tt, at_0, at_1, at_2, at_3, Option.map_some, true_and, and_true, if_true, Bool.false_eq_true, if_false, Bool.not_true, Bool.not_false, ↓reduceIte, Nat.reduceAdd, Nat.reduceSub, exists_and_left, and_assoc]))
/-! loops that return -/
section
variable {α : Type} {enc : α → D} {g : DG} {tb : DS} {De : DE}
end
/-! the stored -/
def stD (st : List (List Nat)) : D := .tup (st.map tD)
def Stv (s : Sch) (st : List (List Nat)) : Prop := st.length ≤ 8 ∧ ∀ r ∈ st, Roll s r
def isRolls (s : Sch) (d : D) : Bool := match d with
  | .tup ds => decide (ds.length ≤ 8) && ds.all (isRoll s)
  | _ => false
theorem Stv.ok {s : Sch} {st : List (List Nat)} (h : Stv s st) : isRolls s (stD st) = true := by
  simp only [isRolls, stD, List.length_map, h.1, decide_true, Bool.true_and, List.all_map, List.all_eq_true]
  intro r hr
  exact h.2 r hr
/-! the place -/
/-! the two values taken -/
def tkC (a : At) (l i j : Nat) : Bool := decide (a.up i 0 l ≠ a.up j 0 l) && decide (a.up i 0 (l + 1) = a.up j 0 (l + 1))
def tkJ (a : At) (l i : Nat) : Option (List Nat) := (List.range' (i + 1) (a.n - (i + 1))).findSome? fun j => if tkC a l i j = true then some [i, j] else none
def tkO (a : At) (l : Nat) : Option (List Nat) := (List.range a.n).findSome? fun i => tkJ a l i
def tkN (a : At) (l : Nat) : List Nat := if l < a.ss.length then (tkO a l).getD [0] else [0]
def TkV (n : Nat) (t : List Nat) : Prop := t = [0] ∨ ∃ i j, i < j ∧ j < n ∧ t = [i, j]
/-! the two tables -/
/-! the answer -/
end Mn

set_option linter.all false
set_option maxHeartbeats 4000000
set_option autoImplicit false
set_option maxRecDepth 100000
namespace Mn
open PySem L2
variable [Tbs]
local macro_rules | `(tactic| walk_at "d") => `(tactic| (try simp only [xNext, xSeq, xAsg, xRet, xRetF, xDrop, xIf, xPar, xPar3, xFrz, xPut, xAug, xFor, dVar, dC, dOp, dTest, dChain, dAndV, dOrV, dNotV, dAnd, dOr, dNot, dIf, dNil, dCons, dTup, dLst, dLstM, dCB, dIsi, dLc, dLcM, dYes, wipeD, dSlice, oSome, oNone, aSl_tup, aSl_lst, dNeg, dStar, dNewD, dTupVals, dCountL, dExtend, dAppend, dFrz, dLc2, dCountT, dIndexT, sqf_tup, sqf_lst, sqf_pair, sSeq, sSeq_tup, sSeq_lst, sRg1, sRg2, sZip2, sZip3, sZip4, sEnum, gV, gN, gC, gT, tupOf_tup, tupOf_pair, aAdd_int, aAdd_tup, aAdd_lst, aSub_int, aMul_int, aDiv_int, aMod_int, aPow_int, aCmp_int, aIx_tup, aIx_lst, aIx_scr, aIx_pair, aMax_int, aMin_int, aInt_bl, aInt_int, aLen_tup, aLen_lst, aLen_scr, aLen_pair, aTuple_lst, aTuple_tup, aEq_int, aNe_int, startD, List.map_cons, List.map_nil, List.length_cons, List.length_nil, List.cons_append, List.nil_append, List.replicate_zero, List.replicate_succ, List.append_nil, List.getElem?_cons_zero, List.getElem?_cons_succ, List.set_cons_zero, List.set_cons_succ, Option.some.injEq, exists_eq_left', exists_eq_left, exists_eq', D.int.injEq, D.bl.injEq, D.tup.injEq, D.lst.injEq, D.pair.injEq, D.ref.injEq, List.cons.injEq, Nat.sub_self, Nat.zero_add, Nat.add_sub_cancel, seqI_tup, seqI_lst, seqOf_tup, seqOf_lst, tyN_tup, tyN_lst, tyN_int, tyN_bl, tyN_str, tyN_non, isi_tt, at_0, at_1, at_2, at_3, Option.map_some, true_and, and_true, if_true, Bool.false_eq_true, if_false, Bool.not_true, Bool.not_false, ↓reduceIte, Nat.reduceAdd, Nat.reduceSub, exists_and_left, and_assoc]))
/-! which levels keep the values of a group together -/
def clsN (a : At) (v l : Nat) : List Nat := (List.range a.n).filter fun w => decide (a.up w 0 l = a.up v 0 l)
theorem mem_cls {a : At} {v l w : Nat} : w ∈ clsN a v l ↔ w < a.n ∧ a.up w 0 l = a.up v 0 l := by
  unfold clsN; rw [List.mem_filter, List.mem_range, decide_eq_true_eq]
theorem filter_ext {p q : Nat → Bool} {n : Nat} (h : ∀ w, w < n → (p w = true ↔ q w = true)) : (List.range n).filter p = (List.range n).filter q :=
  List.filter_congr fun w hw => by
    have := h w (List.mem_range.mp hw)
    cases hp : p w <;> cases hq : q w <;> simp_all
theorem cls_eq {a : At} {v l l' : Nat} : clsN a v l = clsN a v l' ↔ ∀ w, w < a.n → (a.up w 0 l = a.up v 0 l ↔ a.up w 0 l' = a.up v 0 l') := by
  constructor
  · intro h w hw
    have h1 := mem_cls (a := a) (v := v) (l := l) (w := w)
    have h2 := mem_cls (a := a) (v := v) (l := l') (w := w)
    rw [h] at h1
    constructor
    · intro e; exact (h2.mp (h1.mpr ⟨hw, e⟩)).2
    · intro e; exact (h1.mp (h2.mpr ⟨hw, e⟩)).2
  · intro h
    exact filter_ext fun w hw => by rw [decide_eq_true_eq, decide_eq_true_eq]; exact h w hw
theorem count_one {st : List Nat} {g y : Nat} (hg : g < st.length) (e : stepG st g = y) : st.count y = 1 ↔ ∀ g', g' < st.length → stepG st g' = y → g' = g := by
  have hs : st = st.take g ++ y :: st.drop (g + 1) := by
    rw [stepG_get hg] at e
    rw [← e, List.getElem_cons_drop, List.take_append_drop]
  have hc : st.count y = (st.take g).count y + 1 + (st.drop (g + 1)).count y := by
    conv => lhs; rw [hs]
    rw [List.count_append, List.count_cons_self]
    omega
  constructor
  · intro h g' hg' e'
    rw [stepG_get hg'] at e'
    have h1 : (st.take g).count y = 0 := by omega
    have h2 : (st.drop (g + 1)).count y = 0 := by omega
    rw [List.count_eq_zero] at h1 h2
    by_cases c1 : g' < g
    · exact absurd (by rw [← e']; exact List.mem_iff_getElem.mpr ⟨g', by rw [List.length_take]; omega, by rw [List.getElem_take]⟩) h1
    · by_cases c2 : g' = g
      · exact c2
      · refine absurd ?_ h2
        rw [← e']
        refine List.mem_iff_getElem.mpr ⟨g' - (g + 1), by rw [List.length_drop]; omega, ?_⟩
        rw [List.getElem_drop]
        congr 1
        omega
  · intro h
    have h1 : (st.take g).count y = 0 := by
      rw [List.count_eq_zero]
      intro hm
      obtain ⟨i, hi, ei⟩ := List.mem_iff_getElem.mp hm
      rw [List.length_take] at hi
      rw [List.getElem_take] at ei
      have := h i (by omega) (by rw [stepG_get (by omega)]; exact ei)
      omega
    have h2 : (st.drop (g + 1)).count y = 0 := by
      rw [List.count_eq_zero]
      intro hm
      obtain ⟨i, hi, ei⟩ := List.mem_iff_getElem.mp hm
      rw [List.length_drop] at hi
      rw [List.getElem_drop] at ei
      have := h (g + 1 + i) (by omega) (by rw [stepG_get (by omega)]; exact ei)
      omega
    omega
/-- one level on -/
theorem cls_step {a : At} (ha : a.V) {v l : Nat} (hv : v < a.n) (hl : l < a.ss.length) : clsN a v (l + 1) = clsN a v l ↔ (a.ss.getD l []).count (stepG (a.ss.getD l []) (a.up v 0 l)) = 1 := by
  have hst := ha.step hl
  have hlt : ∀ {w}, w < a.n → a.up w 0 l < a.sz l := fun hw => ha.up_lt hw (Nat.zero_le _) (by omega)
  rw [cls_eq, count_one (by rw [hst.1]; exact hlt hv) rfl]
  constructor
  · intro h g' hg' e
    rw [hst.1] at hg'
    obtain ⟨w, hw, ew⟩ := ha.up_surj (lo := 0) (Nat.zero_le _) (by omega) hg'
    have := (h w hw).mp (by rw [up_succ (Nat.zero_le _) hl, up_succ (Nat.zero_le _) hl, ew]; exact e)
    rw [← ew]; exact this
  · intro h w hw
    rw [up_succ (Nat.zero_le _) hl, up_succ (Nat.zero_le _) hl]
    constructor
    · intro e
      exact h _ (by rw [hst.1]; exact hlt hw) e
    · intro e; rw [e]
/-- classes grow -/
theorem cls_mono {a : At} {v w l l' : Nat} (h : l ≤ l') (h' : l' ≤ a.ss.length) (e : a.up w 0 l = a.up v 0 l) : a.up w 0 l' = a.up v 0 l' := by
  rw [← up_trans (a := a) (lo := 0) (mid := l) (Nat.zero_le _) h h', e, up_trans (Nat.zero_le _) h h']
theorem own_spec {a : At} (ha : a.V) {v : Nat} (hv : v < a.n) : ∀ (k l : Nat), a.ss.length - l = k → l ≤ a.ss.length →
    l ≤ (ownG a l (a.up v 0 l)).1 ∧ (ownG a l (a.up v 0 l)).1 ≤ a.ss.length ∧ (ownG a l (a.up v 0 l)).2 = a.up v 0 (ownG a l (a.up v 0 l)).1 ∧ clsN a v (ownG a l (a.up v 0 l)).1 = clsN a v l ∧
    ∀ l', (ownG a l (a.up v 0 l)).1 < l' → l' ≤ a.ss.length → clsN a v l' ≠ clsN a v l := by
  intro k
  induction k with
  | zero =>
    intro l hk hl
    have e : l = a.ss.length := by omega
    rw [ownG_no (fun h => by have := h.1; omega)]
    exact ⟨Nat.le_refl _, hl, rfl, rfl, fun l' h1 h2 => by simp only at h1; omega⟩
  | succ k ih =>
    intro l hk hl
    have hl' : l < a.ss.length := by omega
    by_cases hc : (a.ss.getD l []).count (stepG (a.ss.getD l []) (a.up v 0 l)) = 1
    · rw [ownG_yes hl' hc, ← up_succ (Nat.zero_le _) hl']
      have hs := (cls_step ha hv hl').mpr hc
      obtain ⟨q1, q2, q3, q4, q5⟩ := ih (l + 1) (by omega) hl'
      exact ⟨by omega, q2, q3, q4.trans hs, fun l' h1 h2 e => q5 l' h1 h2 (e.trans hs.symm)⟩
    · rw [ownG_no (fun h => hc h.2)]
      refine ⟨Nat.le_refl _, hl, rfl, rfl, fun l' h1 h2 e => hc ((cls_step ha hv hl').mp ?_)⟩
      simp only at h1
      rw [cls_eq] at e ⊢
      intro w hw
      constructor
      · intro e1
        exact (e w hw).mp (cls_mono (by omega) h2 e1)
      · intro e1
        exact cls_mono (by omega) hl' e1
/-! the law -/
theorem eqv_nats : ∀ (xs ys : List Nat), PyData.eqvAll (pyL (xs.map nD)) (pyL (ys.map nD)) = decide (xs = ys)
  | [], [] => rfl
  | [], _ :: _ => by simp [pyL, PyData.eqvAll]
  | _ :: _, [] => by simp [pyL, PyData.eqvAll]
  | x :: xs, y :: ys => by
    have ih := eqv_nats xs ys
    simp only [List.map_cons, pyL, PyData.eqvAll, ih, nD, py, PyData.eqv]
    by_cases h : x = y
    · subst h; simp
    · have : ¬ ((x : Int) = (y : Int)) := by omega
      simp [h, this]
theorem ownL_at {s : Sch} {r c : List Nat} {i : Nat} {a : At} {l g : Nat} (ha : s[i]? = some a) (hl : r[i]? = some l) (hg : c[i]? = some g) : (ownL s r c)[i]? = some (ownG a l g).1 ∧ (ownC s r c)[i]? = some (ownG a l g).2 := by
  have : (s.zip (r.zip c))[i]? = some (a, l, g) := by
    rw [List.getElem?_zip_eq_some, List.getElem?_zip_eq_some]
    exact ⟨ha, hl, hg⟩
  unfold ownL ownC
  rw [List.getElem?_map, List.getElem?_map, this]
  exact ⟨rfl, rfl⟩
end Mn

set_option linter.all false
set_option maxHeartbeats 4000000
set_option autoImplicit false
set_option maxRecDepth 100000
namespace Mn
open PySem L2
variable [Tbs]
local macro_rules | `(tactic| walk_at "d") => `(tactic| (try simp only [xNext, xSeq, xAsg, xRet, xRetF, xDrop, xIf, xPar, xPar3, xMatch, mGo, xFrz, xPut, xAug, xFor, dVar, dC, dOp, dTest, dChain, dAndV, dOrV, dNotV, dAnd, dOr, dNot, dIf, dNil, dCons, dTup, dLst, dLstM, dCB, dIsi, dLc, dLcM, dYes, wipeD, dSlice, oSome, oNone, aSl_tup, aSl_lst, dNeg, dStar, dNewD, dTupVals, dSortSet, dCountL, dExtend, dAppend, dFrz, dLc2, dCountT, dIndexT, sqf_tup, sqf_lst, sqf_pair, sSeq, sSeq_tup, sSeq_lst, sRg1, sRg2, sZip2, sZip3, sZip4, sEnum, gV, gN, gC, gT, tupOf_tup, tupOf_pair, aAdd_int, aAdd_tup, aAdd_lst, aSub_int, aMul_int, aDiv_int, aMod_int, aPow_int, aCmp_int, aIx_tup, aIx_lst, aIx_scr, aIx_pair, aMax_int, aMin_int, aInt_bl, aInt_int, aLen_tup, aLen_lst, aLen_scr, aLen_pair, aTuple_lst, aTuple_tup, aIsB_bl, aNotB_bl, aEq_int, aNe_int, startD, List.map_cons, List.map_nil, List.length_cons, List.length_nil, List.cons_append, List.nil_append, List.replicate_zero, List.replicate_succ, List.append_nil, List.getElem?_cons_zero, List.getElem?_cons_succ, List.set_cons_zero, List.set_cons_succ, Option.some.injEq, exists_eq_left', exists_eq_left, exists_eq', D.int.injEq, D.bl.injEq, D.tup.injEq, D.lst.injEq, D.pair.injEq, D.ref.injEq, List.cons.injEq, Nat.sub_self, Nat.zero_add, Nat.add_sub_cancel, seqI_tup, seqI_lst, seqOf_tup, seqOf_lst, tyN_tup, tyN_lst, tyN_int, tyN_bl, tyN_str, tyN_non, isi_tt, at_0, at_1, at_2, at_3, Option.map_some, true_and, and_true, if_true, Bool.false_eq_true, if_false, Bool.not_true, Bool.not_false, ↓reduceIte, Nat.reduceAdd, Nat.reduceSub, exists_and_left, and_assoc]))
/-! sorted without doubles -/
/-! tuples compared -/
theorem eqv_tD (a b : List Nat) (m : Mu) : PyData.eqv (pyM (tD a) m) (pyM (tD b) m) = decide (a = b) := by
  show PyData.eqv (PyData.tuple (pyL (a.map nD))) (PyData.tuple (pyL (b.map nD))) = _
  rw [PyData.eqv]
  exact eqv_nats a b
/-! needed -/
end Mn

set_option linter.all false
set_option maxHeartbeats 4000000
set_option autoImplicit false
set_option maxRecDepth 100000
namespace Mn
open PySem L2
variable [Tbs]
local macro_rules | `(tactic| walk_at "d") => `(tactic| (try simp only [xNext, xSeq, xAsg, xRet, xRetF, xDrop, xIf, xPar, xPar3, xFrz, xPut, xAug, xFor, dVar, dC, dOp, dTest, dChain, dAndV, dOrV, dNotV, dAnd, dOr, dNot, dIf, dNil, dCons, dTup, dLst, dLstM, dCB, dIsi, dLc, dLcM, dYes, wipeD, dSlice, oSome, oNone, aSl_tup, aSl_lst, dNeg, dStar, dNewD, dTupVals, dCountL, dExtend, dAppend, dFrz, dLc2, dCountT, dIndexT, sqf_tup, sqf_lst, sqf_pair, sSeq, sSeq_tup, sSeq_lst, sRg1, sRg2, sZip2, sZip3, sZip4, sEnum, gV, gN, gC, gT, tupOf_tup, tupOf_pair, aAdd_int, aAdd_tup, aAdd_lst, aSub_int, aMul_int, aDiv_int, aMod_int, aPow_int, aCmp_int, aIx_tup, aIx_lst, aIx_scr, aIx_pair, aMax_int, aMin_int, aInt_bl, aInt_int, aLen_tup, aLen_lst, aLen_scr, aLen_pair, aTuple_lst, aTuple_tup, aEq_int, aNe_int, startD, List.map_cons, List.map_nil, List.length_cons, List.length_nil, List.cons_append, List.nil_append, List.replicate_zero, List.replicate_succ, List.append_nil, List.getElem?_cons_zero, List.getElem?_cons_succ, List.set_cons_zero, List.set_cons_succ, Option.some.injEq, exists_eq_left', exists_eq_left, exists_eq', D.int.injEq, D.bl.injEq, D.tup.injEq, D.lst.injEq, D.pair.injEq, D.ref.injEq, List.cons.injEq, Nat.sub_self, Nat.zero_add, Nat.add_sub_cancel, seqI_tup, seqI_lst, seqOf_tup, seqOf_lst, tyN_tup, tyN_lst, tyN_int, tyN_bl, tyN_str, tyN_non, isi_tt, at_0, at_1, at_2, at_3, Option.map_some, true_and, and_true, if_true, Bool.false_eq_true, if_false, Bool.not_true, Bool.not_false, ↓reduceIte, Nat.reduceAdd, Nat.reduceSub, exists_and_left, and_assoc]))
/-! the values taken for a cell -/
def fv (a : At) (l g : Nat) : Nat := ((List.range a.n).filter fun w => decide (a.up w 0 l = g)).headD 0
theorem fv_ok {a : At} (av : a.V) {l g : Nat} (hl : l ≤ a.ss.length) (hg : g < a.sz l) : fv a l g < a.n ∧ a.up (fv a l g) 0 l = g := by
  obtain ⟨v, hv, ev⟩ := av.up_surj (lo := 0) (Nat.zero_le _) hl hg
  have hm : fv a l g ∈ (List.range a.n).filter fun w => decide (a.up w 0 l = g) := by
    unfold fv
    cases e : (List.range a.n).filter fun w => decide (a.up w 0 l = g) with
    | nil =>
      rw [List.filter_eq_nil_iff] at e
      exact absurd (decide_eq_true ev) (e v (List.mem_range.mpr hv))
    | cons x r => simp
  rw [List.mem_filter, List.mem_range, decide_eq_true_eq] at hm
  exact hm
def others (a : At) (v l : Nat) : List Nat := (clsN a v (l + 1)).filter fun x => !(clsN a v l).contains x
/-! the answer for a cell -/
/-- what is known of the own level of a group -/
theorem own_fv {a : At} (av : a.V) {l g : Nat} (hl : l ≤ a.ss.length) (hg : g < a.sz l) :
    fv a l g < a.n ∧ (ownG a l g).1 ≤ a.ss.length ∧ (ownG a l g).2 = a.up (fv a l g) 0 (ownG a l g).1 ∧ l ≤ (ownG a l g).1 ∧ clsN a (fv a l g) (ownG a l g).1 = clsN a (fv a l g) l ∧
    ∀ l', (ownG a l g).1 < l' → l' ≤ a.ss.length → clsN a (fv a l g) l' ≠ clsN a (fv a l g) l := by
  obtain ⟨h1, h2⟩ := fv_ok av hl hg
  have own := own_spec av h1 _ l rfl hl
  rw [h2] at own
  exact ⟨h1, own.2.1, own.2.2.1, own.1, own.2.2.2.1, own.2.2.2.2⟩
end Mn

set_option linter.all false
set_option maxHeartbeats 4000000
set_option autoImplicit false
set_option maxRecDepth 100000
namespace Mn
open PySem L2
variable [Tbs]
local macro_rules | `(tactic| walk_at "d") => `(tactic| (try simp only [xNext, xSeq, xAsg, xRet, xRetF, xDrop, xIf, xPar, xPar3, xMatch, mGo, xFrz, xPut, xAug, xFor, dVar, dC, dOp, dTest, dChain, dAndV, dOrV, dNotV, dAnd, dOr, dNot, dIf, dNil, dCons, dTup, dLst, dLstM, dCB, dIsi, dLc, dLcM, dYes, wipeD, dSlice, oSome, oNone, aSl_tup, aSl_lst, dNeg, dStar, dNewD, dTupVals, dSortSet, dCountL, dExtend, dAppend, dFrz, dLc2, dCountT, dIndexT, sqf_tup, sqf_lst, sqf_pair, sSeq, sSeq_tup, sSeq_lst, sRg1, sRg2, sZip2, sZip3, sZip4, sEnum, gV, gN, gC, gT, tupOf_tup, tupOf_pair, aAdd_int, aAdd_tup, aAdd_lst, aSub_int, aMul_int, aDiv_int, aMod_int, aPow_int, aCmp_int, aIx_tup, aIx_lst, aIx_scr, aIx_pair, aMax_int, aMin_int, aInt_bl, aInt_int, aLen_tup, aLen_lst, aLen_scr, aLen_pair, aTuple_lst, aTuple_tup, aIsB_bl, aNotB_bl, aEq_int, aNe_int, startD, List.map_cons, List.map_nil, List.length_cons, List.length_nil, List.cons_append, List.nil_append, List.replicate_zero, List.replicate_succ, List.append_nil, List.getElem?_cons_zero, List.getElem?_cons_succ, List.set_cons_zero, List.set_cons_succ, Option.some.injEq, exists_eq_left', exists_eq_left, exists_eq', D.int.injEq, D.bl.injEq, D.tup.injEq, D.lst.injEq, D.pair.injEq, D.ref.injEq, List.cons.injEq, Nat.sub_self, Nat.zero_add, Nat.add_sub_cancel, seqI_tup, seqI_lst, seqOf_tup, seqOf_lst, tyN_tup, tyN_lst, tyN_int, tyN_bl, tyN_str, tyN_non, isi_tt, at_0, at_1, at_2, at_3, Option.map_some, true_and, and_true, if_true, Bool.false_eq_true, if_false, Bool.not_true, Bool.not_false, ↓reduceIte, Nat.reduceAdd, Nat.reduceSub, exists_and_left, and_assoc]))
/-! sums compared -/
theorem eqv_ints : ∀ (xs ys : List Int), PyData.eqvAll (pyL (xs.map D.int)) (pyL (ys.map D.int)) = decide (xs = ys)
  | [], [] => rfl
  | [], _ :: _ => by simp [pyL, PyData.eqvAll]
  | _ :: _, [] => by simp [pyL, PyData.eqvAll]
  | x :: xs, y :: ys => by
    have ih := eqv_ints xs ys
    simp only [List.map_cons, pyL, PyData.eqvAll, ih, py, PyData.eqv]
    by_cases h : x = y
    · subst h; simp
    · simp [h]
theorem eqv_iD (a b : List Int) (m : Mu) : PyData.eqv (pyM (iD a) m) (pyM (iD b) m) = decide (a = b) := by
  show PyData.eqv (PyData.tuple (pyL (a.map D.int))) (PyData.tuple (pyL (b.map D.int))) = _
  rw [PyData.eqv]
  exact eqv_ints a b
theorem cm_iD (a : List Int) : Cm (iD a) 1 := cm_tup fun d hd => by obtain ⟨i, _, rfl⟩ := List.mem_map.mp hd; exact cm_int i
theorem ok_iD (a : List Int) (m : Mu) : okD (iD a) m := (cm_iD a).ok (by decide) m
theorem aEq_iD {a b : List Int} {m : Mu} {Q : DK} (q : Q (.bl (decide (a = b))) m) : aEq (iD a) (iD b) m Q := by
  show okD _ _ ∧ okD _ _ ∧ _
  refine ⟨ok_iD a m, ok_iD b m, ?_⟩
  rw [eqv_iD]
  exact q
/-! a stored rollup that is fine enough -/
/-! tables with the same stored sums -/
/-! what shows an answer -/
def isStrD (d : D) : Bool := match d with
  | .str _ => true
  | _ => false
/-- how such a function looks at a value first -/
inductive Look2 : D → Prop
  | no (d : D) : isTupD d = false → Look2 d
  | few (ds : List D) : ds.length < 2 → Look2 (.tup ds)
  | odd (e : D) (ds : List D) : isStrD e = false → 1 ≤ ds.length → Look2 (.tup (e :: ds))
  | two (x : Str) (p : D) : Look2 (.tup [.str x, p])
  | three (x : Str) (a b : D) : Look2 (.tup [.str x, a, b])
  | four (x : Str) (a b c : D) (ds : List D) : Look2 (.tup (.str x :: a :: b :: c :: ds))
/-! the sum at one cell -/
def smA (s : Sch) (xs : List Int) (w c : List Nat) : Int := rolF (kxOf s (finN s) xs w) c
end Mn

set_option linter.all false
set_option maxHeartbeats 4000000
set_option autoImplicit false
set_option maxRecDepth 100000
namespace Mn
open PySem L2
variable [Tbs]
local macro_rules | `(tactic| walk_at "d") => `(tactic| (try simp only [xNext, xSeq, xAsg, xRet, xRetF, xDrop, xIf, xPar, xPar3, xMatch, mGo, xFrz, xPut, xAug, xFor, dVar, dC, dOp, dTest, dChain, dAndV, dOrV, dNotV, dAnd, dOr, dNot, dIf, dNil, dCons, dTup, dLst, dLstM, dCB, dIsi, dLc, dLcM, dYes, wipeD, dSlice, oSome, oNone, aSl_tup, aSl_lst, dNeg, dStar, dNewD, dTupVals, dSortSet, dCountL, dExtend, dAppend, dFrz, dLc2, dCountT, dIndexT, sqf_tup, sqf_lst, sqf_pair, sSeq, sSeq_tup, sSeq_lst, sRg1, sRg2, sZip2, sZip3, sZip4, sEnum, gV, gN, gC, gT, tupOf_tup, tupOf_pair, aAdd_int, aAdd_tup, aAdd_lst, aSub_int, aMul_int, aDiv_int, aMod_int, aPow_int, aCmp_int, aIx_tup, aIx_lst, aIx_scr, aIx_pair, aMax_int, aMin_int, aInt_bl, aInt_int, aLen_tup, aLen_lst, aLen_scr, aLen_pair, aTuple_lst, aTuple_tup, aIsB_bl, aNotB_bl, aEq_int, aNe_int, startD, List.map_cons, List.map_nil, List.length_cons, List.length_nil, List.cons_append, List.nil_append, List.replicate_zero, List.replicate_succ, List.append_nil, List.getElem?_cons_zero, List.getElem?_cons_succ, List.set_cons_zero, List.set_cons_succ, Option.some.injEq, exists_eq_left', exists_eq_left, exists_eq', D.int.injEq, D.bl.injEq, D.tup.injEq, D.lst.injEq, D.pair.injEq, D.ref.injEq, List.cons.injEq, Nat.sub_self, Nat.zero_add, Nat.add_sub_cancel, seqI_tup, seqI_lst, seqOf_tup, seqOf_lst, tyN_tup, tyN_lst, tyN_int, tyN_bl, tyN_str, tyN_non, isi_tt, at_0, at_1, at_2, at_3, Option.map_some, true_and, and_true, if_true, Bool.false_eq_true, if_false, Bool.not_true, Bool.not_false, ↓reduceIte, Nat.reduceAdd, Nat.reduceSub, exists_and_left, and_assoc]))
/-! sums over lists -/
/-- sums as they are rolled up -/
theorem rolF_sum (kx : List (List Nat × Int)) (c : List Nat) : rolF kx c = (kx.map fun p => if c = p.1 then p.2 else 0).sum := by
  have key : ∀ (kx : List (List Nat × Int)) (f : List Nat → Int), kx.foldl addF f c = f c + (kx.map fun p => if c = p.1 then p.2 else 0).sum := by
    intro kx
    induction kx with
    | nil => intro f; simp
    | cons p kx ih =>
      intro f
      rw [List.foldl_cons, ih, List.map_cons, List.sum_cons]
      unfold addF
      split <;> omega
  unfold rolF
  rw [key]
  omega
/-! cells from the front -/
theorem cells_fold : ∀ (ns : List Nat) (rows : List (List Nat)), ns.foldl (fun rows k => rows.flatMap fun row => (List.range k).map fun j => row ++ [j]) rows = rows.flatMap fun row => (cellsN ns).map fun x => row ++ x
  | [], rows => by
    simp only [cellsN, List.foldl_nil, List.map_cons, List.map_nil, List.append_nil]
    exact (List.flatMap_singleton' rows).symm
  | k :: ns, rows => by
    have e : cellsN (k :: ns) = ([[]].flatMap fun row => (List.range k).map fun j => row ++ [j]).flatMap fun row => (cellsN ns).map fun x => row ++ x := cells_fold ns _
    rw [List.foldl_cons, cells_fold ns, e, List.flatMap_assoc]
    refine flatMap_cong fun row _ => ?_
    rw [List.flatMap_cons, List.flatMap_nil, List.append_nil, List.flatMap_map, List.flatMap_map, List.map_flatMap]
    refine flatMap_cong fun j _ => ?_
    rw [List.map_map]
    refine List.map_congr_left fun x _ => ?_
    simp
theorem cellsN_cons (n : Nat) (ns : List Nat) : cellsN (n :: ns) = (List.range n).flatMap fun v => (cellsN ns).map fun x => v :: x := by
  have e : cellsN (n :: ns) = ([[]].flatMap fun row => (List.range n).map fun j => row ++ [j]).flatMap fun row => (cellsN ns).map fun x => row ++ x := cells_fold ns _
  rw [e, List.flatMap_cons, List.flatMap_nil, List.append_nil, List.flatMap_map]
  rfl
/-! the difference of the two tables -/
def dl (v : Nat) (t : List Nat) : Int := if v = t.headD 0 then 1 else if t.contains v = true then -1 else 0
end Mn

set_option linter.all false
set_option maxHeartbeats 4000000
set_option autoImplicit false
set_option maxRecDepth 100000
namespace Mn
open PySem L2
variable [Tbs]
local macro_rules | `(tactic| walk_at "d") => `(tactic| (try simp only [xNext, xSeq, xAsg, xRet, xRetF, xDrop, xIf, xPar, xPar3, xMatch, mGo, xFrz, xPut, xAug, xFor, dVar, dC, dOp, dTest, dChain, dAndV, dOrV, dNotV, dAnd, dOr, dNot, dIf, dNil, dCons, dTup, dLst, dLstM, dCB, dIsi, dLc, dLcM, dYes, wipeD, dSlice, oSome, oNone, aSl_tup, aSl_lst, dNeg, dStar, dNewD, dTupVals, dSortSet, dCountL, dExtend, dAppend, dFrz, dLc2, dCountT, dIndexT, sqf_tup, sqf_lst, sqf_pair, sSeq, sSeq_tup, sSeq_lst, sRg1, sRg2, sZip2, sZip3, sZip4, sEnum, gV, gN, gC, gT, tupOf_tup, tupOf_pair, aAdd_int, aAdd_tup, aAdd_lst, aSub_int, aMul_int, aDiv_int, aMod_int, aPow_int, aCmp_int, aIx_tup, aIx_lst, aIx_scr, aIx_pair, aMax_int, aMin_int, aInt_bl, aInt_int, aLen_tup, aLen_lst, aLen_scr, aLen_pair, aTuple_lst, aTuple_tup, aIsB_bl, aNotB_bl, aEq_int, aNe_int, startD, List.map_cons, List.map_nil, List.length_cons, List.length_nil, List.cons_append, List.nil_append, List.replicate_zero, List.replicate_succ, List.append_nil, List.getElem?_cons_zero, List.getElem?_cons_succ, List.set_cons_zero, List.set_cons_succ, Option.some.injEq, exists_eq_left', exists_eq_left, exists_eq', D.int.injEq, D.bl.injEq, D.tup.injEq, D.lst.injEq, D.pair.injEq, D.ref.injEq, List.cons.injEq, Nat.sub_self, Nat.zero_add, Nat.add_sub_cancel, seqI_tup, seqI_lst, seqOf_tup, seqOf_lst, tyN_tup, tyN_lst, tyN_int, tyN_bl, tyN_str, tyN_non, isi_tt, at_0, at_1, at_2, at_3, Option.map_some, true_and, and_true, if_true, Bool.false_eq_true, if_false, Bool.not_true, Bool.not_false, ↓reduceIte, Nat.reduceAdd, Nat.reduceSub, exists_and_left, and_assoc]))
/-! what is taken tells the tables apart -/
def Tk2 (a : At) (t : List Nat) (L g : Nat) : Prop :=
  (L = a.ss.length ∧ ∃ x, t = [x] ∧ x < a.n ∧ a.up x 0 L = g) ∨ (L < a.ss.length ∧ ∃ x y, t = [x, y] ∧ x < a.n ∧ y < a.n ∧ x ≠ y ∧ a.up x 0 L = g ∧ a.up y 0 L ≠ g ∧ a.up x 0 (L + 1) = a.up y 0 (L + 1))
def Tks (s : Sch) (ts : List (List Nat)) (Ls gs : List Nat) : Prop := ts.length = s.length ∧ Ls.length = s.length ∧ gs.length = s.length ∧
  ∀ (i : Nat) (a : At) (t : List Nat) (L g : Nat), s[i]? = some a → ts[i]? = some t → Ls[i]? = some L → gs[i]? = some g → Tk2 a t L g
theorem Tk2.ne {a : At} {t : List Nat} {L g : Nat} (h : Tk2 a t L g) : t ≠ [] := by
  rcases h with ⟨_, x, e, _⟩ | ⟨_, x, y, e, _⟩ <;> rw [e] <;> simp
theorem Tks.ne {s : Sch} {ts : List (List Nat)} {Ls gs : List Nat} (h : Tks s ts Ls gs) : ∀ t ∈ ts, t ≠ [] := fun t ht => by
  obtain ⟨i, hi⟩ := List.mem_iff_getElem?.mp ht
  have hl := (List.getElem?_eq_some_iff.mp hi).1
  obtain ⟨a, ha⟩ := get_ex (l := s) (i := i) (by have := h.1; omega)
  obtain ⟨L, hL⟩ := get_ex (l := Ls) (i := i) (by have := h.1; have := h.2.1; omega)
  obtain ⟨g, hg⟩ := get_ex (l := gs) (i := i) (by have := h.1; have := h.2.2.1; omega)
  exact (h.2.2.2 i a t L g ha hi hL hg).ne
/-! the first two values that a level tells apart -/
theorem zip_at {α β : Type} {as : List α} {bs : List β} {i : Nat} {a : α} {b : β} (ha : as[i]? = some a) (hb : bs[i]? = some b) : (as.zip bs)[i]? = some (a, b) := by
  rw [List.getElem?_zip_eq_some]; exact ⟨ha, hb⟩
end Mn

set_option Elab.async false
set_option linter.all false
set_option maxRecDepth 100000
set_option maxHeartbeats 4000000
set_option autoImplicit false
namespace Mn
open PySem PySem.Spec PyProof.Rows L2
variable [Tbs]
/-! t[::k], k = 1 or -1 -/
section
variable {prog : Program} {w : World} {A : Around} {E : Value → Shared → Prop} {s : Shared}
end
section
variable {X : Cx}
/-- over data -/
def dStep (te tk : DT) : DT := fun r m Q => te r m fun d m1 => tk r m1 fun k m2 => ∃ ds, d = .tup ds ∧ ((k = .int (-1) ∧ Q (.tup ds.reverse) m2) ∨ (k = .int 1 ∧ Q (.tup ds) m2))
end
end Mn

set_option Elab.async false
set_option linter.all false
set_option maxRecDepth 100000
set_option maxHeartbeats 4000000
set_option autoImplicit false
namespace Mn
open PySem PySem.Spec PyProof.Rows L2
variable [Tbs]
/-! t.index(x), t a tuple of any data -/
section
variable {X : Cx}
def ixK (o d : D) (m : Mu) (P : Nat → Prop) : Prop := ∃ es j z, o = .tup es ∧ okD o m ∧ okD d m ∧ es[j]? = some z ∧ PyData.eqv (py z) (pyM d m) = true ∧ (∀ i z', i < j → es[i]? = some z' → PyData.eqv (py z') (pyM d m) = false) ∧ P j
def dIndexTD (to te : DT) : DT := fun r m Q => to r m fun o m1 => (∃ es, o = .tup es) ∧ te r m1 fun d m2 => ixK o d m2 fun j => Q (.int (j : Nat)) m2
end
end Mn

set_option linter.all false
set_option maxHeartbeats 4000000
set_option autoImplicit false
set_option maxRecDepth 100000
namespace Mn
open PySem L2
variable [Tbs]
local macro_rules | `(tactic| walk_at "d") => `(tactic| (try simp only [xNext, xSeq, xAsg, xRet, xRetF, xDrop, xIf, xPar, xPar3, xMatch, mGo, xFrz, xPut, xAug, xFor, dVar, dC, dOp, dTest, dChain, dAndV, dOrV, dNotV, dAnd, dOr, dNot, dIf, dNil, dCons, dTup, dLst, dLstM, dCB, dIsi, dLc, dLcM, dYes, wipeD, dSlice, oSome, oNone, aSl_tup, aSl_lst, dNeg, dStar, dNewD, dTupVals, dSortSet, dStep, dIndexTD, dCountL, dExtend, dAppend, dFrz, dLc2, dCountT, dIndexT, sqf_tup, sqf_lst, sqf_pair, sSeq, sSeq_tup, sSeq_lst, sRg1, sRg2, sZip2, sZip3, sZip4, sEnum, gV, gN, gC, gT, tupOf_tup, tupOf_pair, aAdd_int, aAdd_tup, aAdd_lst, aSub_int, aMul_int, aDiv_int, aMod_int, aPow_int, aCmp_int, aIx_tup, aIx_lst, aIx_scr, aIx_pair, aMax_int, aMin_int, aInt_bl, aInt_int, aLen_tup, aLen_lst, aLen_scr, aLen_pair, aTuple_lst, aTuple_tup, aIsB_bl, aNotB_bl, aEq_int, aNe_int, startD, List.map_cons, List.map_nil, List.length_cons, List.length_nil, List.cons_append, List.nil_append, List.replicate_zero, List.replicate_succ, List.append_nil, List.getElem?_cons_zero, List.getElem?_cons_succ, List.set_cons_zero, List.set_cons_succ, Option.some.injEq, exists_eq_left', exists_eq_left, exists_eq', D.int.injEq, D.bl.injEq, D.tup.injEq, D.lst.injEq, D.pair.injEq, D.ref.injEq, List.cons.injEq, Nat.sub_self, Nat.zero_add, Nat.add_sub_cancel, seqI_tup, seqI_lst, seqOf_tup, seqOf_lst, tyN_tup, tyN_lst, tyN_int, tyN_bl, tyN_str, tyN_non, isi_tt, at_0, at_1, at_2, at_3, Option.map_some, true_and, and_true, if_true, Bool.false_eq_true, if_false, Bool.not_true, Bool.not_false, ↓reduceIte, Nat.reduceAdd, Nat.reduceSub, exists_and_left, and_assoc]))
/-! more about cells of their own -/
theorem own_len {s : Sch} {w c : List Nat} (hw : Roll s w) (hc : Cell s w c) : (ownL s w c).length = s.length ∧ (ownC s w c).length = s.length := by
  have hl := hw.len; have hcl := hc.len hw
  unfold ownL ownC
  rw [List.length_map, List.length_map, List.length_zip, List.length_zip]
  omega
end Mn

set_option linter.all false
set_option maxHeartbeats 4000000
set_option autoImplicit false
set_option maxRecDepth 100000
namespace Mn
open PySem L2
variable [Tbs]
local macro_rules | `(tactic| walk_at "d") => `(tactic| (try simp only [xNext, xSeq, xAsg, xRet, xRetF, xDrop, xIf, xPar, xPar3, xMatch, mGo, xFrz, xPut, xAug, xFor, dVar, dC, dOp, dTest, dChain, dAndV, dOrV, dNotV, dAnd, dOr, dNot, dIf, dNil, dCons, dTup, dLst, dLstM, dCB, dIsi, dLc, dLcM, dYes, wipeD, dSlice, oSome, oNone, aSl_tup, aSl_lst, dNeg, dStar, dNewD, dTupVals, dSortSet, dStep, dIndexTD, dCountL, dExtend, dAppend, dFrz, dLc2, dCountT, dIndexT, sqf_tup, sqf_lst, sqf_pair, sSeq, sSeq_tup, sSeq_lst, sRg1, sRg2, sZip2, sZip3, sZip4, sEnum, gV, gN, gC, gT, tupOf_tup, tupOf_pair, aAdd_int, aAdd_tup, aAdd_lst, aSub_int, aMul_int, aDiv_int, aMod_int, aPow_int, aCmp_int, aIx_tup, aIx_lst, aIx_scr, aIx_pair, aMax_int, aMin_int, aInt_bl, aInt_int, aLen_tup, aLen_lst, aLen_scr, aLen_pair, aTuple_lst, aTuple_tup, aIsB_bl, aNotB_bl, aEq_int, aNe_int, startD, List.map_cons, List.map_nil, List.length_cons, List.length_nil, List.cons_append, List.nil_append, List.replicate_zero, List.replicate_succ, List.append_nil, List.getElem?_cons_zero, List.getElem?_cons_succ, List.set_cons_zero, List.set_cons_succ, Option.some.injEq, exists_eq_left', exists_eq_left, exists_eq', D.int.injEq, D.bl.injEq, D.tup.injEq, D.lst.injEq, D.pair.injEq, D.ref.injEq, List.cons.injEq, Nat.sub_self, Nat.zero_add, Nat.add_sub_cancel, seqI_tup, seqI_lst, seqOf_tup, seqOf_lst, tyN_tup, tyN_lst, tyN_int, tyN_bl, tyN_str, tyN_non, isi_tt, at_0, at_1, at_2, at_3, Option.map_some, true_and, and_true, if_true, Bool.false_eq_true, if_false, Bool.not_true, Bool.not_false, ↓reduceIte, Nat.reduceAdd, Nat.reduceSub, exists_and_left, and_assoc]))
end Mn

set_option linter.all false
set_option maxHeartbeats 4000000
set_option autoImplicit false
set_option maxRecDepth 100000
namespace Mn
open PySem L2
variable [Tbs]
local macro_rules | `(tactic| walk_at "d") => `(tactic| (try simp only [xNext, xSeq, xAsg, xRet, xRetF, xDrop, xIf, xPar, xPar3, xMatch, mGo, xFrz, xPut, xAug, xFor, dVar, dC, dOp, dTest, dChain, dAndV, dOrV, dNotV, dAnd, dOr, dNot, dIf, dNil, dCons, dTup, dLst, dLstM, dCB, dIsi, dLc, dLcM, dYes, wipeD, dSlice, oSome, oNone, aSl_tup, aSl_lst, dNeg, dStar, dNewD, dTupVals, dSortSet, dCountL, dExtend, dAppend, dFrz, dLc2, dCountT, dIndexT, sqf_tup, sqf_lst, sqf_pair, sSeq, sSeq_tup, sSeq_lst, sRg1, sRg2, sZip2, sZip3, sZip4, sEnum, gV, gN, gC, gT, tupOf_tup, tupOf_pair, aAdd_int, aAdd_tup, aAdd_lst, aSub_int, aMul_int, aDiv_int, aMod_int, aPow_int, aCmp_int, aIx_tup, aIx_lst, aIx_scr, aIx_pair, aMax_int, aMin_int, aInt_bl, aInt_int, aLen_tup, aLen_lst, aLen_scr, aLen_pair, aTuple_lst, aTuple_tup, aIsB_bl, aNotB_bl, aEq_int, aNe_int, startD, List.map_cons, List.map_nil, List.length_cons, List.length_nil, List.cons_append, List.nil_append, List.replicate_zero, List.replicate_succ, List.append_nil, List.getElem?_cons_zero, List.getElem?_cons_succ, List.set_cons_zero, List.set_cons_succ, Option.some.injEq, exists_eq_left', exists_eq_left, exists_eq', D.int.injEq, D.bl.injEq, D.tup.injEq, D.lst.injEq, D.pair.injEq, D.ref.injEq, List.cons.injEq, Nat.sub_self, Nat.zero_add, Nat.add_sub_cancel, seqI_tup, seqI_lst, seqOf_tup, seqOf_lst, tyN_tup, tyN_lst, tyN_int, tyN_bl, tyN_str, tyN_non, isi_tt, at_0, at_1, at_2, at_3, Option.map_some, true_and, and_true, if_true, Bool.false_eq_true, if_false, Bool.not_true, Bool.not_false, ↓reduceIte, Nat.reduceAdd, Nat.reduceSub, exists_and_left, and_assoc]))
/-! least, sums, membership -/
/-! costs -/
end Mn

set_option linter.all false
set_option maxHeartbeats 4000000
set_option autoImplicit false
set_option maxRecDepth 100000
namespace Mn
open PySem L2
variable [Tbs]
local macro_rules | `(tactic| walk_at "d") => `(tactic| (try simp only [xNext, xSeq, xAsg, xRet, xRetF, xDrop, xIf, xPar, xPar3, xMatch, mGo, xFrz, xPut, xAug, xFor, dVar, dC, dOp, dTest, dChain, dAndV, dOrV, dNotV, dAnd, dOr, dNot, dIf, dNil, dCons, dTup, dLst, dLstM, dCB, dIsi, dLc, dLcM, dYes, wipeD, dSlice, oSome, oNone, aSl_tup, aSl_lst, dNeg, dStar, dNewD, dTupVals, dSortSet, dStep, dCountL, dExtend, dAppend, dFrz, dLc2, dCountT, dIndexT, sqf_tup, sqf_lst, sqf_pair, sSeq, sSeq_tup, sSeq_lst, sRg1, sRg2, sZip2, sZip3, sZip4, sEnum, gV, gN, gC, gT, tupOf_tup, tupOf_pair, aAdd_int, aAdd_tup, aAdd_lst, aSub_int, aMul_int, aDiv_int, aMod_int, aPow_int, aCmp_int, aIx_tup, aIx_lst, aIx_scr, aIx_pair, aMax_int, aMin_int, aInt_bl, aInt_int, aLen_tup, aLen_lst, aLen_scr, aLen_pair, aTuple_lst, aTuple_tup, aIsB_bl, aNotB_bl, aEq_int, aNe_int, startD, List.map_cons, List.map_nil, List.length_cons, List.length_nil, List.cons_append, List.nil_append, List.replicate_zero, List.replicate_succ, List.append_nil, List.getElem?_cons_zero, List.getElem?_cons_succ, List.set_cons_zero, List.set_cons_succ, Option.some.injEq, exists_eq_left', exists_eq_left, exists_eq', D.int.injEq, D.bl.injEq, D.tup.injEq, D.lst.injEq, D.pair.injEq, D.ref.injEq, List.cons.injEq, Nat.sub_self, Nat.zero_add, Nat.add_sub_cancel, seqI_tup, seqI_lst, seqOf_tup, seqOf_lst, tyN_tup, tyN_lst, tyN_int, tyN_bl, tyN_str, tyN_non, isi_tt, at_0, at_1, at_2, at_3, Option.map_some, true_and, and_true, if_true, Bool.false_eq_true, if_false, Bool.not_true, Bool.not_false, ↓reduceIte, Nat.reduceAdd, Nat.reduceSub, exists_and_left, and_assoc]))
/-! data compared, of any size -/
theorem cm_tD (l : List Nat) : Cm (tD l) 1 := cm_tup fun d hd => by obtain ⟨i, _, rfl⟩ := List.mem_map.mp hd; exact cm_int i
theorem eqv_tDs : ∀ (xs ys : List (List Nat)), PyData.eqvAll (pyL (xs.map tD)) (pyL (ys.map tD)) = decide (xs = ys)
  | [], [] => rfl
  | [], _ :: _ => by simp [pyL, PyData.eqvAll]
  | _ :: _, [] => by simp [pyL, PyData.eqvAll]
  | x :: xs, y :: ys => by
    have ih := eqv_tDs xs ys
    have hx : PyData.eqv (py (tD x)) (py (tD y)) = decide (x = y) := eqv_tD x y (fun _ => none)
    simp only [List.map_cons, pyL, PyData.eqvAll, ih, hx]
    by_cases h : x = y
    · subst h; simp
    · simp [h]
/-! order without doubles is known by the members -/
/-! the order of rollups -/
/-! how answers begin -/
theorem kn_tup {m : Mu} {ds : List D} (h : ∀ d ∈ ds, Kn m d) : Kn m (.tup ds) := fun x hx => by
  have key : ∀ (ds : List D), (∀ d ∈ ds, Kn m d) → ∀ x ∈ refsL ds, ∃ a, x = some a ∧ (tyN (.ref a) m).isSome = true := by
    intro ds
    induction ds with
    | nil => intro _ x hx; cases hx
    | cons d ds ih =>
      intro h x hx
      rw [refsL, List.mem_append] at hx
      rcases hx with hx | hx
      · exact h d List.mem_cons_self x hx
      · exact ih (fun e he => h e (List.mem_cons_of_mem _ he)) x hx
  exact key ds h x hx
end Mn

set_option Elab.async false
set_option linter.all false
set_option maxRecDepth 100000
set_option maxHeartbeats 4000000
set_option autoImplicit false
namespace Mn
open PySem PySem.Spec PyProof.Rows L2
variable [Tbs]
/-! {k: v for x in xs}, the keys tuples -/
section
variable {X : Cx}
theorem set_raw {pn : List (Addr × Obj)} {τ : L2.St} {H : Hp} {s : Shared} {F : Value → Shared → Prop} {D b : Addr} {xs : Row3} {k : NestedKey} {v : V} {r : Value} {Q : Unit → Shared → Prop} (hu : X.A.units + 65 < cLine) (I : Inv X pn τ H s) (d : DN X.w H D xs) (hat : H D = some (.ext (dictAt X.w D xs)))
    (hk : KyH H k (.ref b)) (h8 : k.depth ≤ 8) (rv : RelV v r) (q : ∀ s', Inv X pn τ (upd H D (.ext (dictAt X.w D (putV xs k b v)))) s' → Q () s') : wpAny (model X.prog X.w) X.A (dictSet D (.ref b) r) Q F s := by
  obtain ⟨vs, rp, dd⟩ := d.dict I
  have rm : (nestedKind X.prog X.w).room X.A := by show X.A.units + 8 < cLine; omega
  refine wpAny_dictSet_heap (hsz := by rw [← pairX_len rp]; exact d.sz) rm ⟨hk.is I rfl, h8⟩ dd fun h' dd' hs => q _ ?_
  obtain ⟨o, es, ep, ho, h2, h3, h4, _, _⟩ := dd'
  have da : dictAt X.w D (putV xs k b v) h' := ⟨_, pairX_put rv rp, o, es, ep, ho, h2, h3, h4⟩
  exact d_write (ob := .ext (dictAt X.w D (putV xs k b v))) I (by rw [hat]; exact True.intro) hs ⟨o, ho⟩ ⟨da, ⟨o, ho⟩, fun _ _ x k => dictAt_st x k⟩
def tDcN (wd : World) (src : TI) (g : TG) (tt : TT) (tk tv : TE) (vs : List Nat) : TE := fun τ H Q => src τ H fun J H1 => ∀ D, H1 D = none → (D == sysModules) = false → ∃ W : Nat → Nat → Hp → Prop, (∃ n, W 0 n (upd H1 D (.ext (dictAt wd D [])))) ∧ ∀ i n H, W i n H →
  (J.stop i H ∧ Q (.ref D) H) ∨ (J.go i H ∧ ∃ Nx : Hp → Prop, (∀ H', Nx H' → ∃ n', n' < n ∧ W (i + 1) n' H') ∧ ∀ x H', J.yld i H x H' → g x (wipe τ vs) H' fun τ2 H2 => wipe τ2 vs = wipe τ vs ∧ tt τ2 H2 fun b H3 =>
    if b = true then tk τ2 H3 fun y H4 => tv τ2 H4 fun z H5 => ∃ xs k a, y = .ref a ∧ DN wd H5 D xs ∧ H5 D = some (.ext (dictAt wd D xs)) ∧ KyH H5 k (.ref a) ∧ k.depth ≤ 8 ∧ Nx (upd H5 D (.ext (dictAt wd D (putV xs k a z)))) else Nx H3)
set_option maxHeartbeats 8000000 in
theorem pe_dcN {kx vx tg iter : Expr} {ifs : List Expr} {scope : Scope} {own : List (Str × Nat)} {pos : Pos} {src : TI} {g : TG} {tt : TT} {tk tv : TE} (hu : X.A.units + 65 < cLine) (hc : X.calm = true) (hN : X.N.Nodup) (hi : PI X tg iter src) (ok : BlkOk X.N X.env.scope scope own)
    (hg : ∀ (s : Shared) (H : Hp) (C : Addr) (cl : List (Str × Addr)) (fp : List Addr), PG (X.blk s H scope (compEnvC scope cl C X.env) fp) tg g) (ht : ∀ (s : Shared) (H : Hp) (C : Addr) (cl : List (Str × Addr)) (fp : List Addr), PTs (X.blk s H scope (compEnvC scope cl C X.env) fp) ifs tt)
    (hk : ∀ (s : Shared) (H : Hp) (C : Addr) (cl : List (Str × Addr)) (fp : List Addr), PE (X.blk s H scope (compEnvC scope cl C X.env) fp) kx tk) (hv : ∀ (s : Shared) (H : Hp) (C : Addr) (cl : List (Str × Addr)) (fp : List Addr), PE (X.blk s H scope (compEnvC scope cl C X.env) fp) vx tv)
    (hs : ∀ x, foldedSetIterable iter X.env x = pure x := by intro _; rfl) : PE X (.DictComp kx vx [⟨tg, iter, ifs, 0⟩] scope pos) (tDcN X.w src g tt tk tv (own.map (·.2))) := by
  refine ⟨fun pn s τ H Q I h => ?_⟩
  rw [arm_eval_DictComp]
  have fr : ∀ y ∈ scope.names, y.2 = .free → ∃ c, X.env.cells.lookup y.1 = some c := fun y hy e => (ok.free y hy e).elim (fun k => I.ok.has _ (.inl k)) fun k => I.ok.has _ (.inr k)
  refine wpAny_comprehension_free rfl hs (closure_ok fr) ok.kind (fun y hy e => by rw [ok.uniq y hy, e]) (thn (hi.run pn s τ H _ I h) fun xv s1 hx => thn hx fun itv s2 h2 => ?_)
  obtain ⟨it, fp, tn, J, Ha, e, Ia, T, sta, fa, q⟩ := h2
  subst e
  refine wpAny_newObj_type (newEnv_comp ?_)
  have big : (s2.heap.objs.size == sysModules) = false := beq_eq_false_iff_ne.mpr (Ne.symm (Nat.ne_of_lt Ia.big))
  generalize hD : s2.heap.objs.size = D at big
  have nD : Ha D = none := Ia.hok.fresh (Nat.le_of_eq hD)
  obtain ⟨W, ⟨n0, w0⟩, turn⟩ := q D nD big
  generalize hsb : ({ s2 with heap := s2.heap.push { cls := .type "dict", data := .dict #[] } } : Shared) = sb
  generalize hHb : upd Ha D (.ext (dictAt X.w D [])) = Hb at w0
  have hb : sb.heap = s2.heap.push { cls := .type "dict", data := .dict #[] } := by rw [← hsb]
  have Ib : Inv X pn τ Hb sb := by
    rw [← hsb, ← hHb]
    refine Ia.laid (t' := s2.toks) (fun _ _ e => Heap.get?_push_of_some _ e) (Nat.le_of_eq hD) ?_
    rw [← hD]
    exact ⟨⟨[], .nil, _, #[], 0, Heap.get?_push_size _ rfl, ⟨rfl, rfl, rfl⟩, rfl, rfl⟩, ⟨_, Heap.get?_push_size _ rfl⟩, fun _ _ x k => dictAt_st x k⟩
  have fb : ∀ b ∈ fp, FpOk X pn Hb b ∧ b < sb.heap.objs.size := fun b hb' => by
    obtain ⟨o, e, _⟩ := T.obj _ _ sta b hb'
    have lt := Heap.lt_size e
    refine ⟨⟨?_, (fa b hb').2⟩, by rw [hb, Heap.size_push]; exact Nat.lt_succ_of_lt lt⟩
    rw [← hHb, upd_ne (by rw [← hD]; exact Nat.ne_of_lt lt)]
    exact (fa b hb').1
  have stb : tn 0 sb.heap := T.keep _ _ _ sta fun b _ o e => by rw [hb]; exact Heap.get?_push_of_some _ e
  have Ic := block_start Ib ok hN fb
  have pg := hg sb Hb sb.heap.objs.size (cellsFrom (sb.heap.objs.size + 1) scope.names (cloFrom X.env.cells scope.names [])) fp
  have pt := ht sb Hb sb.heap.objs.size (cellsFrom (sb.heap.objs.size + 1) scope.names (cloFrom X.env.cells scope.names [])) fp
  have pk := hk sb Hb sb.heap.objs.size (cellsFrom (sb.heap.objs.size + 1) scope.names (cloFrom X.env.cells scope.names [])) fp
  have pv := hv sb Hb sb.heap.objs.size (cellsFrom (sb.heap.objs.size + 1) scope.names (cloFrom X.env.cells scope.names [])) fp
  have nfp : ∀ b ∈ fp, Hb b = none := fun b hb' => (fb b hb').1.1
  show codeAny _ _ (.compStart (.DictComp kx vx [⟨tg, iter, ifs, 0⟩] scope pos) 0 (.ref it) (.ref D) (compEnvC scope (cellsFrom (sb.heap.objs.size + 1) scope.names (cloFrom X.env.cells scope.names [])) sb.heap.objs.size X.env)) (compPost (model X.prog X.w) X.A X.xe none (EP X pn τ Q) (.ref D) sb.heap.objs.size) { sb with heap := pushCells (sb.heap.push { cls := .type "dict", data := .dict #[] }) scope.names }
  generalize hen : compEnvC scope (cellsFrom (sb.heap.objs.size + 1) scope.names (cloFrom X.env.cells scope.names [])) sb.heap.objs.size X.env = en at Ic pg pt pk pv ⊢
  have enL : en.locals = sb.heap.objs.size := by subst hen; rfl
  generalize hsc : ({ sb with heap := pushCells (sb.heap.push { cls := .type "dict", data := .dict #[] }) scope.names } : Shared) = sc at Ic ⊢
  have stc : tn 0 sc.heap := T.keep _ _ _ stb fun b _ o e => by rw [← hsc]; exact pushCells_keeps _ _ _ _ (Heap.get?_push_of_some _ e)
  have still : ∀ {τ' : L2.St} {H' : Hp} {s' : Shared}, Inv (X.blk sb Hb scope en fp) [] τ' H' s' → (∀ b ∈ fp, H' b = none) → ∀ b ∈ fp, FpOk (X.blk sb Hb scope en fp) [] H' b := fun {τ' H' s'} I' hn b hb' =>
    ⟨hn b hb', (I'.ok.exf b hb').1, I'.ok.exfs b hb', .inl hb', fun x c e => (I'.ok.exf b hb').2 x c e, fun p hp => absurd (show p ∈ ([] : List (Addr × Obj)) ++ [] from hp) (by simp)⟩
  have go : codeAny (model X.prog X.w) X.A (.compLoop (.DictComp kx vx [⟨tg, iter, ifs, 0⟩] scope pos) 0 (.ref it) (.ref D) en) (compPost (model X.prog X.w) X.A X.xe none (EP X pn τ Q) (.ref D) sb.heap.objs.size) sc := by
    refine compLoop_anyD (fun n s' => ∃ i H', Inv (X.blk sb Hb scope en fp) [] (wipe τ (own.map (·.2))) H' s' ∧ tn i s'.heap ∧ (∀ b ∈ fp, H' b = none) ∧ W i n H') ?_ n0 ⟨0, Hb, Ic, stc, nfp, w0⟩
    rintro n sd ⟨i, Hd, Id, std, nd, wd⟩
    rcases turn i n Hd wd with ⟨stop, qq⟩ | ⟨more, Nx, hNx, step⟩
    · refine thnF (T.done (X.blk sb Hb scope en fp) rfl rfl rfl hc i [] sd _ Hd (fun _ _ => False) Id (still Id nd) std stop) fun r se ⟨hr, Ie⟩ => ?_
      subst hr
      have If : Inv X pn τ Hd se := Ib.call' (ch := fp) Ie.os Ie.base Ie.hok Ie.bare fun b hb' => ⟨(fb b hb').1.2.2.2.1, (fb b hb').1.2.1, (fb b hb').1.2.2.2.2.1, (fb b hb').1.2.2.2.2.2⟩
      have nC : Hd sb.heap.objs.size = none := by have z : Hd en.locals = none := Ie.free; rw [enL] at z; exact z
      obtain ⟨mm, hn, _⟩ := Ie.loc
      have hn : se.heap.Ns en.locals mm := hn
      rw [enL] at hn
      obtain ⟨f0, f1, f2, f3, f4, f5⟩ := Ib.fpOk (Nat.le_refl _) nC
      exact ⟨mm, hn, fun h'' sm => ⟨.ref D, Hd, If.turned (t' := se.toks) (fun b o hb' e => (sm.2 b hb').trans e) f0 f1 f3 f4 f5, rfl, qq⟩⟩
    · refine thnF (T.item (X.blk sb Hb scope en fp) rfl rfl rfl hc i [] sd _ Hd (fun _ _ => False) Id (still Id nd) std more) fun r se ⟨u, hr, he⟩ => ?_
      subst hr
      refine thnF he fun _ sf ⟨x, Hf, If, rf, yf, stf, nf⟩ => ?_
      refine thnF (pg.run _ sf _ Hf x u _ (If.pinned (still If nf) (T.obj _ _ stf)) rf (step x Hf yf)) fun _ sg ⟨τg, Hg, Ig, hwg, qg⟩ => ?_
      refine thnF (pt.run _ sg τg Hg _ Ig qg) fun b sh ⟨Hh, Ih, qh⟩ => ?_
      have back : ∀ {s' : Shared} {H' : Hp}, Inv (X.blk sb Hb scope en fp) ([] ++ pinsAt fp sf.heap) τg H' s' → Nx H' → ∃ m, m < n ∧ ∃ i H', Inv (X.blk sb Hb scope en fp) [] (wipe τ (own.map (·.2))) H' s' ∧ tn i s'.heap ∧ (∀ b ∈ fp, H' b = none) ∧ W i m H' := fun {s' H'} I' nx => by
        obtain ⟨m', hm, w'⟩ := hNx H' nx
        have held : ∀ b ∈ fp, ∀ o, sf.heap.get? b = some o → s'.heap.get? b = some o ∧ H' b = none := fun b hb' o e => let z := I'.pin (b, o) (List.mem_append_right _ (List.mem_append_right _ (mem_pinsAt hb' e))); ⟨z.1, z.2.1⟩
        refine ⟨m', hm, i + 1, H', (I'.unpinned (pins := [])).weak (by rw [← hwg, wipe_length]) (fun j v e => ?_), T.keep _ _ _ stf fun b hb' o e => (held b hb' o e).1, fun b hb' => ?_, w'⟩
        · rw [← hwg] at e; exact (wipe_some e).1
        · obtain ⟨o, e, _⟩ := T.obj _ _ stf b hb'; exact (held b hb' o e).2
      cases b with
      | false => simp only [Bool.false_eq_true, if_false] at qh ⊢; exact back Ih qh
      | true =>
        simp only [if_true] at qh ⊢
        refine thnF (pk.run _ sh τg Hh _ Ih qh) fun z si ⟨yk, Hi, Ii, ri, qi⟩ => ?_
        refine thnF (pv.run _ si τg Hi _ Ii qi) fun z2 sj ⟨yv, Hj, Ij, rj, xs, k, a, ek, dn, hat, ky, k8, nx⟩ => ?_
        subst ek
        cases ri
        exact set_raw (X := X.blk sb Hb scope en fp) hu Ij dn hat ky k8 rj fun s' I' => back I' nx
  exact codeAny_compStart_dict go (T.self X.A 0 _ _ _ stc go)
/-- over data -/
def dcPut (p : Addr) (y z : D) (m : Mu) (A : Mu → Prop) : Prop := ∃ k kvs, y = keyD k ∧ (∃ ks, y = .tup ks) ∧ k.depth ≤ 8 ∧ m p = some (.dN kvs) ∧ kvs.length < sizeLine ∧ A (up m p (.dN (putN kvs k z)))
def dcGo (g : DG) (tk tv : DT) (r : Ro) (p : Addr) : List D → Mu → (Mu → Prop) → Prop
  | [], m, Q => Q m
  | d :: ds, m, Q => g d r fun r1 => tk r1 m fun y m2 => tv r1 m2 fun z m3 => dcPut p y z m3 fun m4 => dcGo g tk tv r p ds m4 Q
def dDc (src : DI) (vs : List Nat) (g : DG) (tk tv : DT) : DT := fun r m Q => src r m fun items m1 => ∀ p, m1 p = none → dcGo g tk tv (wipeD r vs) p items (up m1 p (.dN [])) fun m2 => Q (.ref p) m2
end
end Mn

set_option Elab.async false
set_option linter.all false
set_option maxRecDepth 100000
set_option maxHeartbeats 4000000
set_option autoImplicit false
namespace Mn
open PySem PySem.Spec PyProof.Rows L2
variable [Tbs]
/-! t < u, tuples of whole numbers -/
end Mn

set_option linter.all false
set_option maxHeartbeats 4000000
set_option autoImplicit false
set_option maxRecDepth 100000
namespace Mn
open PySem L2
variable [Tbs]
local macro_rules | `(tactic| walk_at "d") => `(tactic| (try simp only [xNext, xSeq, xAsg, xRet, xRetF, xDrop, xIf, xPar, xPar3, xFrz, xPut, xAug, xFor, dVar, dC, dOp, dTest, dChain, dAndV, dOrV, dNotV, dAnd, dOr, dNot, dIf, dNil, dCons, dTup, dLst, dLstM, dCB, dIsi, dLc, dLcM, dYes, wipeD, dSlice, oSome, oNone, aSl_tup, aSl_lst, dNeg, dStar, dNewD, dTupVals, dCountL, dExtend, dAppend, dFrz, dLc2, dCountT, dIndexT, sqf_tup, sqf_lst, sqf_pair, sSeq, sSeq_tup, sSeq_lst, sRg1, sRg2, sZip2, sZip3, sZip4, sEnum, gV, gN, gC, gT, tupOf_tup, tupOf_pair, aAdd_int, aAdd_tup, aAdd_lst, aSub_int, aMul_int, aDiv_int, aMod_int, aPow_int, aCmp_int, aIx_tup, aIx_lst, aIx_scr, aIx_pair, aMax_int, aMin_int, aInt_bl, aInt_int, aLen_tup, aLen_lst, aLen_scr, aLen_pair, aTuple_lst, aTuple_tup, aEq_int, aNe_int, startD, List.map_cons, List.map_nil, List.length_cons, List.length_nil, List.cons_append, List.nil_append, List.replicate_zero, List.replicate_succ, List.append_nil, List.getElem?_cons_zero, List.getElem?_cons_succ, List.set_cons_zero, List.set_cons_succ, Option.some.injEq, exists_eq_left', exists_eq_left, exists_eq', D.int.injEq, D.bl.injEq, D.tup.injEq, D.lst.injEq, D.pair.injEq, D.ref.injEq, List.cons.injEq, Nat.sub_self, Nat.zero_add, Nat.add_sub_cancel, seqI_tup, seqI_lst, seqOf_tup, seqOf_lst, tyN_tup, tyN_lst, tyN_int, tyN_bl, tyN_str, tyN_non, isi_tt, at_0, at_1, at_2, at_3, Option.map_some, true_and, and_true, if_true, Bool.false_eq_true, if_false, Bool.not_true, Bool.not_false, ↓reduceIte, Nat.reduceAdd, Nat.reduceSub, exists_and_left, and_assoc]))
/-! the law's own sums -/
/-! all rollups -/
/-! tables drawn -/
def s_law_table : DSp := fun ds m Q => ∃ (p : Addr) (s : Sch) (n : Nat), ds = [.ref p, encS s] ∧ SchV s ∧ Pen m p n ∧ n ≤ 900000000 ∧ ∀ xs m', Tab s xs → (∀ x ∈ xs, -1000000 ≤ x ∧ x ≤ 1000000) → PenU m p (n + 300) m' → Q (iD xs) m'
theorem l_law_table : ∀ ds m Q, s_law_table ds m Q → ds.length = 2 := by rintro ds m Q ⟨p, s, n, rfl, _⟩; rfl
def t_law_table : DS := (xSeq (xPar 4 5 (dCons (dCB aLen (dCons (dCB s_law_all_cells (dCons (dVar 1) (dCons (dOp aMulA (dTup (dCons (dC (.int 0)) dNil)) (dCB aLen (dCons (dVar 1) dNil))) dNil))) dNil)) (dCons (dCB s_law_draw (dCons (dVar 0) (dCons (dC (.int 4)) dNil))) dNil)))
  (xSeq (xAsg (dLstM dNil) (gV 2))
  (xSeq (xFor (sRg1 (dVar 4)) (gV 3) (xSeq (xAsg (dOp aSub (dCB s_law_draw (dCons (dVar 0) (dCons (dC (.int 7)) dNil))) (dC (.int 3))) (gV 6))
  (xSeq (xIf (dTest (dOp aEq (dVar 5) (dC (.int 1)))) (xAsg (dOp aMulA (dCB s_law_draw (dCons (dVar 0) (dCons (dC (.int 2)) dNil))) (dCB s_law_draw (dCons (dVar 0) (dCons (dC (.int 4)) dNil)))) (gV 6)) xNext)
  (xSeq (xIf (dTest (dOp aEq (dVar 5) (dC (.int 2)))) (xAsg (dOp aSub (dCB s_law_draw (dCons (dVar 0) (dCons (dC (.int 2000001)) dNil))) (dC (.int 1000000))) (gV 6)) xNext)
  (xDrop (dAppend (dVar 2) (dVar 6)))))))
  (xRet (dCB aTuple (dCons (dVar 2) dNil))))))
def TabI (m0 : Mu) (p p2 : Addr) (s : Sch) (N w n : Nat) : Nat → Ro → Mu → Prop := fun i rr m' =>
  (∃ x3 x6, rr = [some (.ref p), some (encS s), some (.ref p2), x3, some (nD N), some (nD w), x6]) ∧ Pen m' p (n + 4 * i) ∧
  (∃ xs : List Int, xs.length = i ∧ (∀ x ∈ xs, -1000000 ≤ x ∧ x ≤ 1000000) ∧ m' p2 = some (.lst (xs.map D.int))) ∧ ∀ b, b ≠ p → b ≠ p2 → m' b = m0 b
theorem TabI.draw {m0 : Mu} {p p2 : Addr} (n2 : p2 ≠ p) {m' m2 : Mu} {k : Nat} {xs : List Int} (e2 : m' p2 = some (.lst (xs.map D.int))) (hfr : ∀ b, b ≠ p → b ≠ p2 → m' b = m0 b) (hu : PenU m' p k m2) :
    m2 p2 = some (.lst (xs.map D.int)) ∧ ∀ b, b ≠ p → b ≠ p2 → m2 b = m0 b :=
  ⟨by rw [hu.other n2]; exact e2, fun b h1 h2 => by rw [hu.other h1]; exact hfr b h1 h2⟩
/-- the last part of a lap: the amount is put behind -/
theorem TabI.put {m0 : Mu} {p p2 : Addr} {s : Sch} {N w n i : Nat} (n2 : p2 ≠ p) (hi : i ≤ 60) {m' : Mu} {P : Ro → Mu → Prop} (hP : ∀ r m, TabI m0 p p2 s N w n (i + 1) r m → P r m) {xs : List Int} (hx : xs.length = i) (hb : ∀ x ∈ xs, -1000000 ≤ x ∧ x ≤ 1000000)
    (e2 : m' p2 = some (.lst (xs.map D.int))) (hfr : ∀ b, b ≠ p → b ≠ p2 → m' b = m0 b) {k : Nat} (hp : Pen m' p k) (hk : k ≤ n + 4 * (i + 1)) {x : Int} (h1 : -1000000 ≤ x) (h2 : x ≤ 1000000) {x3 : Option D} :
    ∃ ds0, m' p2 = some (.lst ds0) ∧ ∃ ds, m' p2 = some (.lst ds) ∧ ds.length < sizeLine ∧ P [some (.ref p), some (encS s), some (.ref p2), x3, some (nD N), some (nD w), some (.int x)] (up m' p2 (.lst (ds ++ [.int x]))) := by
  refine ⟨_, e2, _, e2, small' (k := 1000) (by rw [List.length_map]; omega), hP _ _ ⟨⟨_, _, rfl⟩, ?_, ⟨xs ++ [x], by rw [List.length_append, List.length_singleton, hx], ?_, ?_⟩, ?_⟩⟩
  · obtain ⟨a, b, c, e, hh⟩ := hp
    exact ⟨a, b, c, by rw [up_ne n2.symm]; exact e, by omega⟩
  · intro y hy
    rcases List.mem_append.mp hy with hy | hy
    · exact hb y hy
    · rw [List.mem_singleton] at hy; subst hy; exact ⟨h1, h2⟩
  · rw [up_same, List.map_append]; rfl
  · intro b hb1 hb2
    rw [up_ne hb2]; exact hfr b hb1 hb2
theorem v_law_table : Body 7 t_law_table s_law_table := by
  rintro ds m Q ⟨p, s, n, rfl, hs, hp, hn, q⟩
  have h60 := szs_prod hs (fin_roll s)
  have h1 := hs.1; have h3 := hs.2.1
  have e0 : encS s = .tup (s.map At.enc) := rfl
  unfold t_law_table
  walk_at "d"
  simp only [e0]
  walk_at "d"
  rw [List.length_map]
  refine ⟨by decide, by simp, by simp, by omega, by omega, ?_⟩
  rw [Int.toNat_natCast, rep_tD]
  refine ⟨s, finN s, rfl, hs, fin_roll s, ?_⟩
  walk_at "d"
  rw [List.length_map, show (cellsOf s (finN s)).length = prodN (szs s (finN s)) from cellsN_len _]
  refine ⟨p, 4, n, rfl, hp, by omega, by decide, by decide, fun w m1 hw hu1 => ?_⟩
  walk_at "d"
  refine ⟨by decide, fun p2 hp2 => ?_⟩
  have hpe : ∃ o, m1 p = some o := by obtain ⟨a, b, c, e, _⟩ := hu1.pen; exact ⟨_, e⟩
  have n2 : p2 ≠ p := by rintro rfl; obtain ⟨o, e⟩ := hpe; rw [hp2] at e; cases e
  refine ⟨by omega, by omega, ?_⟩
  refine forGo_inv (TabI m1 p p2 s (prodN (szs s (finN s))) w (n + 1)) _ _ _ 0 ⟨⟨_, _, rfl⟩, ?_, ⟨[], rfl, fun x hx => (by cases hx), up_same⟩, fun b _ h2 => up_ne h2⟩ ?_ ?_
  · obtain ⟨a, b, c, e, hh⟩ := hu1.pen
    exact ⟨a, b, c, by rw [up_ne n2.symm]; exact e, by omega⟩
  · rintro j d rr m' P hd ⟨⟨x3, x6, rfl⟩, hpen, ⟨xs, hx, hb, e2⟩, hfr⟩ hP
    have hj : j < prodN (szs s (finN s)) := by
      have := (List.getElem?_eq_some_iff.mp hd).1
      unfold rgD at this
      rw [List.length_map, List.length_range] at this
      omega
    rw [Nat.zero_add] at hpen hP hx
    walk_at "d"
    refine ⟨p, 7, _, rfl, hpen, by omega, by decide, by decide, fun x m2 hx7 hu2 => ?_⟩
    obtain ⟨f2, g2⟩ := TabI.draw n2 e2 hfr hu2
    unfold nD
    walk_at "d"
    have w1 : decide ((w : Int) = 1) = decide (w = 1) := decide_eq_decide.mpr (by omega)
    have w2 : decide ((w : Int) = 2) = decide (w = 2) := decide_eq_decide.mpr (by omega)
    rw [w1]
    by_cases c1 : w = 1
    · subst c1
      simp only [decide_true, ↓reduceIte]
      refine ⟨p, 2, _, rfl, hu2.pen, by omega, by decide, by decide, fun y m3 hy hu3 => ⟨p, 4, _, rfl, hu3.pen, by omega, by decide, by decide, fun z m4 hz hu4 => ?_⟩⟩
      obtain ⟨f3, g3⟩ := TabI.draw n2 f2 g2 hu3
      obtain ⟨f4, g4⟩ := TabI.draw n2 f3 g3 hu4
      unfold nD
      walk_at "d"
      have hyz : (y : Int) * z ≤ 1 * 3 := Int.mul_le_mul (by omega) (by omega) (by omega) (by omega)
      have hyz0 : 0 ≤ (y : Int) * z := Int.mul_nonneg (by omega) (by omega)
      refine ⟨?_, ?_⟩
      · exact Or.inl ⟨by omega, by omega⟩
      simp only [show decide (((1 : Nat) : Int) = 2) = false from rfl, Bool.false_eq_true, ↓reduceIte]
      exact TabI.put (x := (y : Int) * z) n2 (by omega) hP hx hb f4 g4 hu4.pen (by omega) (by omega) (by omega)
    · simp only [c1, decide_false, Bool.false_eq_true, ↓reduceIte]
      rw [w2]
      by_cases c2 : w = 2
      · subst c2
        simp only [decide_true, ↓reduceIte]
        refine ⟨p, 2000001, _, rfl, hu2.pen, by omega, by decide, by decide, fun y m3 hy hu3 => ?_⟩
        obtain ⟨f3, g3⟩ := TabI.draw n2 f2 g2 hu3
        unfold nD
        walk_at "d"
        exact TabI.put (x := (y : Int) - 1000000) n2 (by omega) hP hx hb f3 g3 hu3.pen (by omega) (by omega) (by omega)
      · simp only [c2, decide_false, Bool.false_eq_true, ↓reduceIte]
        exact TabI.put (x := (x : Int) - 3) n2 (by omega) hP hx hb f2 g2 hu2.pen (by omega) (by omega) (by omega)
  · rintro rr m' ⟨⟨x3, x6, rfl⟩, ⟨a, b, c, ep, hh⟩, ⟨xs, hx, hb, e2⟩, hfr⟩
    walk_at "d"
    simp only [aTuple_ref e2]
    have hlen : xs.length = prodN (szs s (finN s)) := by
      rw [hx]; unfold rgD; rw [List.length_map, List.length_range]; omega
    refine end_rtL (m2 := up m p (.lst [.int a, .int b, .int c])) (fun x o e => ?_) (q xs _ hlen hb ⟨a, b, c, rfl, by omega⟩)
    by_cases hxp : x = p
    · subst hxp
      rw [up_same] at e
      rw [ep]; exact e
    · rw [up_ne hxp] at e
      have e' : m1 x = some o := by rw [hu1.other hxp]; exact e
      have x2 : x ≠ p2 := by rintro rfl; rw [hp2] at e'; cases e'
      rw [hfr x hxp x2]; exact e'
end Mn

set_option linter.all false
set_option maxHeartbeats 4000000
set_option autoImplicit false
set_option maxRecDepth 100000
namespace Mn
open PySem L2
variable [Tbs]
local macro_rules | `(tactic| walk_at "d") => `(tactic| (try simp only [xNext, xSeq, xAsg, xRet, xRetF, xDrop, xIf, xPar, xPar3, xMatch, mGo, xFrz, xPut, xAug, xFor, dVar, dC, dOp, dTest, dChain, dAndV, dOrV, dNotV, dAnd, dOr, dNot, dIf, dNil, dCons, dTup, dLst, dLstM, dCB, dIsi, dLc, dLcM, dYes, wipeD, dSlice, oSome, oNone, aSl_tup, aSl_lst, dNeg, dStar, dNewD, dTupVals, dSortSet, dDc, dStep, dIndexTD, dCountL, dExtend, dAppend, dFrz, dLc2, dCountT, dIndexT, sqf_tup, sqf_lst, sqf_pair, sSeq, sSeq_tup, sSeq_lst, sRg1, sRg2, sZip2, sZip3, sZip4, sEnum, gV, gN, gC, gT, tupOf_tup, tupOf_pair, aAdd_int, aAdd_tup, aAdd_lst, aSub_int, aMul_int, aDiv_int, aMod_int, aPow_int, aCmp_int, aIx_tup, aIx_lst, aIx_scr, aIx_pair, aMax_int, aMin_int, aInt_bl, aInt_int, aLen_tup, aLen_lst, aLen_scr, aLen_pair, aTuple_lst, aTuple_tup, aIsB_bl, aNotB_bl, aEq_int, aNe_int, startD, List.map_cons, List.map_nil, List.length_cons, List.length_nil, List.cons_append, List.nil_append, List.replicate_zero, List.replicate_succ, List.append_nil, List.getElem?_cons_zero, List.getElem?_cons_succ, List.set_cons_zero, List.set_cons_succ, Option.some.injEq, exists_eq_left', exists_eq_left, exists_eq', D.int.injEq, D.bl.injEq, D.tup.injEq, D.lst.injEq, D.pair.injEq, D.ref.injEq, List.cons.injEq, Nat.sub_self, Nat.zero_add, Nat.add_sub_cancel, seqI_tup, seqI_lst, seqOf_tup, seqOf_lst, tyN_tup, tyN_lst, tyN_int, tyN_bl, tyN_str, tyN_non, isi_tt, at_0, at_1, at_2, at_3, Option.map_some, true_and, and_true, if_true, Bool.false_eq_true, if_false, Bool.not_true, Bool.not_false, ↓reduceIte, Nat.reduceAdd, Nat.reduceSub, exists_and_left, and_assoc]))
/-! choices -/
/-! the best -/
end Mn

set_option linter.all false
set_option maxHeartbeats 4000000
set_option autoImplicit false
set_option maxRecDepth 100000
namespace Mn
open PySem L2
variable [Tbs]
local macro_rules | `(tactic| walk_at "d") => `(tactic| (try simp only [xNext, xSeq, xAsg, xRet, xRetF, xDrop, xIf, xPar, xPar3, xFrz, xPut, xAug, xFor, dVar, dC, dOp, dTest, dChain, dAndV, dOrV, dNotV, dAnd, dOr, dNot, dIf, dNil, dCons, dTup, dLst, dLstM, dCB, dIsi, dLc, dLcM, dYes, wipeD, dSlice, oSome, oNone, aSl_tup, aSl_lst, dNeg, dStar, dNewD, dTupVals, dCountL, dExtend, dAppend, dFrz, dLc2, dCountT, dIndexT, sqf_tup, sqf_lst, sqf_pair, sSeq, sSeq_tup, sSeq_lst, sRg1, sRg2, sZip2, sZip3, sZip4, sEnum, gV, gN, gC, gT, tupOf_tup, tupOf_pair, aAdd_int, aAdd_tup, aAdd_lst, aSub_int, aMul_int, aDiv_int, aMod_int, aPow_int, aCmp_int, aIx_tup, aIx_lst, aIx_scr, aIx_pair, aMax_int, aMin_int, aInt_bl, aInt_int, aLen_tup, aLen_lst, aLen_scr, aLen_pair, aTuple_lst, aTuple_tup, aEq_int, aNe_int, startD, List.map_cons, List.map_nil, List.length_cons, List.length_nil, List.cons_append, List.nil_append, List.replicate_zero, List.replicate_succ, List.append_nil, List.getElem?_cons_zero, List.getElem?_cons_succ, List.set_cons_zero, List.set_cons_succ, Option.some.injEq, exists_eq_left', exists_eq_left, exists_eq', D.int.injEq, D.bl.injEq, D.tup.injEq, D.lst.injEq, D.pair.injEq, D.ref.injEq, List.cons.injEq, Nat.sub_self, Nat.zero_add, Nat.add_sub_cancel, seqI_tup, seqI_lst, seqOf_tup, seqOf_lst, tyN_tup, tyN_lst, tyN_int, tyN_bl, tyN_str, tyN_non, isi_tt, at_0, at_1, at_2, at_3, Option.map_some, true_and, and_true, if_true, Bool.false_eq_true, if_false, Bool.not_true, Bool.not_false, ↓reduceIte, Nat.reduceAdd, Nat.reduceSub, exists_and_left, and_assoc]))
/-! how great the sums may be -/
end Mn

set_option linter.all false
set_option maxHeartbeats 4000000
set_option autoImplicit false
set_option maxRecDepth 100000
namespace Mn
open PySem L2
variable [Tbs]
local macro_rules | `(tactic| walk_at "d") => `(tactic| (try simp only [xNext, xSeq, xAsg, xRet, xRetF, xDrop, xIf, xPar, xPar3, xFrz, xPut, xAug, xFor, dVar, dC, dOp, dTest, dChain, dAndV, dOrV, dNotV, dAnd, dOr, dNot, dIf, dNil, dCons, dTup, dLst, dLstM, dCB, dIsi, dLc, dLcM, dYes, wipeD, dSlice, oSome, oNone, aSl_tup, aSl_lst, dNeg, dStar, dNewD, dTupVals, dCountL, dExtend, dAppend, dFrz, dLc2, dCountT, dIndexT, sqf_tup, sqf_lst, sqf_pair, sSeq, sSeq_tup, sSeq_lst, sRg1, sRg2, sZip2, sZip3, sZip4, sEnum, gV, gN, gC, gT, tupOf_tup, tupOf_pair, aAdd_int, aAdd_tup, aAdd_lst, aSub_int, aMul_int, aDiv_int, aMod_int, aPow_int, aCmp_int, aIx_tup, aIx_lst, aIx_scr, aIx_pair, aMax_int, aMin_int, aInt_bl, aInt_int, aLen_tup, aLen_lst, aLen_scr, aLen_pair, aTuple_lst, aTuple_tup, aEq_int, aNe_int, startD, List.map_cons, List.map_nil, List.length_cons, List.length_nil, List.cons_append, List.nil_append, List.replicate_zero, List.replicate_succ, List.append_nil, List.getElem?_cons_zero, List.getElem?_cons_succ, List.set_cons_zero, List.set_cons_succ, Option.some.injEq, exists_eq_left', exists_eq_left, exists_eq', D.int.injEq, D.bl.injEq, D.tup.injEq, D.lst.injEq, D.pair.injEq, D.ref.injEq, List.cons.injEq, Nat.sub_self, Nat.zero_add, Nat.add_sub_cancel, seqI_tup, seqI_lst, seqOf_tup, seqOf_lst, tyN_tup, tyN_lst, tyN_int, tyN_bl, tyN_str, tyN_non, isi_tt, at_0, at_1, at_2, at_3, Option.map_some, true_and, and_true, if_true, Bool.false_eq_true, if_false, Bool.not_true, Bool.not_false, ↓reduceIte, Nat.reduceAdd, Nat.reduceSub, exists_and_left, and_assoc]))
/-! the cell above, by the law -/
end Mn

set_option linter.all false
set_option maxHeartbeats 4000000
set_option autoImplicit false
set_option maxRecDepth 100000
namespace Mn
open PySem L2
variable [Tbs]
local macro_rules | `(tactic| walk_at "d") => `(tactic| (try simp only [xNext, xSeq, xAsg, xRet, xRetF, xDrop, xIf, xPar, xPar3, xFrz, xPut, xAug, xFor, dVar, dC, dOp, dTest, dChain, dAndV, dOrV, dNotV, dAnd, dOr, dNot, dIf, dNil, dCons, dTup, dLst, dLstM, dCB, dIsi, dLc, dLcM, dYes, wipeD, dSlice, oSome, oNone, aSl_tup, aSl_lst, dNeg, dStar, dNewD, dTupVals, dCountL, dExtend, dAppend, dFrz, dLc2, dCountT, dIndexT, sqf_tup, sqf_lst, sqf_pair, sSeq, sSeq_tup, sSeq_lst, sRg1, sRg2, sZip2, sZip3, sZip4, sEnum, gV, gN, gC, gT, tupOf_tup, tupOf_pair, aAdd_int, aAdd_tup, aAdd_lst, aSub_int, aMul_int, aDiv_int, aMod_int, aPow_int, aCmp_int, aIx_tup, aIx_lst, aIx_scr, aIx_pair, aMax_int, aMin_int, aInt_bl, aInt_int, aLen_tup, aLen_lst, aLen_scr, aLen_pair, aTuple_lst, aTuple_tup, aEq_int, aNe_int, startD, List.map_cons, List.map_nil, List.length_cons, List.length_nil, List.cons_append, List.nil_append, List.replicate_zero, List.replicate_succ, List.append_nil, List.getElem?_cons_zero, List.getElem?_cons_succ, List.set_cons_zero, List.set_cons_succ, Option.some.injEq, exists_eq_left', exists_eq_left, exists_eq', D.int.injEq, D.bl.injEq, D.tup.injEq, D.lst.injEq, D.pair.injEq, D.ref.injEq, List.cons.injEq, Nat.sub_self, Nat.zero_add, Nat.add_sub_cancel, seqI_tup, seqI_lst, seqOf_tup, seqOf_lst, tyN_tup, tyN_lst, tyN_int, tyN_bl, tyN_str, tyN_non, isi_tt, at_0, at_1, at_2, at_3, Option.map_some, true_and, and_true, if_true, Bool.false_eq_true, if_false, Bool.not_true, Bool.not_false, ↓reduceIte, Nat.reduceAdd, Nat.reduceSub, exists_and_left, and_assoc]))
end Mn

set_option Elab.async false
set_option linter.all false
set_option maxRecDepth 100000
set_option maxHeartbeats 4000000
set_option autoImplicit false
namespace Mn
open PySem PySem.Spec PyProof.Rows L2
variable [Tbs]
/-! xs * k, the new list to change -/
end Mn

set_option linter.all false
set_option maxHeartbeats 4000000
set_option autoImplicit false
set_option maxRecDepth 100000
namespace Mn
open PySem L2
variable [Tbs]
local macro_rules | `(tactic| walk_at "d") => `(tactic| (try simp only [xNext, xSeq, xAsg, xRet, xRetF, xDrop, xIf, xPar, xPar3, xMatch, mGo, xFrz, xPut, xAug, xFor, dVar, dC, dOp, dTest, dChain, dAndV, dOrV, dNotV, dAnd, dOr, dNot, dIf, dNil, dCons, dTup, dLst, dLstM, dCB, dIsi, dLc, dLcM, dYes, wipeD, dSlice, oSome, oNone, aSl_tup, aSl_lst, dNeg, dStar, dNewD, dTupVals, dSortSet, dDc, dStep, dIndexTD, dCountL, dExtend, dAppend, dFrz, dLc2, dCountT, dIndexT, sqf_tup, sqf_lst, sqf_pair, sSeq, sSeq_tup, sSeq_lst, sRg1, sRg2, sZip2, sZip3, sZip4, sEnum, gV, gN, gC, gT, tupOf_tup, tupOf_pair, aAdd_int, aAdd_tup, aAdd_lst, aSub_int, aMul_int, aDiv_int, aMod_int, aPow_int, aCmp_int, aIx_tup, aIx_lst, aIx_scr, aIx_pair, aMax_int, aMin_int, aInt_bl, aInt_int, aLen_tup, aLen_lst, aLen_scr, aLen_pair, aTuple_lst, aTuple_tup, aIsB_bl, aNotB_bl, aEq_int, aNe_int, startD, List.map_cons, List.map_nil, List.length_cons, List.length_nil, List.cons_append, List.nil_append, List.replicate_zero, List.replicate_succ, List.append_nil, List.getElem?_cons_zero, List.getElem?_cons_succ, List.set_cons_zero, List.set_cons_succ, Option.some.injEq, exists_eq_left', exists_eq_left, exists_eq', D.int.injEq, D.bl.injEq, D.tup.injEq, D.lst.injEq, D.pair.injEq, D.ref.injEq, List.cons.injEq, Nat.sub_self, Nat.zero_add, Nat.add_sub_cancel, seqI_tup, seqI_lst, seqOf_tup, seqOf_lst, tyN_tup, tyN_lst, tyN_int, tyN_bl, tyN_str, tyN_non, isi_tt, at_0, at_1, at_2, at_3, Option.map_some, true_and, and_true, if_true, Bool.false_eq_true, if_false, Bool.not_true, Bool.not_false, ↓reduceIte, Nat.reduceAdd, Nat.reduceSub, exists_and_left, and_assoc]))
/-! sums over cells -/
end Mn

set_option Elab.async false
set_option linter.all false
set_option maxRecDepth 100000
set_option maxHeartbeats 4000000
set_option autoImplicit false
namespace Mn
open PySem PySem.Spec PyProof.Rows L2 GenW
variable [Tbs]
/-! a for within a generator -/
section
variable {M : Model} {A : Around} {R : GenEnd} {Y : Protocol} {n : Nat} {s₀ : Shared} {c : Code} {fs : List Frame} {s : Shared} {env : Env} {K : Flow → Sem PySem.Fin} {H : Value → Sem PySem.Fin} {gd : Bool → Bool} {lv : List Value → List Value}
end
section
variable {prog : Program} {w : World} {A : Around} {R : GenEnd} {Y : Protocol} {n : Nat} {s₀ : Shared} {fs : List Frame} {s : Shared} {env : Env}
end
section
variable {X : Cx}
end
end Mn

set_option Elab.async false
set_option linter.all false
set_option maxRecDepth 100000
set_option maxHeartbeats 4000000
set_option autoImplicit false
namespace Mn
open PySem PySem.Spec PyProof.Rows L2
variable [Tbs]
theorem fun_of_FunD {K : PySem.W.Frag} {x qual : Str} {st : Stmt} {f : Addr} {fd : FuncData} {kws : List (Str × V)} (F : FunD K x qual (defArgs st) (defBody st) (defScope st) [] kws f fd) : Fun K x qual st f fd := by
  obtain ⟨oc, od, dV, kV, doc, pm, an, cdv, ct, osl, e, lk, hcd, hD, hK⟩ := F.ex
  rcases hD with ⟨_, rfl⟩ | ⟨z, _⟩
  · exact ⟨⟨oc, od, kV, doc, pm, an, cdv, ct, osl, e, lk, hcd⟩, F.kp⟩
  · exact absurd rfl z
theorem df_of {fa : List He.Fa} {fn : List He.DefD} {K : PySem.W.Frag} {h : Heap} {mg : Str → Option Value} (X : K.In h) (G : h.Ns mainGlobals mg) (c : He.SaysD fa fn K) {x : Str} {st : Stmt} {ps : List Str} (i j : Nat)
    (hb : ∀ (kV doc pm : Value) (an : Option Addr) (cdv ct : Value) (us : List Value), us.length = ps.length → bindArgs (PySem.W.fnOf x x (defArgs st) (defBody st) (defScope st) .none kV doc pm an cdv ct) ⟨us, []⟩ = pure (ps.zip us))
    (hi : fn[i]? = some (ddOf x st) := by rfl) (hj : fa[j]? = some (.glo x) := by rfl) :
    ∃ f fd, Df K mg x st ps f fd ∧ ∀ (s : Shared) (us : List Value), us.length = ps.length → BindsTo s fd ⟨us, []⟩ (ps.zip us) := by
  obtain ⟨fd, F⟩ := c.def_ i hi
  exact ⟨_, fd, ⟨fun_of_FunD F, He.glo_ok X G (c.fact j hj), FunD.bindsN F hb⟩, fun s us hl => FunD.bindsA F hb s us hl⟩
theorem df_ex {K : PySem.W.Frag} {mg : Str → Option Value} {x : Str} {st : Stmt} {ps : List Str} (h : ∃ f fd, Df K mg x st ps f fd ∧ ∀ (s : Shared) (us : List Value), us.length = ps.length → BindsTo s fd ⟨us, []⟩ (ps.zip us)) : ∃ f fd, Df K mg x st ps f fd :=
  let ⟨f, fd, a, _⟩ := h; ⟨f, fd, a⟩
theorem bts_of {fa : List He.Fa} {fn : List He.DefD} {K : PySem.W.Frag} {h : Heap} {mg : Str → Option Value} (X : K.In h) (G : h.Ns mainGlobals mg) (c : He.SaysD fa fn K) (hf : ∀ x ∈ btNames, He.Fa.free (Str.ofString x) ∈ fa) : Bts mg := by
  have c1 := (He.ba (show ((fa.all fun f => f.ok K) && fn.all fun d => d.ok K) = true from congrArg (fun z : He.AlD => z.1) c)).1
  have q : ∀ x ∈ btNames, mg (Str.ofString x) = none := fun x hx => He.free_ok X G (List.all_eq_true.mp c1 _ (hf x hx))
  refine ⟨?_, ?_, ?_, ?_, ?_, ?_, ?_, ?_, ?_, ?_, ?_, ?_, ?_, ?_, ?_, ?_, ?_, ?_, ?_⟩ <;> exact q _ (by decide)
end Mn

set_option Elab.async false
set_option linter.all false
set_option maxRecDepth 100000
set_option maxHeartbeats 4000000
set_option autoImplicit false
namespace Mn
open PySem PySem.Spec PyProof.Rows L2 GenW
variable [Tbs]
/-! a def's promise, whatever is under way around the call -/
structure FnF (P : Program) (w : World) (K : PySem.W.Frag) (mg : Str → Option Value) (base : Heap) (CX : CXT) (k : Nat) (f : Addr) (fd : FuncData) (ps : List Str) (sp : Sp) : Prop where
  len : ∀ vs H Q E, sp vs H Q E → vs.length = ps.length
  run : ∀ (A : Around) (outer : List Env) (s : Shared) (H : Hp) (args : Args) (us : List Value) (vs : List V) (Q : VK) (E : XK), Room k A → Env0 P w K mg base A outer s H →
    BindsTo s fd args (ps.zip us) → Vals vs us → sp vs H Q E → codeAny (model P w) A (.call (.ref f) args) (CR CX outer P w H s Q E) s
section
variable {P : Program} {w : World} {K : PySem.W.Frag} {mg : Str → Option Value} {base : Heap} {CX : CXT}
theorem FnF.toG {k : Nat} {f : Addr} {fd : FuncData} {ps : List Str} {sp : Sp} (F : FnF P w K mg base CX k f fd ps sp) : FnG P w K mg base CX k f fd ps sp :=
  ⟨F.len, fun A outer s H args us vs Q E room _ => F.run A outer s H args us vs Q E room⟩
theorem gn_ofF {k : Nat} {f : Addr} {name qual : Str} {params : Arguments} {body : List Stmt} {scope : Scope} {dV kV doc pm cdv ct oc : Value} {an od : Option Addr} {osl : Array (Option Value)} {N ps : List Str} {sp : Sp}
    (lk : K.lookup f = some ⟨oc, od, .func (PySem.W.fnOf name qual params body scope dV kV doc pm an cdv ct), osl⟩) (hcd : PySem.W.codeIn K cdv qual = true) (S : FnScope N ps scope) (len : ∀ vs H Q E, sp vs H Q E → vs.length = ps.length)
    (hbody : ∀ (A : Around) (outer : List Env) (s : Shared) (H : Hp) (vs : List V) (Q : VK) (E : XK), Room k (A.deeper (envOfC qual scope s.heap.objs.size f cdv)) → sp vs H Q E →
      ∃ t, PSs (cxOf CX P w K mg base N qual scope f cdv A outer s H E) body t ∧ t { nx := fun _ H' => Q .non H', rt := Q } (L2.start N vs) H) :
    FnF P w K mg base CX (k + 1) f (PySem.W.fnOf name qual params body scope dV kV doc pm an cdv ct) ps sp := by
  refine ⟨len, fun A outer s H args us vs Q E room e0 bd rv hsp => ?_⟩
  have inK : K.In s.heap := e0.mod.kin.keeps fun b o e => (e0.bs b o e).1
  have noLim : s.heap.NoLimit := e0.mod.nolimit.keeps fun b o e => (e0.bs b o e).1
  refine codeAny_call_function room.depth (inK _ _ lk) rfl S.co S.gen rfl (PySem.W.codeRec_of inK hcd) (bd _ _ _ _ (wpAny_newFunctionEnv_cells S.kind (fun y hy => ?_) fun env he s1 ic => ?_))
  · obtain ⟨n, v⟩ := y
    rcases S.par n (List.of_mem_zip hy).1 with q | q
    · exact .inl q
    · exact .inr ⟨q, PySem.W.cellsFrom_some _ _ _ (.inl q)⟩
  · subst he
    refine ⟨noLim.keeps ic.toInCall.keep, codeAny_func ?_⟩
    obtain ⟨t, ht, hq⟩ := hbody A outer s H vs Q E (room.deeper _) hsp
    refine wpAny_mono (ht.run [] s1 (L2.start N vs) H _ (inv_start S room.hd e0 (len _ _ _ _ hsp) rv ic) hq) (fun fl s' hs => ?_) fun e s' hs => hs
    cases fl with
    | ret u => obtain ⟨v, σ', H', J, r1, q⟩ := hs; exact ⟨v, H', J.os, J.bare, J.base, J.hok, r1, q⟩
    | next => obtain ⟨σ', H', J, q⟩ := hs; exact ⟨.non, H', J.os, J.bare, J.base, J.hok, rfl, q⟩
    | brk => obtain ⟨_, _, _, q⟩ := hs; exact q.elim
    | cont => obtain ⟨_, _, _, q⟩ := hs; exact q.elim
end
abbrev FnDF (P : Program) (w : World) (K : PySem.W.Frag) (mg : Str → Option Value) (base : Heap) (k : Nat) (f : Addr) (fd : FuncData) (ps : List Str) (d : DSp) : Prop := FnF P w K mg base CX0 k f fd ps (lfSp ⟨K, w, Tbs.T⟩ d)
def ClF (P : Program) (w : World) (K : PySem.W.Frag) (mg : Str → Option Value) (base : Heap) (x : Str) (k : Nat) (ps : List Str) (d : DSp) : Prop :=
  ∃ f fd, mg x = some (.ref f) ∧ PySem.W.keepIn K (.ref f) = true ∧ Binds K fd ps [] ∧ FnDF P w K mg base k f fd ps d
theorem ClF.cl {P : Program} {w : World} {K : PySem.W.Frag} {mg : Str → Option Value} {base : Heap} {x : Str} {k : Nat} {ps : List Str} {d : DSp} (h : ClF P w K mg base x k ps d) : Cl P w K mg base x k ps d := by
  obtain ⟨f, fd, h1, h2, h3, F⟩ := h
  exact ⟨f, fd, h1, h2, h3, F.toG⟩
theorem fnCF {P : Program} {w : World} {K : PySem.W.Frag} {mg : Str → Option Value} {base : Heap} {x : Str} {st : Stmt} {N ps : List Str} {k : Nat} {t : DS} {d : DSp} (h : ∃ f fd, Df K mg x st ps f fd) (S : FnScope N ps (defScope st)) (hl : ∀ ds m Q, d ds m Q → ds.length = ps.length) (hb : Body N.length t d)
    (der : ∀ (f : Addr) (cdv : Value) (A : Around) (outer : List Env) (s : Shared) (H : Hp) (E : XK), Room k (A.deeper (envOfC x (defScope st) s.heap.objs.size f cdv)) → PDSs (cxOf CX0 P w K mg base N x (defScope st) f cdv A outer s H E).nox (defBody st) t) :
    ClF P w K mg base x (k + 1) ps d := by
  obtain ⟨f, fd, Dd⟩ := h
  refine ⟨f, fd, Dd.g, Dd.F.kp, Dd.b, ?_⟩
  obtain ⟨oc, od, kV, doc, pm, an, cdv, ct, osl, rfl, lk, hcd⟩ := Dd.F.ex
  refine gn_ofF lk hcd S (fun vs H Q E ⟨G, ds, m, Qd, rp, rl, q, w⟩ => by rw [← rp.len]; exact hl _ _ _ q) fun A outer s H vs Q E room h => ?_
  exact ⟨_, PSs.nox (der f cdv A outer s H E room), lfS_start hb h⟩
section
variable {X : Cx} {k : Nat} {f : Addr} {fd : FuncData} {ps : List Str} {d : DSp} {x : Str} {p pos : Pos} {e : Expr} {es : List Expr} {tr : DA}
theorem run_DF {pins : List (Addr × Obj)} {σ : L2.St} {H : Hp} {s : Shared} {Q : VK} {us : List Value} {vs : List V} (F : FnDF X.prog X.w X.K X.mg X.base k f fd ps d) (room : Room k X.A) (bd : Binds X.K fd ps [])
    (I : Inv X pins σ H s) (rv : Vals vs us) (h : lfSp X.kf d vs H Q E0) : wpAny (model X.prog X.w) X.A (call (.ref f) us) (EP X pins σ Q) X.xe s := by
  have hl : us.length = ps.length := by rw [← rv.length]; exact F.len _ _ _ _ h
  have bz := bd s us I.kIn (by rw [List.append_nil]; exact hl)
  rw [List.append_nil] at bz
  refine wpAny_call (codeAny_mono (F.run X.A X.stack s H ⟨us, []⟩ us vs Q E0 room I.env0 bz rv h) fun res s' hq => ?_)
  cases res with
  | error e => exact False.elim hq
  | ok fl => cases fl with
    | ret u => exact I.after hq
    | next => exact False.elim hq
    | brk => exact False.elim hq
    | cont => exact False.elim hq
theorem pd_callF (C : ClF X.prog X.w X.K X.mg X.base x k ps d) (room : Room k X.A) (hg : Gl X x)
    (ha : PDA X (e :: es) tr) (hdb : (x == ("__debug__" : Str)) = false := by decide) (he : starEach (e :: es) X.env = (false, eval e X.env) :: starEach es X.env := by rfl) (hpl : (backTo pos (starEach es X.env)).any (·.1) = false := by rfl) :
    PD X (.Call (.Name x p) (e :: es) [] pos) (dCB d tr) := by
  obtain ⟨f, fd, hm, hk, bd, F⟩ := C
  refine ⟨fun pins s σ H Q I ⟨G, ro, m, Qd, hs, hr, q, w⟩ => ?_⟩
  have h : lfA X.kf tr σ H fun vs H1 => lfSp X.kf d vs H1 Q E0 := ⟨G, ro, m, _, hs, hr, q, fun vs H1 G1 m1 ds s1 r1 h1 q1 => ⟨G1, ds, m1, Qd, h1, r1, q1, w.after s1⟩⟩
  refine wpAny_Call_Name_kw (ld_glob I hg hm ?_ hdb)
  exact PySem.W.callWith_K (h₀ := X.base) I.ok.mod.kin hk (thn (PA.run ha pos pins s σ H _ I h) fun us s1 ⟨vs, H1, I1, r, q⟩ => ⟨I1.kIn, run_DF F room bd I1 r q⟩) he hpl
end
/-! a generator def that runs a statement and hands out the items of a sequence -/
section
variable {X : Cx} {k : Nat} {ps : List Str} {d : DSp} {x nm : Str} {p p' pos pos' : Pos} {e : Expr} {es : List Expr} {tr : DA}
end
end Mn

set_option Elab.async false
set_option linter.all false
set_option maxRecDepth 100000
set_option maxHeartbeats 4000000
set_option autoImplicit false
namespace Mn
open PySem PySem.Spec PyProof.Rows L2
variable [Tbs]
/-! sum(t), t a tuple -/
end Mn

set_option linter.all false
set_option maxHeartbeats 4000000
set_option autoImplicit false
set_option maxRecDepth 100000
namespace Mn
open PySem L2
variable [Tbs]
local macro_rules | `(tactic| walk_at "d") => `(tactic| (try simp only [xNext, xSeq, xAsg, xRet, xRetF, xDrop, xIf, xPar, xPar3, xMatch, mGo, xFrz, xPut, xAug, xFor, dVar, dC, dOp, dTest, dChain, dAndV, dOrV, dNotV, dAnd, dOr, dNot, dIf, dNil, dCons, dTup, dLst, dLstM, dCB, dIsi, dLc, dLcM, dYes, wipeD, dSlice, oSome, oNone, aSl_tup, aSl_lst, dNeg, dStar, dNewD, dTupVals, dSortSet, dDc, dStep, dIndexTD, dCountL, dExtend, dAppend, dFrz, dLc2, dCountT, dIndexT, sqf_tup, sqf_lst, sqf_pair, sSeq, sSeq_tup, sSeq_lst, sRg1, sRg2, sZip2, sZip3, sZip4, sEnum, gV, gN, gC, gT, tupOf_tup, tupOf_pair, aAdd_int, aAdd_tup, aAdd_lst, aSub_int, aMul_int, aDiv_int, aMod_int, aPow_int, aCmp_int, aIx_tup, aIx_lst, aIx_scr, aIx_pair, aMax_int, aMin_int, aInt_bl, aInt_int, aLen_tup, aLen_lst, aLen_scr, aLen_pair, aTuple_lst, aTuple_tup, aIsB_bl, aNotB_bl, aEq_int, aNe_int, startD, List.map_cons, List.map_nil, List.length_cons, List.length_nil, List.cons_append, List.nil_append, List.replicate_zero, List.replicate_succ, List.append_nil, List.getElem?_cons_zero, List.getElem?_cons_succ, List.set_cons_zero, List.set_cons_succ, Option.some.injEq, exists_eq_left', exists_eq_left, exists_eq', D.int.injEq, D.bl.injEq, D.tup.injEq, D.lst.injEq, D.pair.injEq, D.ref.injEq, List.cons.injEq, Nat.sub_self, Nat.zero_add, Nat.add_sub_cancel, seqI_tup, seqI_lst, seqOf_tup, seqOf_lst, tyN_tup, tyN_lst, tyN_int, tyN_bl, tyN_str, tyN_non, isi_tt, at_0, at_1, at_2, at_3, Option.map_some, true_and, and_true, if_true, Bool.false_eq_true, if_false, Bool.not_true, Bool.not_false, ↓reduceIte, Nat.reduceAdd, Nat.reduceSub, exists_and_left, and_assoc]))
/-! all rollups, handed out one after another -/
theorem cellsN_head : ∀ {ns : List Nat}, (∀ k ∈ ns, 1 ≤ k) → (cellsN ns)[0]? = some (List.replicate ns.length 0)
  | [], _ => rfl
  | k :: ns, h => by
    have ih := cellsN_head (ns := ns) fun j hj => h j (List.mem_cons_of_mem _ hj)
    obtain ⟨j, rfl⟩ : ∃ j, k = j + 1 := ⟨k - 1, by have := h k List.mem_cons_self; omega⟩
    rw [cellsN_cons, List.range_succ_eq_map, List.flatMap_cons, List.getElem?_append_left (by rw [List.length_map]; exact (List.getElem?_eq_some_iff.mp ih).1), List.getElem?_map, ih]
    rfl
end Mn

set_option Elab.async false
set_option linter.all false
set_option maxRecDepth 100000
set_option maxHeartbeats 4000000
set_option autoImplicit false
namespace Mn
open PySem PySem.Spec PyProof.Rows L2
variable [Tbs]
/-! dict(zip(x, y)), the keys tuples -/
section
variable {prog : Program} {w : World}
def OkZ (z TI TO : Addr) (c1 c2 : Src) (i : Nat) (h : Heap) : Prop :=
  (∃ f0 f, IsZ h z TI TO f0 f ∧ Own0 f0) ∧ IsT h TI ([c1, c2].map fun d => Value.ref d.it).toArray ∧ (∃ arr : Array Value, IsT h TO arr ∧ arr.size = [c1, c2].length) ∧ c1.ok h i ∧ c2.ok h i
theorem OkZ.keep {z TI TO : Addr} {c1 c2 : Src} {i : Nat} {h h' : Heap} (x : OkZ z TI TO c1 c2 i h) (q : ∀ b o, (b = z ∨ b = TI ∨ b = TO ∨ b = c1.it ∨ b = c2.it ∨ b = c1.a ∨ b = c2.a) → h.get? b = some o → h'.get? b = some o) : OkZ z TI TO c1 c2 i h' := by
  obtain ⟨⟨f0, f, hz, h0⟩, hTI, ⟨arr, hTO, ha⟩, k1, k2⟩ := x
  refine ⟨⟨f0, f, q _ _ (.inl rfl) hz, h0⟩, q _ _ (.inr (.inl rfl)) hTI, ⟨arr, q _ _ (.inr (.inr (.inl rfl))) hTO, ha⟩, k1.at fun c o hc e => q _ _ ?_ e, k2.at fun c o hc e => q _ _ ?_ e⟩
  · rcases hc with rfl | rfl <;> simp
  · rcases hc with rfl | rfl <;> simp
end
section
variable {X : Cx}
end
end Mn

set_option Elab.async false
set_option linter.all false
set_option maxRecDepth 100000
set_option maxHeartbeats 4000000
set_option autoImplicit false
namespace Mn
open PySem PySem.Spec PyProof.Rows L2
variable [Tbs]
/-! for k in d, the dict one that is never changed -/
section
variable {X : Cx} {tg e : Expr} {td : TE} {t : DT}
/-- the keys of a dict that is never changed; or a row -/
def sKeys (t : DT) : DI := fun r m Q => t r m fun d m1 => ∃ ks ds, d = .dct ks ds ∧ Q (ks.map keyD) m1
/-! dict(zip(x, y)) over data -/
def isTupK : NestedKey → Bool
  | .tup _ => true
  | _ => false
def dctK (x y : D) (P : D → Prop) : Prop := ∃ (ks : List NestedKey) (ys : List D), seqI x = some (ks.map keyD) ∧ seqI y = some ys ∧ ys.length = ks.length ∧ ks.length ≤ sizeLine ∧ ks.Nodup ∧ (∀ k ∈ ks, k.depth ≤ 8 ∧ isTupK k = true) ∧ P (.dct ks ys)
def dDictZ (ta tb : DT) : DT := fun r m Q => ta r m fun x m1 => tb r m1 fun y m2 => dctK x y fun d => Q d m2
/-- {} that stays so -/
def dNewC : DT := fun _ m Q => Q (.dct [] []) m
end
end Mn

set_option Elab.async false
set_option linter.all false
set_option maxRecDepth 100000
set_option maxHeartbeats 4000000
set_option autoImplicit false
namespace Mn
open PySem PySem.Spec PyProof.Rows L2
variable [Tbs]
section
variable {X : Cx}
/-! len(set(t)), t a tuple of tuples of ints -/
end
end Mn

set_option linter.all false
set_option maxHeartbeats 4000000
set_option autoImplicit false
set_option maxRecDepth 100000
namespace Mn
open PySem L2
variable [Tbs]
local macro_rules | `(tactic| walk_at "d") => `(tactic| (try simp only [xNext, xSeq, xAsg, xRet, xRetF, xDrop, xIf, xPar, xPar3, xMatch, mGo, xFrz, xPut, xAug, xFor, dVar, dC, dOp, dTest, dChain, dAndV, dOrV, dNotV, dAnd, dOr, dNot, dIf, dNil, dCons, dTup, dLst, dLstM, dCB, dIsi, dLc, dLcM, dYes, wipeD, dSlice, oSome, oNone, aSl_tup, aSl_lst, dNeg, dStar, dNewD, dTupVals, dSortSet, dDc, dStep, dIndexTD, dCountL, dExtend, dAppend, dFrz, dLc2, dCountT, dIndexT, sqf_tup, sqf_lst, sqf_pair, sSeq, sSeq_tup, sSeq_lst, sRg1, sRg2, sZip2, sZip3, sZip4, sEnum, gV, gN, gC, gT, tupOf_tup, tupOf_pair, aAdd_int, aAdd_tup, aAdd_lst, aSub_int, aMul_int, aDiv_int, aMod_int, aPow_int, aCmp_int, aIx_tup, aIx_lst, aIx_scr, aIx_pair, aMax_int, aMin_int, aInt_bl, aInt_int, aLen_tup, aLen_lst, aLen_scr, aLen_pair, aTuple_lst, aTuple_tup, aIsB_bl, aNotB_bl, aEq_int, aNe_int, startD, List.map_cons, List.map_nil, List.length_cons, List.length_nil, List.cons_append, List.nil_append, List.replicate_zero, List.replicate_succ, List.append_nil, List.getElem?_cons_zero, List.getElem?_cons_succ, List.set_cons_zero, List.set_cons_succ, Option.some.injEq, exists_eq_left', exists_eq_left, exists_eq', D.int.injEq, D.bl.injEq, D.tup.injEq, D.lst.injEq, D.pair.injEq, D.ref.injEq, List.cons.injEq, Nat.sub_self, Nat.zero_add, Nat.add_sub_cancel, seqI_tup, seqI_lst, seqOf_tup, seqOf_lst, tyN_tup, tyN_lst, tyN_int, tyN_bl, tyN_str, tyN_non, isi_tt, at_0, at_1, at_2, at_3, Option.map_some, true_and, and_true, if_true, Bool.false_eq_true, if_false, Bool.not_true, Bool.not_false, ↓reduceIte, Nat.reduceAdd, Nat.reduceSub, exists_and_left, and_assoc]))
/-! rollups in order -/
end Mn

set_option linter.all false
set_option maxHeartbeats 4000000
set_option autoImplicit false
set_option maxRecDepth 100000
namespace Mn
open PySem L2
variable [Tbs]
local macro_rules | `(tactic| walk_at "d") => `(tactic| (try simp only [xNext, xSeq, xAsg, xRet, xRetF, xDrop, xIf, xPar, xPar3, xMatch, mGo, xFrz, xPut, xAug, xFor, dVar, dC, dOp, dTest, dChain, dAndV, dOrV, dNotV, dAnd, dOr, dNot, dIf, dNil, dCons, dTup, dLst, dLstM, dCB, dIsi, dLc, dLcM, dYes, wipeD, dSlice, oSome, oNone, aSl_tup, aSl_lst, dNeg, dStar, dNewD, dTupVals, dSortSet, dDictZ, sKeys, dDc, dStep, dIndexTD, dCountL, dExtend, dAppend, dFrz, dLc2, dCountT, dIndexT, sqf_tup, sqf_lst, sqf_pair, sSeq, sSeq_tup, sSeq_lst, sRg1, sRg2, sZip2, sZip3, sZip4, sEnum, gV, gN, gC, gT, tupOf_tup, tupOf_pair, aAdd_int, aAdd_tup, aAdd_lst, aSub_int, aMul_int, aDiv_int, aMod_int, aPow_int, aCmp_int, aIx_tup, aIx_lst, aIx_scr, aIx_pair, aMax_int, aMin_int, aInt_bl, aInt_int, aLen_tup, aLen_lst, aLen_scr, aLen_pair, aTuple_lst, aTuple_tup, aIsB_bl, aNotB_bl, aEq_int, aNe_int, startD, List.map_cons, List.map_nil, List.length_cons, List.length_nil, List.cons_append, List.nil_append, List.replicate_zero, List.replicate_succ, List.append_nil, List.getElem?_cons_zero, List.getElem?_cons_succ, List.set_cons_zero, List.set_cons_succ, Option.some.injEq, exists_eq_left', exists_eq_left, exists_eq', D.int.injEq, D.bl.injEq, D.tup.injEq, D.lst.injEq, D.pair.injEq, D.ref.injEq, List.cons.injEq, Nat.sub_self, Nat.zero_add, Nat.add_sub_cancel, seqI_tup, seqI_lst, seqOf_tup, seqOf_lst, tyN_tup, tyN_lst, tyN_int, tyN_bl, tyN_str, tyN_non, isi_tt, at_0, at_1, at_2, at_3, Option.map_some, true_and, and_true, if_true, Bool.false_eq_true, if_false, Bool.not_true, Bool.not_false, ↓reduceIte, Nat.reduceAdd, Nat.reduceSub, exists_and_left, and_assoc]))
theorem cut_to (ds : List D) (hi : Nat) : cutD ds none (some (hi : Int)) = ds.take hi := by
  unfold cutD
  rw [HT.sIx_nat, show HT.sIx ds.length 0 none = 0 from rfl, List.drop_zero, Nat.sub_zero]
  by_cases h : hi ≤ ds.length
  · rw [Nat.min_eq_left h]
  · rw [Nat.min_eq_right (by omega), List.take_length, List.take_of_length_le (by omega)]
theorem cut_from (ds : List D) (lo : Nat) : cutD ds (some (lo : Int)) none = ds.drop lo := by
  unfold cutD
  rw [HT.sIx_nat, show HT.sIx ds.length ds.length none = ds.length from rfl]
  by_cases h : lo ≤ ds.length
  · rw [Nat.min_eq_left h, List.take_of_length_le (by rw [List.length_drop]; omega)]
  · rw [Nat.min_eq_right (by omega), List.drop_eq_nil_of_le (Nat.le_refl _), List.drop_eq_nil_of_le (by omega), List.take_nil]
/-! pieces and reports -/
abbrev Pc := List Nat × List Int
def pcD (p : Pc) : D := .tup [tD p.1, iD p.2]
def rpD (ps : List Pc) : D := .tup (ps.map pcD)
def PcV (s : Sch) (p : Pc) : Prop := Roll s p.1 ∧ p.2.length = prodN (szs s p.1)
def RpV (s : Sch) (ps : List Pc) : Prop := ps.length ≤ 6 ∧ ∀ p ∈ ps, PcV s p
def natL (d : D) : List Nat := match d with
  | .tup ds => ds.map fun x => (toI x).toNat
  | _ => []
def isPc (s : Sch) (d : D) : Bool := match d with
  | .tup [a, b] => isRoll s a && isAm s (natL a) b
  | _ => false
def isRp (s : Sch) (d : D) : Bool := match d with
  | .tup ds => decide (ds.length ≤ 6) && ds.all (isPc s)
  | _ => false
theorem natL_tD (r : List Nat) : natL (tD r) = r := by
  show (r.map nD).map (fun x => (toI x).toNat) = r
  rw [List.map_map]
  conv => rhs; rw [← List.map_id r]
  refine List.map_congr_left fun x _ => ?_
  show (toI (nD x)).toNat = x
  unfold nD toI
  simp
theorem betw_nat {d : D} {hi : Int} (h : betw d 0 hi = true) : d = nD (toI d).toNat := by
  cases d with
  | int i =>
    simp only [betw, Bool.and_eq_true, decide_eq_true_eq] at h
    unfold nD toI
    rw [Int.toNat_of_nonneg h.1]
  | _ => simp [betw] at h
theorem isRoll_ex {s : Sch} {d : D} (h : isRoll s d = true) : d = tD (natL d) ∧ Roll s (natL d) := by
  have key : d = tD (natL d) := by
    cases d with
    | tup ds =>
      simp only [isRoll, Bool.and_eq_true, decide_eq_true_eq] at h
      obtain ⟨hl, h⟩ := h
      unfold natL tD
      congr 1
      rw [List.map_map]
      conv => lhs; rw [← List.map_id ds]
      refine List.map_congr_left fun x hx => ?_
      obtain ⟨i, hi, rfl⟩ := List.mem_iff_getElem.mp hx
      have : ∃ a : At, betw ds[i] 0 (a.ss.length : Int) = true := by
        have hz := List.all_eq_true.mp h
        have hs : i < s.length := by omega
        refine ⟨s[i], ?_⟩
        have hm : betw ds[i] 0 (s[i].ss.length : Int) ∈ List.zipWith (fun (a : At) l => betw l 0 a.ss.length) s ds := by
          refine List.mem_iff_getElem.mpr ⟨i, by rw [List.length_zipWith]; omega, ?_⟩
          rw [List.getElem_zipWith]
        exact hz _ hm
      obtain ⟨a, ha⟩ := this
      exact betw_nat ha
    | _ => simp [isRoll] at h
  refine ⟨key, ?_⟩
  unfold Roll
  rw [← key]
  exact h
theorem PcV.ok {s : Sch} {p : Pc} (h : PcV s p) : isPc s (pcD p) = true := by
  unfold isPc pcD
  simp only [natL_tD, isAm_ok h.2, Bool.and_true]
  exact h.1
theorem RpV.ok {s : Sch} {ps : List Pc} (h : RpV s ps) : isRp s (rpD ps) = true := by
  simp only [isRp, rpD, List.length_map, h.1, decide_true, Bool.true_and, List.all_map, List.all_eq_true]
  exact fun p hp => (h.2 p hp).ok
/-! sums by cells -/
def smsD (s : Sch) (p : Pc) (o : List Nat) : D := .dct ((cellsOf s o).map kyT) ((rolN s p.1 p.2 o).map D.int)
def rolC (s : Sch) (p : Pc) (o c : List Nat) : Int := rolF (kxOf s p.1 p.2 o) c
/-- the cells at which two pieces do not agree -/
def unlN (s : Sch) (p q : Pc) : List (List Nat) := (cellsOf s (zMax p.1 q.1)).filter fun c => !decide (rolC s p (zMax p.1 q.1) c = rolC s q (zMax p.1 q.1) c)
/-- the first piece ahead of the others that does not agree, and the first cell -/
def clI (s : Sch) (q : Pc) (ps : List Pc) : Option (Nat × List Nat) := (ps.zipIdx 0).findSome? fun x => if (unlN s x.1 q).isEmpty = true then none else some (x.2, (unlN s x.1 q).headD [])
def clN (s : Sch) (ps : List Pc) : Option (Nat × Nat × List Nat) := (ps.zipIdx 0).findSome? fun y => (clI s y.1 (ps.take y.2)).map fun z => (z.1, y.2, z.2)
def tri (i j : Nat) (c : List Nat) : D := .tup [nD i, nD j, tD c]
end Mn

set_option Elab.async false
set_option linter.all false
set_option maxRecDepth 100000
set_option maxHeartbeats 4000000
set_option autoImplicit false
namespace Mn
open PySem PySem.Spec PyProof.Rows L2
variable [Tbs]
/-! instances of own classes -/
theorem cls_one {K : KF} {c : Str} {C C' : Addr} (h : K.cls c C) (h' : K.cls c C') : C = C' := by
  unfold KF.cls at h h'
  rw [h] at h'
  cases h'; rfl
theorem look_zip {K : KF} {G : Hp} {f : Str} {d : D} : ∀ {fs : List (Str × D)} {vs : List V}, RpL K G (fs.map (·.2)) vs → fs.lookup f = some d → ∃ v, ((fs.map (·.1)).zip vs).lookup f = some v ∧ Rp K G d v
  | [], _, _, h => by cases h
  | (g, x) :: fs, _, .cons hx r, h => by
    rw [List.lookup_cons] at h
    rw [List.map_cons, List.zip_cons_cons, List.lookup_cons]
    cases e : f == g with
    | true => rw [e] at h; cases h; exact ⟨_, rfl, hx⟩
    | false => rw [e] at h; exact look_zip r h
theorem look_zip_none {K : KF} {G : Hp} {f : Str} : ∀ {fs : List (Str × D)} {vs : List V}, RpL K G (fs.map (·.2)) vs → fs.lookup f = none → ((fs.map (·.1)).zip vs).lookup f = none
  | [], _, _, h => rfl
  | (g, x) :: fs, _, .cons hx r, h => by
    rw [List.lookup_cons] at h
    rw [List.map_cons, List.zip_cons_cons, List.lookup_cons]
    cases e : f == g with
    | true => rw [e] at h; cases h
    | false => rw [e] at h; exact look_zip_none r h
/-- a field's store -/
def putD (f : Str) (d : D) : List (Str × D) → List (Str × D)
  | [] => [(f, d)]
  | (g, x) :: r => if g = f then (g, d) :: r else (g, x) :: putD f d r
theorem put_zip {K : KF} {G : Hp} {f : Str} {d : D} {v : V} (rd : Rp K G d v) : ∀ {fs : List (Str × D)} {vs : List V}, RpL K G (fs.map (·.2)) vs → ∃ ws, putF f v ((fs.map (·.1)).zip vs) = ((putD f d fs).map (·.1)).zip ws ∧ RpL K G ((putD f d fs).map (·.2)) ws
  | [], _, .nil => ⟨[v], rfl, .cons rd .nil⟩
  | (g, x) :: fs, _, .cons (v := u) (vs := us) hx r => by
    by_cases e : g = f
    · refine ⟨v :: us, ?_, ?_⟩
      · simp only [List.map_cons, List.zip_cons_cons, putF, putD, if_pos e]
      · simp only [putD, if_pos e, List.map_cons]; exact .cons rd r
    · obtain ⟨ws, e1, e2⟩ := put_zip (f := f) rd (fs := fs) r
      refine ⟨u :: ws, ?_, ?_⟩
      · simp only [List.map_cons, List.zip_cons_cons, putF, putD, if_neg e, e1]
      · simp only [putD, if_neg e, List.map_cons]; exact .cons hx e2
theorem zip_len_le {fs : List (Str × D)} {vs : List V} : ((fs.map (·.1)).zip vs).length ≤ fs.length := by rw [List.length_zip, List.length_map]; exact Nat.min_le_left _ _
section
variable {X : Cx} {o e : Expr} {es : List Expr} {to te : DT} {tr : DA} {pos apos : Pos}
/-- o.f -/
def dFld (cs : List Str) (f : Str) (to : DT) : DT := fun r m Q => to r m fun x m1 => ∃ a c dx fs d, x = .ref a ∧ m1 a = some (.ins c dx fs) ∧ c ∈ cs ∧ fs.lookup f = some d ∧ Q d m1
def NoA (K : KF) (cs : List Str) (f : Str) : Prop := ∀ c ∈ cs, ∀ C, K.cls c C → NoAttr K.fr C f
theorem pd_fld {cs : List Str} {f : Str} (ho : PD X o to) (hn : NoA X.kf cs f) (hb : attributeBase o f X.env (eval o X.env) = eval o X.env := by rfl) : PD X (.Attribute o f pos) (dFld cs f to) := by
  refine peM (pe_fld ho hb) fun s H Q ⟨G, ro, m, Qd, hs, hr, q, w⟩ => ?_
  refine ⟨G, ro, m, _, hs, hr, q, fun v H1 G1 m1 d s1 r1 h1 ⟨a, c, dx, fs, d', e1, em, hc, el, q1⟩ => ?_⟩
  subst e1
  cases h1
  obtain ⟨_, u, hu, C, vs, hC, ic, eu, rv⟩ := r1.mu a _ em
  subst eu
  obtain ⟨v, ev, rdv⟩ := look_zip rv el
  exact ⟨a, C, dx, _, v, rfl, hu, ic.cl, hn c hc C hC, ev, w _ _ _ _ _ s1 r1 rdv q1⟩
/-- o.f = e -/
def fldPut (cs : List Str) (f : Str) (x d : D) (m : Mu) (P : Mu → Prop) : Prop := ∃ a c dx fs, x = .ref a ∧ m a = some (.ins c dx fs) ∧ c ∈ cs ∧ fs.length < 1000 ∧ P (up m a (.ins c dx (putD f d fs)))
def xFld (cs : List Str) (f : Str) (to te : DT) : DS := fun De r m => te r m fun d m1 => to r m1 fun x m2 => fldPut cs f x d m2 fun m3 => De.nx r m3
theorem fld_put {K : KF} {G H : Hp} {m : Mu} {cs : List Str} {f : Str} {x : V} {d dx' : D} {v : V} {P : Mu → Prop} {R : Hp → Prop} (hn : NoA K cs f) (r : Rl K G H m) (rx : Rp K G dx' x) (rd : Rp K G d v) (q : fldPut cs f dx' d m P)
    (w : ∀ H' m', Stp G H m G H' m' → Rl K G H' m' → P m' → R H') : ∃ a C dx fs, x = .ref a ∧ H a = some (.ins C dx fs) ∧ Cls K C ∧ NoAttr K C f ∧ fs.length < 1000 ∧ R (upd H a (.ins C dx (putF f v fs))) := by
  obtain ⟨a, c, dx, fs, e1, em, hc, hl, q⟩ := q
  subst e1
  cases rx
  obtain ⟨_, u, hu, C, vs, hC, ic, eu, rv⟩ := r.mu a _ em
  subst eu
  obtain ⟨ws, e1, r2⟩ := put_zip (f := f) rd rv
  obtain ⟨r3, s3⟩ := r.put em (o := .ins C dx (putF f v ((fs.map (·.1)).zip vs))) (u := .ins c dx (putD f d fs)) ⟨C, ws, hC, ic, by rw [e1], r2⟩
  exact ⟨a, C, dx, _, rfl, hu, ic.cl, hn c hc C hC, Nat.lt_of_le_of_lt zip_len_le hl, w _ _ s3 r3 q⟩
theorem pds_fld {cs : List Str} {f : Str} {p' : Pos} (ho : PD X o to) (he : PD X e te) (hn : NoA X.kf cs f) (hs : swapsWith e (some (.Attribute o f p')) pos.line X.env = pure false := by rfl) : PDS X (.Assign [.Attribute o f p'] e pos) (xFld cs f to te) := by
  refine psM (ps_fld ho he hs) fun E s H ⟨G, r, m, De, hs, hr, q, w⟩ => ?_
  refine ⟨G, r, m, _, hs, hr, q, fun v H1 G1 m1 d s1 r1 rv q1 => ?_⟩
  refine ⟨G1, r, m1, _, hs.same s1.g, r1, q1, fun vo H2 G2 m2 d2 s2 r2 ro q2 => ?_⟩
  exact fld_put hn r2 ro (rv.same s2.g) q2 fun H' m' s3 r3 p3 => w.nx _ _ _ _ _ ((s1.trans s2).trans s3) ((hs.same s1.g).same s2.g) r3 p3
/-! the call of a method -/
structure ClM (P : Program) (w : World) (K : PySem.W.Frag) (mg : Str → Option Value) (base : Heap) (c x : Str) (k : Nat) (ps : List Str) (d : DSp) : Prop where
  ex : ∃ C f fd, KF.cls ⟨K, w, Tbs.T⟩ c C ∧ Meth K C x f ∧ Binds K fd ps [] ∧ FnD P w K mg base k f fd ps d
def dMeth (tab : List (Str × DSp)) (x : Str) (to : DT) (tr : DA) : DT := fun r m Q => to r m fun o m1 => ∃ a c dx fs d, o = .ref a ∧ m1 a = some (.ins c dx fs) ∧ (c, d) ∈ tab ∧ fs.lookup x = none ∧ tr r m1 fun ds m2 => d (o :: ds) m2 Q
/-! an instance called -/
structure ClO (P : Program) (w : World) (K : PySem.W.Frag) (mg : Str → Option Value) (base : Heap) (c : Str) (k : Nat) (ps : List Str) (d : DSp) : Prop where
  ex : ∃ C f fd, KF.cls ⟨K, w, Tbs.T⟩ c C ∧ StX.CallO K C f ∧ Binds K fd ps [] ∧ FnD P w K mg base k f fd ps d
def dCallO (tab : List (Str × DSp)) (to : DT) (tr : DA) : DT := fun r m Q => to r m fun o m1 => ∃ a, o = .ref a ∧ tr r m1 fun ds m2 => ∃ c dx fs d, m2 a = some (.ins c dx fs) ∧ (c, d) ∈ tab ∧ d (o :: ds) m2 Q
/-! self.f, self.g, .. = e, e2, .. -/
inductive FldT (X : Cx) (cs : List Str) (i : Nat) : List Str → List Expr → Prop
  | nil : FldT X cs i [] []
  | cons {f x : Str} {p p' : Pos} {fs : List Str} {ts : List Expr} : PE X (.Name x p) (tVar i) → NoA X.kf cs f → FldT X cs i fs ts → (assignEach (.Attribute (.Name x p) f p' :: ts) X.env).map (·.2) = assign (.Attribute (.Name x p) f p') X.env :: (assignEach ts X.env).map (·.2) → FldT X cs i (f :: fs) (.Attribute (.Name x p) f p' :: ts)
/-! a new instance -/
structure ClI (P : Program) (w : World) (K : PySem.W.Frag) (mg : Str → Option Value) (base : Heap) (c : Str) (k : Nat) (ps : List Str) (d : DSp) : Prop where
  ex : ∃ C f fd, mg c = some (.ref C) ∧ KF.cls ⟨K, w, Tbs.T⟩ c C ∧ InsC K C ∧ Mk K C f ∧ Binds K fd ps [] ∧ FnD P w K mg base k f fd ps d
theorem Rl.made {K : KF} {G H : Hp} {m : Mu} {c : Str} {C a dx : Addr} (r : Rl K G H m) (hC : K.cls c C) (ic : InsC K C) (ha : H a = none) (hd : H dx = none) (ne : dx ≠ a) :
    Rl K G (upd (upd H dx (.own a)) a (.ins C dx [])) (up (up m dx (.own a)) a (.ins c dx [])) ∧ Stp G H m G (upd (upd H dx (.own a)) a (.ins C dx [])) (up (up m dx (.own a)) a (.ins c dx [])) := by
  obtain ⟨r1, s1⟩ := r.newM hd (o := .own a) (u := .own a) rfl
  obtain ⟨r2, s2⟩ := r1.newM (p := a) (by rw [upd_ne ne.symm]; exact ha) (o := .ins C dx []) (u := .ins c dx []) ⟨C, [], hC, ic, rfl, .nil⟩
  exact ⟨r2, s1.trans s2⟩
end
theorem mem_tab1 {α : Type} {P : α → Prop} {a : α} (h : P a) : ∀ x ∈ [a], P x := fun x hx => by
  rw [List.mem_singleton] at hx
  rw [hx]; exact h
end Mn

set_option Elab.async false
set_option linter.all false
set_option maxRecDepth 100000
set_option maxHeartbeats 4000000
set_option autoImplicit false
namespace Mn
open PySem PySem.Spec PyProof.Rows L2
variable [Tbs]
/-! d.get(k, x), the keys tuples -/
section
variable {X : Cx} {o e f : Expr} {to te tf : DT} {apos cpos : Pos}
def dGetC (to te tf : DT) : DT := fun r m Q => to r m fun v m1 => ∃ kl dl, v = .dct kl dl ∧ te r m1 fun y m2 => tf r m2 fun z m3 => ∃ k, y = keyD k ∧ (∃ ks, y = .tup ks) ∧ k.depth ≤ 8 ∧ Q ((lookN (kl.zip dl) k).getD z) m3
end
end Mn

set_option linter.all false
set_option maxHeartbeats 4000000
set_option autoImplicit false
set_option maxRecDepth 100000
namespace Mn
open PySem L2
variable [Tbs]
local macro_rules | `(tactic| walk_at "d") => `(tactic| (try simp only [xNext, xSeq, xAsg, xRet, xRetF, xDrop, xIf, xPar, xPar3, xMatch, mGo, xFrz, xPut, xAug, xFor, dVar, dC, dOp, dTest, dChain, dAndV, dOrV, dNotV, dAnd, dOr, dNot, dIf, dNil, dCons, dTup, dLst, dLstM, dCB, dIsi, dLc, dLcM, dYes, wipeD, dSlice, oSome, oNone, aSl_tup, aSl_lst, dNeg, dStar, dNewD, dTupVals, dSortSet, dDictZ, sKeys, dDc, dStep, dIndexTD, dCountL, dExtend, dAppend, dFrz, dLc2, dCountT, dIndexT, sqf_tup, sqf_lst, sqf_pair, sSeq, sSeq_tup, sSeq_lst, sRg1, sRg2, sZip2, sZip3, sZip4, sEnum, gV, gN, gC, gT, tupOf_tup, tupOf_pair, aAdd_int, aAdd_tup, aAdd_lst, aSub_int, aMul_int, aDiv_int, aMod_int, aPow_int, aCmp_int, aIx_tup, aIx_lst, aIx_scr, aIx_pair, aMax_int, aMin_int, aInt_bl, aInt_int, aLen_tup, aLen_lst, aLen_scr, aLen_pair, aTuple_lst, aTuple_tup, aIsB_bl, aNotB_bl, aEq_int, aNe_int, startD, List.map_cons, List.map_nil, List.length_cons, List.length_nil, List.cons_append, List.nil_append, List.replicate_zero, List.replicate_succ, List.append_nil, List.getElem?_cons_zero, List.getElem?_cons_succ, List.set_cons_zero, List.set_cons_succ, Option.some.injEq, exists_eq_left', exists_eq_left, exists_eq', D.int.injEq, D.bl.injEq, D.tup.injEq, D.lst.injEq, D.pair.injEq, D.ref.injEq, List.cons.injEq, Nat.sub_self, Nat.zero_add, Nat.add_sub_cancel, seqI_tup, seqI_lst, seqOf_tup, seqOf_lst, tyN_tup, tyN_lst, tyN_int, tyN_bl, tyN_str, tyN_non, isi_tt, at_0, at_1, at_2, at_3, Option.map_some, true_and, and_true, if_true, Bool.false_eq_true, if_false, Bool.not_true, Bool.not_false, ↓reduceIte, Nat.reduceAdd, Nat.reduceSub, exists_and_left, and_assoc]))
/-! the table that is filled: plain -/
/-- whether a group is the first one of those in its group of the next level -/
def fst1 (a : At) (l g : Nat) : Bool := decide (l < a.ss.length) && decide ((a.ss.getD l []).findIdx (fun x => decide (x = stepG (a.ss.getD l []) g)) = g)
def fstP (s : Sch) (r c : List Nat) : Option Nat := (((s.zip (r.zip c)).zipIdx 0).find? fun q => fst1 q.1.1 q.1.2.1 q.1.2.2).map (·.2)
def tellN (s : Sch) (ps : List Pc) (r c : List Nat) : Int := match ps.find? fun p => fineB p.1 r with
  | some p => rolC s p r c
  | none => 0
def atN (s : Sch) (i : Nat) : At := s.getD i ⟨1, []⟩
def lvN (r : List Nat) (i : Nat) : Nat := r.getD i 0
/-- the step behind the level at a place -/
def stpN (s : Sch) (r : List Nat) (i : Nat) : List Nat := (atN s i).ss.getD (lvN r i) []
def wideR (r : List Nat) (i : Nat) : List Nat := r.set i (lvN r i + 1)
def wideC (s : Sch) (r c : List Nat) (i : Nat) : List Nat := c.set i (stepG (stpN s r i) (lvN c i))
/-- the other groups in the same group of the next level -/
def othN (s : Sch) (r c : List Nat) (i : Nat) : List Nat := (List.range (stpN s r i).length).filter fun x => decide (stepG (stpN s r i) x = stepG (stpN s r i) (lvN c i)) && decide (x ≠ lvN c i)
def FN (s : Sch) (ps : List Pc) : Nat → List Nat → List Nat → Int
  | 0, r, c => tellN s ps r c
  | n + 1, r, c => match fstP s r c with
    | none => tellN s ps r c
    | some i => FN s ps n (wideR r i) (wideC s r c i) - ((othN s r c i).map fun x => FN s ps n r (c.set i x)).sum
/-- how far it goes -/
def lftN (s : Sch) (r : List Nat) : Nat := ((s.zip r).map fun q => q.1.ss.length - q.2).sum
def cntF (s : Sch) (r c : List Nat) : Nat := ((s.zip (r.zip c)).map fun q => if fst1 q.1 q.2.1 q.2.2 = true then 1 else 0).sum
def muN (s : Sch) (r c : List Nat) : Nat := 4 * lftN s r + cntF s r c
theorem getD_some {α : Type} {l : List α} {i : Nat} {x d : α} (h : l[i]? = some x) : l.getD i d = x := by rw [List.getD_eq_getElem?_getD, h]; rfl
/-- the place, its level, its group -/
structure PlA (s : Sch) (r c : List Nat) (i : Nat) (a : At) (l g : Nat) : Prop where
  ha : s[i]? = some a
  hl : r[i]? = some l
  hg : c[i]? = some g
  lt : l < a.ss.length
  eA : atN s i = a
  eL : lvN r i = l
  eG : lvN c i = g
  eS : stpN s r i = a.ss.getD l []
/-- the sum at a cell of a rollup -/
def FF (s : Sch) (ps : List Pc) (r c : List Nat) : Int := FN s ps (muN s r c) r c
end Mn

set_option linter.all false
set_option maxHeartbeats 4000000
set_option autoImplicit false
set_option maxRecDepth 100000
namespace Mn
open PySem L2
variable [Tbs]
local macro_rules | `(tactic| walk_at "d") => `(tactic| (try simp only [xNext, xSeq, xAsg, xRet, xRetF, xDrop, xIf, xPar, xPar3, xMatch, mGo, xFrz, xPut, xAug, xFor, dVar, dC, dOp, dTest, dChain, dAndV, dOrV, dNotV, dAnd, dOr, dNot, dIf, dNil, dCons, dTup, dLst, dLstM, dCB, dIsi, dLc, dLcM, dYes, wipeD, dSlice, oSome, oNone, aSl_tup, aSl_lst, dNeg, dStar, dNewD, dTupVals, dSortSet, dDc, dStep, dIndexTD, dCountL, dExtend, dAppend, dFrz, dLc2, dCountT, dIndexT, sqf_tup, sqf_lst, sqf_pair, sSeq, sSeq_tup, sSeq_lst, sRg1, sRg2, sZip2, sZip3, sZip4, sEnum, gV, gN, gC, gT, tupOf_tup, tupOf_pair, aAdd_int, aAdd_tup, aAdd_lst, aSub_int, aMul_int, aDiv_int, aMod_int, aPow_int, aCmp_int, aIx_tup, aIx_lst, aIx_scr, aIx_pair, aMax_int, aMin_int, aInt_bl, aInt_int, aLen_tup, aLen_lst, aLen_scr, aLen_pair, aTuple_lst, aTuple_tup, aIsB_bl, aNotB_bl, aEq_int, aNe_int, startD, List.map_cons, List.map_nil, List.length_cons, List.length_nil, List.cons_append, List.nil_append, List.replicate_zero, List.replicate_succ, List.append_nil, List.getElem?_cons_zero, List.getElem?_cons_succ, List.set_cons_zero, List.set_cons_succ, Option.some.injEq, exists_eq_left', exists_eq_left, exists_eq', D.int.injEq, D.bl.injEq, D.tup.injEq, D.lst.injEq, D.pair.injEq, D.ref.injEq, List.cons.injEq, Nat.sub_self, Nat.zero_add, Nat.add_sub_cancel, seqI_tup, seqI_lst, seqOf_tup, seqOf_lst, tyN_tup, tyN_lst, tyN_int, tyN_bl, tyN_str, tyN_non, isi_tt, at_0, at_1, at_2, at_3, Option.map_some, true_and, and_true, if_true, Bool.false_eq_true, if_false, Bool.not_true, Bool.not_false, ↓reduceIte, Nat.reduceAdd, Nat.reduceSub, exists_and_left, and_assoc]))
/-! the same attribute by other names -/
theorem perm_lt {p : List Nat} {n : Nat} (h : p.Perm (List.range n)) : p.length = n ∧ p.Nodup ∧ (∀ x ∈ p, x < n) ∧ ∀ y, y < n → y ∈ p :=
  ⟨by rw [h.length_eq, List.length_range], h.nodup_iff.mpr List.nodup_range, fun x hx => List.mem_range.mp (h.mem_iff.mp hx), fun y hy => h.mem_iff.mpr (List.mem_range.mpr hy)⟩
theorem perm_inj {p : List Nat} {n g g' : Nat} (h : p.Perm (List.range n)) (hg : g < n) (hg' : g' < n) (e : stepG p g = stepG p g') : g = g' := by
  obtain ⟨h1, h2, _, _⟩ := perm_lt h
  rw [stepG_get (by omega), stepG_get (by omega)] at e
  rcases Nat.lt_trichotomy g g' with c | c | c
  · exact absurd e (List.pairwise_iff_getElem.mp h2 g g' (by omega) (by omega) c)
  · exact c
  · exact absurd e.symm (List.pairwise_iff_getElem.mp h2 g' g (by omega) (by omega) c)
theorem perm_step {p : List Nat} {n g : Nat} (h : p.Perm (List.range n)) (hg : g < n) : stepG p g < n := by
  obtain ⟨h1, _, h3, _⟩ := perm_lt h
  rw [stepG_get (by omega)]; exact h3 _ (List.getElem_mem _)
theorem perm_onto {p : List Nat} {n y : Nat} (h : p.Perm (List.range n)) (hy : y < n) : ∃ g, g < n ∧ stepG p g = y := by
  obtain ⟨h1, _, _, h4⟩ := perm_lt h
  obtain ⟨i, hi, e⟩ := List.mem_iff_getElem.mp (h4 y hy)
  exact ⟨i, by omega, by rw [stepG_get hi]; exact e⟩
structure Ren (a b : At) (nm : List (List Nat)) : Prop where
  n : b.n = a.n
  len : b.ss.length = a.ss.length
  nl : nm.length = a.ss.length + 1
  v : b.V
  at_ : ∀ l, l ≤ a.ss.length → b.sz l = a.sz l ∧ (nm.getD l []).Perm (List.range (a.sz l)) ∧ ∀ v, v < a.n → b.up v 0 l = stepG (nm.getD l []) (a.up v 0 l)
section
variable {a b : At} {nm : List (List Nat)}
theorem Ren.eq (h : Ren a b nm) (ha : a.V) {v u l : Nat} (hv : v < a.n) (hu : u < a.n) (hl : l ≤ a.ss.length) : b.up v 0 l = b.up u 0 l ↔ a.up v 0 l = a.up u 0 l := by
  obtain ⟨h1, h2, h3⟩ := h.at_ l hl
  rw [h3 v hv, h3 u hu]
  exact ⟨fun e => perm_inj h2 (ha.up_lt hv (Nat.zero_le _) hl) (ha.up_lt hu (Nat.zero_le _) hl) e, fun e => by rw [e]⟩
theorem Ren.in_ (h : Ren a b nm) (ha : a.V) {v g l : Nat} (hv : v < a.n) (hl : l ≤ a.ss.length) (hg : g < a.sz l) : b.up v 0 l = stepG (nm.getD l []) g ↔ a.up v 0 l = g := by
  obtain ⟨h1, h2, h3⟩ := h.at_ l hl
  rw [h3 v hv]
  exact ⟨fun e => perm_inj h2 (ha.up_lt hv (Nat.zero_le _) hl) hg e, fun e => by rw [e]⟩
theorem Ren.cls (h : Ren a b nm) (ha : a.V) {v l : Nat} (hv : v < a.n) (hl : l ≤ a.ss.length) : clsN b v l = clsN a v l := by
  unfold clsN
  rw [h.n]
  refine List.filter_congr fun u hu => ?_
  rw [Bool.eq_iff_iff, decide_eq_true_eq, decide_eq_true_eq]
  exact h.eq ha (List.mem_range.mp hu) hv hl
theorem findSome_cong {α β : Type} {f g : α → Option β} : ∀ {l : List α}, (∀ x ∈ l, f x = g x) → l.findSome? f = l.findSome? g
  | [], _ => rfl
  | x :: l, h => by rw [List.findSome?_cons, List.findSome?_cons, h x List.mem_cons_self, findSome_cong fun y hy => h y (List.mem_cons_of_mem _ hy)]
theorem Ren.tk (h : Ren a b nm) (ha : a.V) {l : Nat} : tkN b l = tkN a l := by
  unfold tkN
  rw [h.len]
  by_cases hl : l < a.ss.length
  · rw [if_pos hl, if_pos hl]
    congr 1
    unfold tkO
    rw [h.n]
    refine findSome_cong fun i hi => ?_
    unfold tkJ
    rw [h.n]
    refine findSome_cong fun j hj => ?_
    rw [List.mem_range] at hi
    rw [List.mem_range'_1] at hj
    have e1 := h.eq ha (v := i) (u := j) (l := l) hi (by omega) (by omega)
    have e2 := h.eq ha (v := i) (u := j) (l := l + 1) hi (by omega) (by omega)
    have : tkC b l i j = tkC a l i j := by
      unfold tkC
      rw [Bool.eq_iff_iff, Bool.and_eq_true, Bool.and_eq_true, decide_eq_true_eq, decide_eq_true_eq, decide_eq_true_eq, decide_eq_true_eq]
      exact and_congr (not_congr e1) e2
    rw [this]
  · rw [if_neg hl, if_neg hl]
theorem Ren.fv (h : Ren a b nm) (ha : a.V) {l g : Nat} (hl : l ≤ a.ss.length) (hg : g < a.sz l) : Mn.fv b l (stepG (nm.getD l []) g) = Mn.fv a l g := by
  unfold Mn.fv
  rw [h.n]
  congr 1
  refine List.filter_congr fun v hv => ?_
  rw [Bool.eq_iff_iff, decide_eq_true_eq, decide_eq_true_eq]
  exact h.in_ ha (List.mem_range.mp hv) hl hg
theorem Ren.own (h : Ren a b nm) (ha : a.V) {l g : Nat} (hl : l ≤ a.ss.length) (hg : g < a.sz l) : (ownG b l (stepG (nm.getD l []) g)).1 = (ownG a l g).1 := by
  obtain ⟨h1, h2, h3⟩ := h.at_ l hl
  have hg' : stepG (nm.getD l []) g < b.sz l := by rw [h1]; exact perm_step h2 hg
  obtain ⟨f1, f2, f3, f4, f5, f6⟩ := own_fv ha hl hg
  obtain ⟨k1, k2, k3, k4, k5, k6⟩ := own_fv h.v (by rw [h.len]; exact hl) hg'
  rw [h.fv ha hl hg] at k1 k3 k5 k6
  rw [h.len] at k2 k6
  rw [h.cls ha f1 k2, h.cls ha f1 hl] at k5
  rcases Nat.lt_trichotomy (ownG b l (stepG (nm.getD l []) g)).1 (ownG a l g).1 with c | c | c
  · have := k6 _ c f2
    rw [h.cls ha f1 f2, h.cls ha f1 hl] at this
    exact absurd f5 this
  · exact c
  · exact absurd k5 (f6 _ c k2)
end
/-! schemes by other names -/
structure RenS (s t : Sch) (nms : List (List (List Nat))) : Prop where
  l1 : t.length = s.length
  l2 : nms.length = s.length
  at_ : ∀ (i : Nat) (a b : At) (nm : List (List Nat)), s[i]? = some a → t[i]? = some b → nms[i]? = some nm → Ren a b nm
def placeN (nms : List (List (List Nat))) (w c : List Nat) : List Nat := (nms.zip (w.zip c)).map fun p => stepG (p.1.getD p.2.1 []) p.2.2
section
variable {s t : Sch} {nms : List (List (List Nat))}
theorem RenS.get (h : RenS s t nms) {i : Nat} {a : At} (ha : s[i]? = some a) : ∃ b nm, t[i]? = some b ∧ nms[i]? = some nm ∧ Ren a b nm := by
  have hi := (List.getElem?_eq_some_iff.mp ha).1
  obtain ⟨b, hb⟩ := get_ex (l := t) (i := i) (by rw [h.l1]; exact hi)
  obtain ⟨nm, hn⟩ := get_ex (l := nms) (i := i) (by rw [h.l2]; exact hi)
  exact ⟨b, nm, hb, hn, h.at_ i a b nm ha hb hn⟩
theorem RenS.ns (h : RenS s t nms) : t.map At.n = s.map At.n := by
  refine List.ext_getElem? fun i => ?_
  rw [List.getElem?_map, List.getElem?_map]
  by_cases hi : i < s.length
  · obtain ⟨a, ha⟩ := get_ex hi
    obtain ⟨b, nm, hb, _, r⟩ := h.get ha
    rw [ha, hb]
    exact congrArg some r.n
  · rw [List.getElem?_eq_none (by rw [h.l1]; omega), List.getElem?_eq_none (by omega)]
theorem RenS.v (h : RenS s t nms) (hs : SchV s) : SchV t := by
  refine ⟨by rw [h.l1]; exact hs.1, by rw [h.l1]; exact hs.2.1, fun b hb => ?_, by rw [h.ns]; exact hs.2.2.2⟩
  obtain ⟨i, hi⟩ := List.mem_iff_getElem?.mp hb
  obtain ⟨a, ha⟩ := get_ex (l := s) (i := i) (by rw [← h.l1]; exact (List.getElem?_eq_some_iff.mp hi).1)
  obtain ⟨b', nm, hb', _, r⟩ := h.get ha
  rw [hi] at hb'; cases hb'
  exact r.v
theorem RenS.roll (h : RenS s t nms) {r : List Nat} (hr : Roll s r) : Roll t r := roll_of (by rw [hr.len, h.l1]) fun i b k hb hk => by
  obtain ⟨a, ha⟩ := get_ex (l := s) (i := i) (by rw [← h.l1]; exact (List.getElem?_eq_some_iff.mp hb).1)
  obtain ⟨b', nm, hb', _, rn⟩ := h.get ha
  rw [hb] at hb'; cases hb'
  rw [rn.len]; exact hr.at ha hk
theorem place_len (h : RenS s t nms) {w c : List Nat} (hw : w.length = s.length) (hc : c.length = s.length) : (placeN nms w c).length = s.length := by
  unfold placeN; rw [List.length_map, List.length_zip, List.length_zip, h.l2]; omega
theorem place_at {w c : List Nat} {i l g : Nat} {nm : List (List Nat)} (hn : nms[i]? = some nm) (hl : w[i]? = some l) (hg : c[i]? = some g) : (placeN nms w c)[i]? = some (stepG (nm.getD l []) g) := by
  unfold placeN; rw [List.getElem?_map, zip_at hn (zip_at hl hg)]; rfl
theorem RenS.cell (h : RenS s t nms) {w c : List Nat} (hw : Roll s w) (hc : Cell s w c) : Cell t w (placeN nms w c) := by
  refine ⟨by rw [place_len h hw.len (hc.len hw), szs_len (h.roll hw), h.l1], fun i x k hx hk => ?_⟩
  obtain ⟨b, l, hb, hl, rfl⟩ := szs_at hk
  obtain ⟨a, ha⟩ := get_ex (l := s) (i := i) (by rw [← h.l1]; exact (List.getElem?_eq_some_iff.mp hb).1)
  obtain ⟨b', nm, hb', hn, rn⟩ := h.get ha
  rw [hb] at hb'; cases hb'
  obtain ⟨g, hg⟩ := get_ex (l := c) (i := i) (by rw [hc.len hw]; exact (List.getElem?_eq_some_iff.mp ha).1)
  rw [place_at hn hl hg] at hx
  cases hx
  obtain ⟨h1, h2, _⟩ := rn.at_ l (hw.at ha hl)
  rw [h1]; exact perm_step h2 (hc.at ha hl hg)
theorem RenS.fin (h : RenS s t nms) : finN t = finN s := by unfold finN; rw [h.l1]
theorem RenS.abv (h : RenS s t nms) (hs : SchV s) {w c x : List Nat} (hw : Roll s w) (hc : Cell s w c) (hx : Cell s (finN s) x) : placeN nms w c = Mn.abv t (finN t) x w ↔ c = Mn.abv s (finN s) x w := by
  have hxl := hx.len (fin_roll s)
  have hfl : (finN s).length = s.length := by unfold finN; rw [List.length_replicate]
  have a1 := abv_len (s := s) (r := finN s) (c := x) (o := w) hfl hxl hw.len
  have a2 := abv_len (s := t) (r := finN s) (c := x) (o := w) (by rw [hfl, h.l1]) (by rw [hxl, h.l1]) (by rw [hw.len, h.l1])
  rw [h.l1] at a2
  have pl := place_len h hw.len (hc.len hw)
  have hcl := hc.len hw
  rw [h.fin]
  have key : ∀ i, i < s.length → ((placeN nms w c)[i]? = (Mn.abv t (finN s) x w)[i]? ↔ c[i]? = (Mn.abv s (finN s) x w)[i]?) := fun i hi => by
    obtain ⟨a, ha⟩ := get_ex hi
    obtain ⟨b, nm, hb, hn, rn⟩ := h.get ha
    obtain ⟨l, hl⟩ := get_ex (l := w) (i := i) (by rw [hw.len]; exact hi)
    obtain ⟨g, hg⟩ := get_ex (l := c) (i := i) (by omega)
    obtain ⟨v, hv⟩ := get_ex (l := x) (i := i) (by omega)
    have h0 : (finN s)[i]? = some 0 := by unfold finN; rw [List.getElem?_replicate, if_pos hi]
    have hvn : v < a.n := hx.at ha h0 hv
    have hV := hs.2.2.1 a (List.mem_of_getElem? ha)
    rw [place_at hn hl hg, abv_at hb hv h0 hl, abv_at ha hv h0 hl, hg]
    have := rn.in_ hV hvn (hw.at ha hl) (hc.at ha hl hg)
    constructor
    · intro e; rw [(this.mp (Option.some.inj e).symm)]
    · intro e; rw [(this.mpr (Option.some.inj e).symm)]
  constructor
  · intro e
    refine List.ext_getElem? fun i => ?_
    by_cases hi : i < s.length
    · exact (key i hi).mp (by rw [e])
    · rw [List.getElem?_eq_none (by omega), List.getElem?_eq_none (by omega)]
  · intro e
    refine List.ext_getElem? fun i => ?_
    by_cases hi : i < s.length
    · exact (key i hi).mpr (by rw [← e])
    · rw [List.getElem?_eq_none (by omega), List.getElem?_eq_none (by omega)]
theorem RenS.cells (h : RenS s t nms) : cellsOf t (finN t) = cellsOf s (finN s) := by unfold cellsOf; rw [szs_fin, szs_fin, h.ns]
theorem RenS.sm (h : RenS s t nms) (hs : SchV s) {xs : List Int} {w c : List Nat} (hw : Roll s w) (hc : Cell s w c) : smA t xs w (placeN nms w c) = smA s xs w c := by
  unfold smA
  rw [rolF_sum, rolF_sum]
  unfold kxOf
  rw [List.map_map, List.map_map, h.cells]
  congr 1
  refine List.map_congr_left fun p hp => ?_
  have hx : Cell s (finN s) p.1 := cell_iff.mp (List.of_mem_zip hp).1
  have := h.abv hs hw hc hx
  simp only [Function.comp]
  by_cases e : c = Mn.abv s (finN s) p.1 w
  · rw [if_pos e, if_pos (this.mpr e)]
  · rw [if_neg e, if_neg fun z => e (this.mp z)]
theorem RenS.own (h : RenS s t nms) (hs : SchV s) {w c : List Nat} (hw : Roll s w) (hc : Cell s w c) : ownL t w (placeN nms w c) = ownL s w c := by
  have o1 := (own_len hw hc).1
  have o2 := (own_len (h.roll hw) (h.cell hw hc)).1
  have hl1 := h.l1
  refine List.ext_getElem? fun i => ?_
  by_cases hi : i < s.length
  · obtain ⟨a, ha⟩ := get_ex hi
    obtain ⟨b, nm, hb, hn, rn⟩ := h.get ha
    obtain ⟨l, hl⟩ := get_ex (l := w) (i := i) (by rw [hw.len]; exact hi)
    obtain ⟨g, hg⟩ := get_ex (l := c) (i := i) (by rw [hc.len hw]; exact hi)
    rw [(ownL_at ha hl hg).1, (ownL_at hb hl (place_at hn hl hg)).1, rn.own (hs.2.2.1 a (List.mem_of_getElem? ha)) (hw.at ha hl) (hc.at ha hl hg)]
  · rw [List.getElem?_eq_none (by omega), List.getElem?_eq_none (by omega)]
end
/-! the attributes the other way round -/
end Mn

set_option linter.all false
set_option maxHeartbeats 4000000
set_option autoImplicit false
set_option maxRecDepth 100000
namespace Mn
open PySem L2
variable [Tbs]
local macro_rules | `(tactic| walk_at "d") => `(tactic| (try simp only [xNext, xSeq, xAsg, xRet, xRetF, xDrop, xIf, xPar, xPar3, xMatch, mGo, xFrz, xPut, xAug, xFor, dVar, dC, dOp, dTest, dChain, dAndV, dOrV, dNotV, dAnd, dOr, dNot, dIf, dNil, dCons, dTup, dLst, dLstM, dCB, dIsi, dLc, dLcM, dYes, wipeD, dSlice, oSome, oNone, aSl_tup, aSl_lst, dNeg, dStar, dNewD, dTupVals, dSortSet, dDc, dStep, dIndexTD, dCountL, dExtend, dAppend, dFrz, dLc2, dCountT, dIndexT, sqf_tup, sqf_lst, sqf_pair, sSeq, sSeq_tup, sSeq_lst, sRg1, sRg2, sZip2, sZip3, sZip4, sEnum, gV, gN, gC, gT, tupOf_tup, tupOf_pair, aAdd_int, aAdd_tup, aAdd_lst, aSub_int, aMul_int, aDiv_int, aMod_int, aPow_int, aCmp_int, aIx_tup, aIx_lst, aIx_scr, aIx_pair, aMax_int, aMin_int, aInt_bl, aInt_int, aLen_tup, aLen_lst, aLen_scr, aLen_pair, aTuple_lst, aTuple_tup, aIsB_bl, aNotB_bl, aEq_int, aNe_int, startD, List.map_cons, List.map_nil, List.length_cons, List.length_nil, List.cons_append, List.nil_append, List.replicate_zero, List.replicate_succ, List.append_nil, List.getElem?_cons_zero, List.getElem?_cons_succ, List.set_cons_zero, List.set_cons_succ, Option.some.injEq, exists_eq_left', exists_eq_left, exists_eq', D.int.injEq, D.bl.injEq, D.tup.injEq, D.lst.injEq, D.pair.injEq, D.ref.injEq, List.cons.injEq, Nat.sub_self, Nat.zero_add, Nat.add_sub_cancel, seqI_tup, seqI_lst, seqOf_tup, seqOf_lst, tyN_tup, tyN_lst, tyN_int, tyN_bl, tyN_str, tyN_non, isi_tt, at_0, at_1, at_2, at_3, Option.map_some, true_and, and_true, if_true, Bool.false_eq_true, if_false, Bool.not_true, Bool.not_false, ↓reduceIte, Nat.reduceAdd, Nat.reduceSub, exists_and_left, and_assoc]))
/-! the same attribute by other names: built step by step -/
structure RP (a : At) (k : Nat) (ss : List (List Nat)) (nm : List (List Nat)) : Prop where
  l1 : ss.length = k
  l2 : nm.length = k + 1
  id : nm.getD 0 [] = List.range a.n
  pm : ∀ l, l ≤ k → (nm.getD l []).Perm (List.range (a.sz l))
  st : ∀ l, l < k → Stp1 (a.sz l) (ss.getD l []) (a.sz (l + 1)) ∧ ∀ g, g < a.sz l → stepG (ss.getD l []) (stepG (nm.getD l []) g) = stepG (nm.getD (l + 1) []) (stepG (a.ss.getD l []) g)
theorem getD_snoc_lt {α : Type} {l : List α} {x d : α} {i : Nat} (h : i < l.length) : (l ++ [x]).getD i d = l.getD i d := by
  rw [List.getD_eq_getElem?_getD, List.getD_eq_getElem?_getD, List.getElem?_append_left h]
theorem getD_snoc_eq {α : Type} {l : List α} {x d : α} : (l ++ [x]).getD l.length d = x := by
  rw [List.getD_eq_getElem?_getD, List.getElem?_append_right (Nat.le_refl _), Nat.sub_self]; rfl
theorem RP.zero {a : At} : RP a 0 [] [List.range a.n] := ⟨rfl, rfl, rfl, fun l hl => by
  obtain rfl : l = 0 := by omega
  exact List.Perm.refl _, fun l hl => by omega⟩
theorem RP.next {a : At} {k : Nat} {ss nm : List (List Nat)} {q row : List Nat} (h : RP a k ss nm) (ha : a.V) (hk : k < a.ss.length) (hq : q.Perm (List.range (a.sz (k + 1)))) (hrl : row.length = a.sz k)
    (hr : ∀ g, g < a.sz k → stepG row (stepG (nm.getD k []) g) = stepG q (stepG (a.ss.getD k []) g)) : RP a (k + 1) (ss ++ [row]) (nm ++ [q]) := by
  obtain ⟨h1, h2, h3, h4, h5⟩ := h
  have hS := ha.step hk
  have e1 : (nm ++ [q]).getD (k + 1) [] = q := by rw [← h2]; exact getD_snoc_eq
  have e2 : (ss ++ [row]).getD k [] = row := by rw [← h1]; exact getD_snoc_eq
  refine ⟨by rw [List.length_append, h1]; rfl, by rw [List.length_append, h2]; rfl, by rw [getD_snoc_lt (by omega)]; exact h3, fun l hl => ?_, fun l hl => ?_⟩
  · by_cases e : l = k + 1
    · rw [e, e1]; exact hq
    · rw [getD_snoc_lt (by omega)]; exact h4 l (by omega)
  · by_cases e : l = k
    · subst e
      rw [e1, e2, getD_snoc_lt (by omega)]
      refine ⟨⟨hrl, hS.2.1, fun x hx => ?_, fun y hy => ?_⟩, hr⟩
      · obtain ⟨i, hi, e⟩ := List.mem_iff_getElem.mp hx
        obtain ⟨g, hg, e3⟩ := perm_onto (h4 l (Nat.le_refl _)) (y := i) (by omega)
        have := hr g hg
        rw [e3, stepG_get hi, e] at this
        rw [this]
        exact perm_step hq (ha.lt hk hg)
      · obtain ⟨g1, hg1, e3⟩ := perm_onto hq hy
        obtain ⟨g, hg, e4⟩ := ha.surj hk hg1
        have := hr g hg
        have hp := perm_step (h4 l (Nat.le_refl _)) hg
        rw [e4, e3, stepG_get (by omega)] at this
        rw [← this]; exact List.getElem_mem _
    · rw [getD_snoc_lt (by omega), getD_snoc_lt (by omega), getD_snoc_lt (by omega)]
      exact h5 l (by omega)
/-- the row so far -/
def RowI (p q st : List Nat) (i : Nat) (row : List Nat) : Prop := row.length = p.length ∧ ∀ g, g < i → stepG row (stepG p g) = stepG q (stepG st g)
theorem RowI.next {p q st row : List Nat} {n i : Nat} (hp : p.Perm (List.range n)) (h : RowI p q st i row) (hi : i < n) : RowI p q st (i + 1) (row.set (stepG p i) (stepG q (stepG st i))) := by
  obtain ⟨h1, h2⟩ := h
  have hl := (perm_lt hp).1
  refine ⟨by rw [List.length_set]; exact h1, fun g hg => ?_⟩
  have hs := perm_step hp (g := g) (by omega)
  have hl2 : stepG p g < (row.set (stepG p i) (stepG q (stepG st i))).length := by rw [List.length_set]; omega
  rw [stepG_get hl2, List.getElem_set]
  by_cases e : g = i
  · rw [if_pos (by rw [e]), e]
  · rw [if_neg fun z => e (perm_inj hp (by omega) hi z.symm), ← stepG_get]
    exact h2 g (by omega)
end Mn

set_option linter.all false
set_option maxHeartbeats 4000000
set_option autoImplicit false
set_option maxRecDepth 100000
namespace Mn
open PySem L2
variable [Tbs]
local macro_rules | `(tactic| walk_at "d") => `(tactic| (try simp only [xNext, xSeq, xAsg, xRet, xRetF, xDrop, xIf, xPar, xPar3, xMatch, mGo, xFrz, xPut, xAug, xFor, dVar, dC, dOp, dTest, dChain, dAndV, dOrV, dNotV, dAnd, dOr, dNot, dIf, dNil, dCons, dTup, dLst, dLstM, dCB, dIsi, dLc, dLcM, dYes, wipeD, dSlice, oSome, oNone, aSl_tup, aSl_lst, dNeg, dStar, dNewD, dTupVals, dSortSet, dDc, dStep, dIndexTD, dCountL, dExtend, dAppend, dFrz, dLc2, dCountT, dIndexT, sqf_tup, sqf_lst, sqf_pair, sSeq, sSeq_tup, sSeq_lst, sRg1, sRg2, sZip2, sZip3, sZip4, sEnum, gV, gN, gC, gT, tupOf_tup, tupOf_pair, aAdd_int, aAdd_tup, aAdd_lst, aSub_int, aMul_int, aDiv_int, aMod_int, aPow_int, aCmp_int, aIx_tup, aIx_lst, aIx_scr, aIx_pair, aMax_int, aMin_int, aInt_bl, aInt_int, aLen_tup, aLen_lst, aLen_scr, aLen_pair, aTuple_lst, aTuple_tup, aIsB_bl, aNotB_bl, aEq_int, aNe_int, startD, List.map_cons, List.map_nil, List.length_cons, List.length_nil, List.cons_append, List.nil_append, List.replicate_zero, List.replicate_succ, List.append_nil, List.getElem?_cons_zero, List.getElem?_cons_succ, List.set_cons_zero, List.set_cons_succ, Option.some.injEq, exists_eq_left', exists_eq_left, exists_eq', D.int.injEq, D.bl.injEq, D.tup.injEq, D.lst.injEq, D.pair.injEq, D.ref.injEq, List.cons.injEq, Nat.sub_self, Nat.zero_add, Nat.add_sub_cancel, seqI_tup, seqI_lst, seqOf_tup, seqOf_lst, tyN_tup, tyN_lst, tyN_int, tyN_bl, tyN_str, tyN_non, isi_tt, at_0, at_1, at_2, at_3, Option.map_some, true_and, and_true, if_true, Bool.false_eq_true, if_false, Bool.not_true, Bool.not_false, ↓reduceIte, Nat.reduceAdd, Nat.reduceSub, exists_and_left, and_assoc]))
/-! data compared with itself -/
theorem eqv_self {d : D} {k : Nat} (h : Cm d k) (m : Mu) : PyData.eqv (pyM d m) (pyM d m) = true := by
  rw [(pyM_of h.1 m).1]
  exact PySem.SeqAt.eqv_refl _ h.2.1
theorem aNe_self {d : D} {k : Nat} {m : Mu} {Q : DK} (h : Cm d k) (hk : k ≤ 64) (hn : ∀ x, d ≠ .str x) (q : Q (.bl false) m) : aNe d d m Q := by
  have e := eqv_self h m
  have o := h.ok hk m
  cases d with
  | str x => exact absurd rfl (hn x)
  | _ =>
    refine ⟨o, o, ?_⟩
    rw [e]; exact q
theorem aEq_self {d : D} {k : Nat} {m : Mu} {Q : DK} (h : Cm d k) (hk : k ≤ 64) (hn : ∀ x, d ≠ .str x) (q : Q (.bl true) m) : aEq d d m Q := by
  have e := eqv_self h m
  have o := h.ok hk m
  cases d with
  | str x => exact absurd rfl (hn x)
  | _ =>
    refine ⟨o, o, ?_⟩
    rw [e]; exact q
end Mn

set_option linter.all false
set_option maxHeartbeats 4000000
set_option autoImplicit false
set_option maxRecDepth 100000
namespace Mn
open PySem L2
variable [Tbs]
local macro_rules | `(tactic| walk_at "d") => `(tactic| (try simp only [xNext, xSeq, xAsg, xRet, xRetF, xDrop, xIf, xPar, xPar3, xMatch, mGo, xFrz, xPut, xAug, xFor, dVar, dC, dOp, dTest, dChain, dAndV, dOrV, dNotV, dAnd, dOr, dNot, dIf, dNil, dCons, dTup, dLst, dLstM, dCB, dIsi, dLc, dLcM, dYes, wipeD, dSlice, oSome, oNone, aSl_tup, aSl_lst, dNeg, dStar, dNewD, dTupVals, dSortSet, dDictZ, sKeys, dDc, dStep, dIndexTD, dCountL, dExtend, dAppend, dFrz, dLc2, dCountT, dIndexT, sqf_tup, sqf_lst, sqf_pair, sSeq, sSeq_tup, sSeq_lst, sRg1, sRg2, sZip2, sZip3, sZip4, sEnum, gV, gN, gC, gT, tupOf_tup, tupOf_pair, aAdd_int, aAdd_tup, aAdd_lst, aSub_int, aMul_int, aDiv_int, aMod_int, aPow_int, aCmp_int, aIx_tup, aIx_lst, aIx_scr, aIx_pair, aMax_int, aMin_int, aInt_bl, aInt_int, aLen_tup, aLen_lst, aLen_scr, aLen_pair, aTuple_lst, aTuple_tup, aIsB_bl, aNotB_bl, aEq_int, aNe_int, startD, List.map_cons, List.map_nil, List.length_cons, List.length_nil, List.cons_append, List.nil_append, List.replicate_zero, List.replicate_succ, List.append_nil, List.getElem?_cons_zero, List.getElem?_cons_succ, List.set_cons_zero, List.set_cons_succ, Option.some.injEq, exists_eq_left', exists_eq_left, exists_eq', D.int.injEq, D.bl.injEq, D.tup.injEq, D.lst.injEq, D.pair.injEq, D.ref.injEq, List.cons.injEq, Nat.sub_self, Nat.zero_add, Nat.add_sub_cancel, seqI_tup, seqI_lst, seqOf_tup, seqOf_lst, tyN_tup, tyN_lst, tyN_int, tyN_bl, tyN_str, tyN_non, isi_tt, at_0, at_1, at_2, at_3, Option.map_some, true_and, and_true, if_true, Bool.false_eq_true, if_false, Bool.not_true, Bool.not_false, ↓reduceIte, Nat.reduceAdd, Nat.reduceSub, exists_and_left, and_assoc]))
namespace B
/-! sums of a table, added up by places -/
/-! a drawn table -/
def s_law_table : DSp := fun ds m Q => ∃ (p : Addr) (s : Sch) (k n : Nat), ds = [.ref p, encS s, nD k] ∧ SchV s ∧ k ≤ 1000 ∧ Pen m p n ∧ n ≤ 900000000 ∧ ∀ xs m', Tab s xs → (∀ x ∈ xs, -(k : Int) ≤ x ∧ x ≤ k) → PenU m p (n + 60) m' → Q (iD xs) m'
theorem l_law_table : ∀ ds m Q, s_law_table ds m Q → ds.length = 3 := by rintro ds m Q ⟨p, s, k, n, rfl, _⟩; rfl
def t_law_table : DS := (xSeq (xAsg (dLstM dNil) (gV 3))
  (xSeq (xFor (sSeq (dCB s_law_cells (dCons (dVar 1) (dCons (dOp aMulA (dTup (dCons (dC (.int 0)) dNil)) (dCB aLen (dCons (dVar 1) dNil))) dNil)))) (gV 4) (xDrop (dAppend (dVar 3) (dOp aSub (dCB s_law_draw (dCons (dVar 0) (dCons (dOp aAdd (dOp aMulA (dC (.int 2)) (dVar 2)) (dC (.int 1))) dNil))) (dVar 2)))))
  (xRet (dCB aTuple (dCons (dVar 3) dNil)))))
/-- a supply, and a list that is filled -/
def FilI (m0 : Mu) (p p2 : Addr) (n : Nat) (ds : List D) (m' : Mu) : Prop := Pen m' p n ∧ m' p2 = some (.lst ds) ∧ ∀ b, b ≠ p → b ≠ p2 → m' b = m0 b
theorem FilI.draw {m0 : Mu} {p p2 : Addr} {n k : Nat} {ds : List D} {m1 m2 : Mu} (h : FilI m0 p p2 n ds m1) (ne : p2 ≠ p) (hu : PenU m1 p k m2) : FilI m0 p p2 k ds m2 :=
  ⟨hu.pen, by rw [hu.other ne]; exact h.2.1, fun b h1 h2 => by rw [hu.other h1]; exact h.2.2 b h1 h2⟩
theorem _root_.Mn.Pen.mono' {m : Mu} {p : Addr} {n k : Nat} (h : Pen m p n) (hk : n ≤ k) : Pen m p k := by
  obtain ⟨a, b, c, e, h1, h2, h3, h4, h5⟩ := h
  exact ⟨a, b, c, e, h1, h2, h3, h4, by omega⟩
theorem _root_.Mn.Pen.up {m : Mu} {p p2 : Addr} {n : Nat} {o : MO} (h : Pen m p n) (ne : p2 ≠ p) : Pen (up m p2 o) p n := by
  obtain ⟨a, b, c, e, h1⟩ := h
  exact ⟨a, b, c, by rw [up_ne ne.symm]; exact e, h1⟩
theorem _root_.Mn.Pen.ne {m : Mu} {p p2 : Addr} {n : Nat} (h : Pen m p n) (h2 : m p2 = none) : p2 ≠ p := by
  rintro rfl
  obtain ⟨a, b, c, e, _⟩ := h
  rw [h2] at e; cases e
theorem FilI.new {m : Mu} {p p2 : Addr} {n : Nat} (h : Pen m p n) (h2 : m p2 = none) : FilI m p p2 n [] (up m p2 (.lst [])) :=
  ⟨h.up (h.ne h2), up_same, fun b _ e => up_ne e⟩
theorem FilI.put {m0 : Mu} {p p2 : Addr} {n k : Nat} {ds : List D} {m1 : Mu} {d : D} (h : FilI m0 p p2 n ds m1) (ne : p2 ≠ p) (hk : n ≤ k) : FilI m0 p p2 k (ds ++ [d]) (up m1 p2 (.lst (ds ++ [d]))) :=
  ⟨(h.1.mono' hk).up ne, up_same, fun b h1 h2 => by rw [up_ne h2]; exact h.2.2 b h1 h2⟩
/-- the end: the list is let go -/
theorem FilI.done {m m1 : Mu} {p p2 : Addr} {n : Nat} {ds : List D} {Q : DK} {d : D} (h : FilI m p p2 n ds m1) (hp2 : m p2 = none) (q : ∀ m', PenU m p n m' → Q d m') : (endD m Q).rt d m1 := by
  obtain ⟨⟨a, b, c, ep, hh⟩, e2, hfr⟩ := h
  refine end_rtL (m2 := up m p (.lst [.int a, .int b, .int c])) (fun x o e => ?_) (q _ ⟨a, b, c, rfl, hh⟩)
  by_cases hxp : x = p
  · subst hxp
    rw [up_same] at e
    rw [ep]; exact e
  · rw [up_ne hxp] at e
    have x2 : x ≠ p2 := by rintro rfl; rw [hp2] at e; cases e
    rw [hfr x hxp x2]; exact e
theorem v_law_table : Body 5 t_law_table s_law_table := by
  rintro ds m Q ⟨p, s, k, n, rfl, hs, hk, hp, hn, q⟩
  have h60 := szs_prod hs (fin_roll s)
  have h1 := hs.1; have h3 := hs.2.1
  have e0 : encS s = .tup (s.map At.enc) := rfl
  unfold t_law_table
  walk_at "d"
  refine ⟨by decide, fun p2 hp2 => ?_⟩
  have ne := hp.ne hp2
  simp only [e0]
  walk_at "d"
  rw [List.length_map]
  refine ⟨by decide, by simp, by simp, by omega, by omega, ?_⟩
  rw [Int.toNat_natCast, rep_tD]
  refine ⟨s, finN s, rfl, hs, fin_roll s, _, .inl rfl, ?_⟩
  refine forGo_take (enc := tD) (fun pre rr m' => (∃ x4, rr = [some (.ref p), some (.tup (s.map At.enc)), some (nD k), some (.ref p2), x4]) ∧ ∃ xs : List Int, xs.length = pre.length ∧ (∀ x ∈ xs, -(k : Int) ≤ x ∧ x ≤ k) ∧ FilI m p p2 (n + pre.length) (xs.map D.int) m') (cellsOf s (finN s)) [] _ _ _ rfl ⟨⟨_, rfl⟩, [], rfl, (fun x hx => nomatch hx), FilI.new hp hp2⟩ ?_ ?_
  · rintro pre c post rr m' P e ⟨⟨x4, rfl⟩, xs, hx, hb, hI⟩ hP
    have hl : pre.length < 60 := by
      have := cells_small hs (fin_roll s)
      rw [e, List.length_append, List.length_cons] at this; omega
    unfold nD
    walk_at "d"
    refine ⟨_, hI.2.1, .inl ⟨by decide, by decide⟩, ?_⟩
    refine ⟨p, 2 * k + 1, _, by unfold nD; congr 3, hI.1, by omega, by omega, by omega, fun r m2 hr hu => ?_⟩
    have hI2 := hI.draw ne hu
    unfold nD
    walk_at "d"
    refine ⟨_, hI2.2.1, small' (k := 1000) (by rw [List.length_map]; omega), hP _ _ ⟨⟨_, rfl⟩, xs ++ [(r : Int) - k], ?_, ?_, ?_⟩⟩
    · rw [List.length_append, List.length_append, hx]; rfl
    · intro y hy
      rcases List.mem_append.mp hy with hy | hy
      · exact hb y hy
      · rw [List.mem_singleton] at hy; subst hy; omega
    · rw [List.map_append]
      refine hI2.put ne ?_
      rw [List.length_append, List.length_singleton]; omega
  · rintro rr m' ⟨⟨x4, rfl⟩, xs, hx, hb, hI⟩
    walk_at "d"
    simp only [aTuple_ref hI.2.1]
    have hlen : (cellsOf s (finN s)).length = prodN (szs s (finN s)) := cellsN_len _
    refine hI.done hp2 fun m2 hu => q xs m2 (by unfold Tab; omega) hb (hu.mono (by omega))
/-! a drawn report of a table -/
def Rof (s : Sch) (xs : List Int) (ps : List Pc) : Prop := ∀ p ∈ ps, Roll s p.1 ∧ p.2 = rolN s (finN s) xs p.1
theorem rol_len {s : Sch} {r : List Nat} {xs : List Int} {o : List Nat} : (rolN s r xs o).length = prodN (szs s o) := by
  unfold rolN; rw [List.length_map]; exact cellsN_len _
theorem Rof.v {s : Sch} {xs : List Int} {ps : List Pc} (h : Rof s xs ps) (hl : ps.length ≤ 6) : RpV s ps := ⟨hl, fun p hp => ⟨(h p hp).1, by rw [(h p hp).2]; exact rol_len⟩⟩
/-! a table with given sums at a rollup -/
def fstI (l : List (List Nat)) (c : List Nat) : Nat := l.findIdx fun x => decide (x = c)
theorem fstI_lt {l : List (List Nat)} {c : List Nat} (h : c ∈ l) : fstI l c < l.length := List.findIdx_lt_length_of_exists ⟨c, h, decide_eq_true rfl⟩
theorem fstI_get {l : List (List Nat)} {c : List Nat} (h : c ∈ l) : l[fstI l c]? = some c := by
  have hlt := fstI_lt h
  rw [List.getElem?_eq_getElem hlt]
  have := List.findIdx_getElem (p := fun x => decide (x = c)) (xs := l) (w := hlt)
  congr 1
  exact of_decide_eq_true this
theorem fstI_nd {l : List (List Nat)} {c : List Nat} {j : Nat} (nd : l.Nodup) (h : l[j]? = some c) : fstI l c = j := by
  have hm := List.mem_of_getElem? h
  have h1 := fstI_get hm
  have hl1 := fstI_lt hm
  have hl2 := (List.getElem?_eq_some_iff.mp h).1
  rw [← h] at h1
  exact (List.getElem?_inj hl1 nd).mp h1
/-- xs.index(c), with the place named -/
theorem index_is {cs : List (List Nat)} {c : List Nat} (m : Mu) (hc : c ∈ cs) :
    lst1 (.lst (cs.map tD)) m = some (cs.map tD) ∧ okD (.lst (cs.map tD)) m ∧ okD (tD c) m ∧ (cs.map tD)[fstI cs c]? = some (tD c) ∧ PyData.eqv (py (tD c)) (pyM (tD c) m) = true ∧ (∀ i z', i < fstI cs c → (cs.map tD)[i]? = some z' → PyData.eqv (py z') (pyM (tD c) m) = false) := by
  have e : ∀ x : List Nat, PyData.eqv (py (tD x)) (pyM (tD c) m) = decide (x = c) := fun x => eqv_tD x c m
  refine ⟨rfl, ?_, ?_, by rw [List.getElem?_map, fstI_get hc]; rfl, by rw [e]; exact decide_eq_true rfl, fun i z' hi hz => ?_⟩
  · exact (cm_lst (k := 1) fun d hd => by obtain ⟨k, hk, rfl⟩ := List.mem_map.mp hd; exact cm_tD k).ok (by decide) m
  · exact (cm_tD c).ok (by decide) m
  · rw [List.getElem?_map] at hz
    obtain ⟨x, hx, rfl⟩ := Option.map_eq_some_iff.mp hz
    rw [e]
    have := List.not_of_lt_findIdx hi
    have hl := fstI_lt hc
    rw [List.getElem?_eq_getElem (by omega)] at hx
    cases hx
    simpa using this
/-! a report with some sums otherwise -/
end B
end Mn

set_option linter.all false
set_option maxHeartbeats 4000000
set_option autoImplicit false
set_option maxRecDepth 100000
namespace Mn
open PySem L2
variable [Tbs]
local macro_rules | `(tactic| walk_at "d") => `(tactic| (try simp only [xNext, xSeq, xAsg, xRet, xRetF, xDrop, xIf, xPar, xPar3, xMatch, mGo, xFrz, xPut, xAug, xFor, dVar, dC, dOp, dTest, dChain, dAndV, dOrV, dNotV, dAnd, dOr, dNot, dIf, dNil, dCons, dTup, dLst, dLstM, dCB, dIsi, dLc, dLcM, dYes, wipeD, dSlice, oSome, oNone, aSl_tup, aSl_lst, dNeg, dStar, dNewD, dTupVals, dSortSet, dDictZ, sKeys, dFld, dMeth, dCallO, dGetC, dNewC, dDc, dStep, dIndexTD, dCountL, dExtend, dAppend, dFrz, dLc2, dCountT, dIndexT, sqf_tup, sqf_lst, sqf_pair, sSeq, sSeq_tup, sSeq_lst, sRg1, sRg2, sZip2, sZip3, sZip4, sEnum, gV, gN, gC, gT, tupOf_tup, tupOf_pair, aAdd_int, aAdd_tup, aAdd_lst, aSub_int, aMul_int, aDiv_int, aMod_int, aPow_int, aCmp_int, aIx_tup, aIx_lst, aIx_scr, aIx_pair, aMax_int, aMin_int, aInt_bl, aInt_int, aLen_tup, aLen_lst, aLen_scr, aLen_pair, aTuple_lst, aTuple_tup, aIsB_bl, aNotB_bl, aEq_int, aNe_int, startD, List.map_cons, List.map_nil, List.length_cons, List.length_nil, List.cons_append, List.nil_append, List.replicate_zero, List.replicate_succ, List.append_nil, List.getElem?_cons_zero, List.getElem?_cons_succ, List.set_cons_zero, List.set_cons_succ, Option.some.injEq, exists_eq_left', exists_eq_left, exists_eq', D.int.injEq, D.bl.injEq, D.tup.injEq, D.lst.injEq, D.pair.injEq, D.ref.injEq, List.cons.injEq, Nat.sub_self, Nat.zero_add, Nat.add_sub_cancel, seqI_tup, seqI_lst, seqOf_tup, seqOf_lst, tyN_tup, tyN_lst, tyN_int, tyN_bl, tyN_str, tyN_non, isi_tt, at_0, at_1, at_2, at_3, Option.map_some, true_and, and_true, if_true, Bool.false_eq_true, if_false, Bool.not_true, Bool.not_false, ↓reduceIte, Nat.reduceAdd, Nat.reduceSub, exists_and_left, and_assoc]))
/-! the table that is filled: the object -/
def kyP (q : List Nat × List Nat) : NestedKey := .tup [kyT q.1, kyT q.2]
def kdct (L : List (List Nat × List Nat)) (f : List Nat × List Nat → D) : List (NestedKey × D) := L.map fun q => (kyP q, f q)
theorem nodup_le {α : Type} [DecidableEq α] : ∀ {l k : List α}, l.Nodup → (∀ x ∈ l, x ∈ k) → l.length ≤ k.length
  | [], _, _, _ => Nat.zero_le _
  | a :: l, k, nd, h => by
    rw [List.nodup_cons] at nd
    have ha := h a List.mem_cons_self
    have := nodup_le (l := l) (k := k.erase a) nd.2 fun x hx => (List.mem_erase_of_ne (show x ≠ a from fun e => nd.1 (e ▸ hx))).mpr (h x (List.mem_cons_of_mem _ hx))
    rw [List.length_erase_of_mem ha] at this
    have hp : 0 < k.length := List.length_pos_of_mem ha
    rw [List.length_cons]
    omega
def tellD (s : Sch) (ps : List Pc) (r : List Nat) : D := match ps.find? fun p => fineB p.1 r with
  | some p => smsD s p r
  | none => .dct [] []
def fFl (s : Sch) (ps : List Pc) (pt pk : Addr) : List (Str × D) := [("plan", encS s), ("pieces", rpD ps), ("told", .ref pt), ("known", .ref pk)]
abbrev wFl : Str := "Filling"
structure FilS (s : Sch) (ps : List Pc) (m : Mu) (p dx pt pk : Addr) : Prop where
  ob : m p = some (.ins wFl dx (fFl s ps pt pk))
  ne : pt ≠ pk
  T : ∃ T : List (List Nat), T.Nodup ∧ (∀ r ∈ T, Roll s r) ∧ m pt = some (.dN (dct T (tellD s ps)))
  L : ∃ L : List (List Nat × List Nat), L.Nodup ∧ (∀ q ∈ L, Roll s q.1 ∧ Cell s q.1 q.2) ∧ m pk = some (.dN (kdct L fun q => .int (FF s ps q.1 q.2)))
def FilU (m m' : Mu) (pt pk : Addr) : Prop := ∀ b, b ≠ pt → b ≠ pk → m' b = m b
theorem FilU.refl {m : Mu} {pt pk : Addr} : FilU m m pt pk := fun _ _ _ => rfl
theorem FilU.trans {m m1 m2 : Mu} {pt pk : Addr} (a : FilU m m1 pt pk) (b : FilU m1 m2 pt pk) : FilU m m2 pt pk := fun c h1 h2 => by rw [b c h1 h2, a c h1 h2]
theorem FilS.pt {s : Sch} {ps : List Pc} {m : Mu} {p dx pt pk : Addr} (h : FilS s ps m p dx pt pk) : p ≠ pt := fun e => by
  obtain ⟨T, _, _, z⟩ := h.T
  rw [← e, h.ob] at z; cases z
theorem FilS.pk {s : Sch} {ps : List Pc} {m : Mu} {p dx pt pk : Addr} (h : FilS s ps m p dx pt pk) : p ≠ pk := fun e => by
  obtain ⟨T, _, _, z⟩ := h.L
  rw [← e, h.ob] at z; cases z
theorem FilS.told {s : Sch} {ps : List Pc} {m : Mu} {p dx pt pk : Addr} {T : List (List Nat)} (h : FilS s ps m p dx pt pk) (nd : T.Nodup) (hr : ∀ r ∈ T, Roll s r) : FilS s ps (up m pt (.dN (dct T (tellD s ps)))) p dx pt pk ∧ FilU m (up m pt (.dN (dct T (tellD s ps)))) pt pk := by
  refine ⟨⟨by rw [up_ne h.pt]; exact h.ob, h.ne, ⟨T, nd, hr, up_same⟩, ?_⟩, fun b h1 _ => up_ne h1⟩
  obtain ⟨L, l1, l2, l3⟩ := h.L
  exact ⟨L, l1, l2, by rw [up_ne h.ne.symm]; exact l3⟩
theorem FilS.known {s : Sch} {ps : List Pc} {m : Mu} {p dx pt pk : Addr} {L : List (List Nat × List Nat)} (h : FilS s ps m p dx pt pk) (nd : L.Nodup) (hr : ∀ q ∈ L, Roll s q.1 ∧ Cell s q.1 q.2) : FilS s ps (up m pk (.dN (kdct L fun q => .int (FF s ps q.1 q.2)))) p dx pt pk ∧ FilU m (up m pk (.dN (kdct L fun q => .int (FF s ps q.1 q.2)))) pt pk := by
  refine ⟨⟨by rw [up_ne h.pk]; exact h.ob, h.ne, ?_, ⟨L, nd, hr, up_same⟩⟩, fun b _ h2 => up_ne h2⟩
  obtain ⟨T, l1, l2, l3⟩ := h.T
  exact ⟨T, l1, l2, by rw [up_ne h.ne]; exact l3⟩
/-! the sum that the report tells -/
/-! the first place -/
/-! the sum at a cell, by levels -/
/-! the call -/
/-! a new one -/
/-! the table -/
/-! fill -/
end Mn

set_option linter.all false
set_option maxHeartbeats 4000000
set_option autoImplicit false
set_option maxRecDepth 100000
namespace Mn
open PySem L2
variable [Tbs]
local macro_rules | `(tactic| walk_at "d") => `(tactic| (try simp only [xNext, xSeq, xAsg, xRet, xRetF, xDrop, xIf, xPar, xPar3, xMatch, mGo, xFrz, xPut, xAug, xFor, dVar, dC, dOp, dTest, dChain, dAndV, dOrV, dNotV, dAnd, dOr, dNot, dIf, dNil, dCons, dTup, dLst, dLstM, dCB, dIsi, dLc, dLcM, dYes, wipeD, dSlice, oSome, oNone, aSl_tup, aSl_lst, dNeg, dStar, dNewD, dTupVals, dSortSet, dDictZ, sKeys, dFld, dMeth, dCallO, dGetC, dNewC, dDc, dStep, dIndexTD, dCountL, dExtend, dAppend, dFrz, dLc2, dCountT, dIndexT, sqf_tup, sqf_lst, sqf_pair, sSeq, sSeq_tup, sSeq_lst, sRg1, sRg2, sZip2, sZip3, sZip4, sEnum, gV, gN, gC, gT, tupOf_tup, tupOf_pair, aAdd_int, aAdd_tup, aAdd_lst, aSub_int, aMul_int, aDiv_int, aMod_int, aPow_int, aCmp_int, aIx_tup, aIx_lst, aIx_scr, aIx_pair, aMax_int, aMin_int, aInt_bl, aInt_int, aLen_tup, aLen_lst, aLen_scr, aLen_pair, aTuple_lst, aTuple_tup, aIsB_bl, aNotB_bl, aEq_int, aNe_int, startD, List.map_cons, List.map_nil, List.length_cons, List.length_nil, List.cons_append, List.nil_append, List.replicate_zero, List.replicate_succ, List.append_nil, List.getElem?_cons_zero, List.getElem?_cons_succ, List.set_cons_zero, List.set_cons_succ, Option.some.injEq, exists_eq_left', exists_eq_left, exists_eq', D.int.injEq, D.bl.injEq, D.tup.injEq, D.lst.injEq, D.pair.injEq, D.ref.injEq, List.cons.injEq, Nat.sub_self, Nat.zero_add, Nat.add_sub_cancel, seqI_tup, seqI_lst, seqOf_tup, seqOf_lst, tyN_tup, tyN_lst, tyN_int, tyN_bl, tyN_str, tyN_non, isi_tt, at_0, at_1, at_2, at_3, Option.map_some, true_and, and_true, if_true, Bool.false_eq_true, if_false, Bool.not_true, Bool.not_false, ↓reduceIte, Nat.reduceAdd, Nat.reduceSub, exists_and_left, and_assoc]))
/-! the table that is filled: sums -/
/-! pieces that agree -/
/-- two pieces agree above both -/
def Agr (s : Sch) (p q : Pc) : Prop := ∀ o, Roll s o → fineB p.1 o = true → fineB q.1 o = true → rolN s p.1 p.2 o = rolN s q.1 q.2 o
theorem Agr.symm {s : Sch} {p q : Pc} (h : Agr s p q) : Agr s q p := fun o ho h1 h2 => (h o ho h2 h1).symm
end Mn

set_option linter.all false
set_option maxHeartbeats 4000000
set_option autoImplicit false
set_option maxRecDepth 100000
namespace Mn
open PySem L2
variable [Tbs]
local macro_rules | `(tactic| walk_at "d") => `(tactic| (try simp only [xNext, xSeq, xAsg, xRet, xRetF, xDrop, xIf, xPar, xPar3, xMatch, mGo, xFrz, xPut, xAug, xFor, dVar, dC, dOp, dTest, dChain, dAndV, dOrV, dNotV, dAnd, dOr, dNot, dIf, dNil, dCons, dTup, dLst, dLstM, dCB, dIsi, dLc, dLcM, dYes, wipeD, dSlice, oSome, oNone, aSl_tup, aSl_lst, dNeg, dStar, dNewD, dTupVals, dSortSet, dDictZ, sKeys, dDc, dStep, dIndexTD, dCountL, dExtend, dAppend, dFrz, dLc2, dCountT, dIndexT, sqf_tup, sqf_lst, sqf_pair, sSeq, sSeq_tup, sSeq_lst, sRg1, sRg2, sZip2, sZip3, sZip4, sEnum, gV, gN, gC, gT, tupOf_tup, tupOf_pair, aAdd_int, aAdd_tup, aAdd_lst, aSub_int, aMul_int, aDiv_int, aMod_int, aPow_int, aCmp_int, aIx_tup, aIx_lst, aIx_scr, aIx_pair, aMax_int, aMin_int, aInt_bl, aInt_int, aLen_tup, aLen_lst, aLen_scr, aLen_pair, aTuple_lst, aTuple_tup, aIsB_bl, aNotB_bl, aEq_int, aNe_int, startD, List.map_cons, List.map_nil, List.length_cons, List.length_nil, List.cons_append, List.nil_append, List.replicate_zero, List.replicate_succ, List.append_nil, List.getElem?_cons_zero, List.getElem?_cons_succ, List.set_cons_zero, List.set_cons_succ, Option.some.injEq, exists_eq_left', exists_eq_left, exists_eq', D.int.injEq, D.bl.injEq, D.tup.injEq, D.lst.injEq, D.pair.injEq, D.ref.injEq, List.cons.injEq, Nat.sub_self, Nat.zero_add, Nat.add_sub_cancel, seqI_tup, seqI_lst, seqOf_tup, seqOf_lst, tyN_tup, tyN_lst, tyN_int, tyN_bl, tyN_str, tyN_non, isi_tt, at_0, at_1, at_2, at_3, Option.map_some, true_and, and_true, if_true, Bool.false_eq_true, if_false, Bool.not_true, Bool.not_false, ↓reduceIte, Nat.reduceAdd, Nat.reduceSub, exists_and_left, and_assoc]))
namespace B
end B
end Mn

set_option linter.all false
set_option maxHeartbeats 4000000
set_option autoImplicit false
set_option maxRecDepth 100000
namespace Mn
open PySem L2
variable [Tbs]
local macro_rules | `(tactic| walk_at "d") => `(tactic| (try simp only [xNext, xSeq, xAsg, xRet, xRetF, xDrop, xIf, xPar, xPar3, xMatch, mGo, xFrz, xPut, xAug, xFor, dVar, dC, dOp, dTest, dChain, dAndV, dOrV, dNotV, dAnd, dOr, dNot, dIf, dNil, dCons, dTup, dLst, dLstM, dCB, dIsi, dLc, dLcM, dYes, wipeD, dSlice, oSome, oNone, aSl_tup, aSl_lst, dNeg, dStar, dNewD, dTupVals, dSortSet, dDictZ, sKeys, dFld, dMeth, dCallO, dGetC, dNewC, dDc, dStep, dIndexTD, dCountL, dExtend, dAppend, dFrz, dLc2, dCountT, dIndexT, sqf_tup, sqf_lst, sqf_pair, sSeq, sSeq_tup, sSeq_lst, sRg1, sRg2, sZip2, sZip3, sZip4, sEnum, gV, gN, gC, gT, tupOf_tup, tupOf_pair, aAdd_int, aAdd_tup, aAdd_lst, aSub_int, aMul_int, aDiv_int, aMod_int, aPow_int, aCmp_int, aIx_tup, aIx_lst, aIx_scr, aIx_pair, aMax_int, aMin_int, aInt_bl, aInt_int, aLen_tup, aLen_lst, aLen_scr, aLen_pair, aTuple_lst, aTuple_tup, aIsB_bl, aNotB_bl, aEq_int, aNe_int, startD, List.map_cons, List.map_nil, List.length_cons, List.length_nil, List.cons_append, List.nil_append, List.replicate_zero, List.replicate_succ, List.append_nil, List.getElem?_cons_zero, List.getElem?_cons_succ, List.set_cons_zero, List.set_cons_succ, Option.some.injEq, exists_eq_left', exists_eq_left, exists_eq', D.int.injEq, D.bl.injEq, D.tup.injEq, D.lst.injEq, D.pair.injEq, D.ref.injEq, List.cons.injEq, Nat.sub_self, Nat.zero_add, Nat.add_sub_cancel, seqI_tup, seqI_lst, seqOf_tup, seqOf_lst, tyN_tup, tyN_lst, tyN_int, tyN_bl, tyN_str, tyN_non, isi_tt, at_0, at_1, at_2, at_3, Option.map_some, true_and, and_true, if_true, Bool.false_eq_true, if_false, Bool.not_true, Bool.not_false, ↓reduceIte, Nat.reduceAdd, Nat.reduceSub, exists_and_left, and_assoc]))
/-! how great the sums may become -/
theorem sum_abs {α : Type} {f : α → Int} {B : Nat} : ∀ {l : List α}, (∀ x ∈ l, (f x).natAbs ≤ B) → ((l.map f).sum).natAbs ≤ l.length * B
  | [], _ => Nat.zero_le _
  | a :: l, h => by
    have h1 := h a List.mem_cons_self
    have h2 := sum_abs (l := l) fun x hx => h x (List.mem_cons_of_mem _ hx)
    rw [List.map_cons, List.sum_cons, List.length_cons, Nat.add_mul, Nat.one_mul]
    omega
end Mn

set_option linter.all false
set_option maxHeartbeats 4000000
set_option autoImplicit false
set_option maxRecDepth 100000
namespace Mn
open PySem L2
variable [Tbs]
local macro_rules | `(tactic| walk_at "d") => `(tactic| (try simp only [xNext, xSeq, xAsg, xRet, xRetF, xDrop, xIf, xPar, xPar3, xMatch, mGo, xFrz, xPut, xAug, xFor, dVar, dC, dOp, dTest, dChain, dAndV, dOrV, dNotV, dAnd, dOr, dNot, dIf, dNil, dCons, dTup, dLst, dLstM, dCB, dIsi, dLc, dLcM, dYes, wipeD, dSlice, oSome, oNone, aSl_tup, aSl_lst, dNeg, dStar, dNewD, dTupVals, dSortSet, dDictZ, sKeys, dFld, dMeth, dCallO, dGetC, dNewC, dDc, dStep, dIndexTD, dCountL, dExtend, dAppend, dFrz, dLc2, dCountT, dIndexT, sqf_tup, sqf_lst, sqf_pair, sSeq, sSeq_tup, sSeq_lst, sRg1, sRg2, sZip2, sZip3, sZip4, sEnum, gV, gN, gC, gT, tupOf_tup, tupOf_pair, aAdd_int, aAdd_tup, aAdd_lst, aSub_int, aMul_int, aDiv_int, aMod_int, aPow_int, aCmp_int, aIx_tup, aIx_lst, aIx_scr, aIx_pair, aMax_int, aMin_int, aInt_bl, aInt_int, aLen_tup, aLen_lst, aLen_scr, aLen_pair, aTuple_lst, aTuple_tup, aIsB_bl, aNotB_bl, aEq_int, aNe_int, startD, List.map_cons, List.map_nil, List.length_cons, List.length_nil, List.cons_append, List.nil_append, List.replicate_zero, List.replicate_succ, List.append_nil, List.getElem?_cons_zero, List.getElem?_cons_succ, List.set_cons_zero, List.set_cons_succ, Option.some.injEq, exists_eq_left', exists_eq_left, exists_eq', D.int.injEq, D.bl.injEq, D.tup.injEq, D.lst.injEq, D.pair.injEq, D.ref.injEq, List.cons.injEq, Nat.sub_self, Nat.zero_add, Nat.add_sub_cancel, seqI_tup, seqI_lst, seqOf_tup, seqOf_lst, tyN_tup, tyN_lst, tyN_int, tyN_bl, tyN_str, tyN_non, isi_tt, at_0, at_1, at_2, at_3, Option.map_some, true_and, and_true, if_true, Bool.false_eq_true, if_false, Bool.not_true, Bool.not_false, ↓reduceIte, Nat.reduceAdd, Nat.reduceSub, exists_and_left, and_assoc]))
/-! values that show a filling -/
theorem isCell_ex {s : Sch} {r : List Nat} {d : D} (hr : Roll s r) (h : isCell s r d = true) : d = tD (natL d) ∧ Cell s r (natL d) := by
  cases d with
  | tup ds =>
    simp only [isCell, Bool.and_eq_true, decide_eq_true_eq] at h
    obtain ⟨hl, h⟩ := h
    have hz := List.all_eq_true.mp h
    have at_ : ∀ (i : Nat) (x : D) (k : Nat), ds[i]? = some x → (szs s r)[i]? = some k → betw x 0 ((k : Int) - 1) = true := fun i x k hx hk => by
      have : (List.zipWith (fun d (k : Nat) => betw d 0 ((k : Int) - 1)) ds (szs s r))[i]? = some (betw x 0 ((k : Int) - 1)) := by rw [List.getElem?_zipWith, hx, hk]
      exact hz _ (List.mem_of_getElem? this)
    have hsl := szs_len hr
    have key : ds = (natL (.tup ds)).map nD := by
      unfold natL
      rw [List.map_map]
      conv => lhs; rw [← List.map_id ds]
      refine List.map_congr_left fun x hx => ?_
      obtain ⟨i, hi⟩ := List.mem_iff_getElem?.mp hx
      have hil := (List.getElem?_eq_some_iff.mp hi).1
      obtain ⟨k, hk⟩ := get_ex (l := szs s r) (i := i) (by omega)
      exact betw_nat (at_ i x k hi hk)
    refine ⟨by unfold tD; rw [← key], ?_, fun i x k hx hk => ?_⟩
    · have := congrArg List.length key
      rw [List.length_map] at this
      omega
    · have h1 : ds[i]? = some (nD x) := by
        have := congrArg (·[i]?) key
        rw [this, List.getElem?_map, hx]; rfl
      have h2 := at_ i _ k h1 hk
      simp only [betw, nD, Bool.and_eq_true, decide_eq_true_eq] at h2
      omega
  | _ => simp [isCell] at h
/-! shows_fill -/
end Mn

set_option linter.all false
set_option maxHeartbeats 4000000
set_option autoImplicit false
set_option maxRecDepth 100000
namespace Mn
open PySem L2
variable [Tbs]
local macro_rules | `(tactic| walk_at "d") => `(tactic| (try simp only [xNext, xSeq, xAsg, xRet, xRetF, xDrop, xIf, xPar, xPar3, xMatch, mGo, xFrz, xPut, xAug, xFor, dVar, dC, dOp, dTest, dChain, dAndV, dOrV, dNotV, dAnd, dOr, dNot, dIf, dNil, dCons, dTup, dLst, dLstM, dCB, dIsi, dLc, dLcM, dYes, wipeD, dSlice, oSome, oNone, aSl_tup, aSl_lst, dNeg, dStar, dNewD, dTupVals, dSortSet, dDictZ, sKeys, dFld, dMeth, dCallO, dGetC, dNewC, dDc, dStep, dIndexTD, dCountL, dExtend, dAppend, dFrz, dLc2, dCountT, dIndexT, sqf_tup, sqf_lst, sqf_pair, sSeq, sSeq_tup, sSeq_lst, sRg1, sRg2, sZip2, sZip3, sZip4, sEnum, gV, gN, gC, gT, tupOf_tup, tupOf_pair, aAdd_int, aAdd_tup, aAdd_lst, aSub_int, aMul_int, aDiv_int, aMod_int, aPow_int, aCmp_int, aIx_tup, aIx_lst, aIx_scr, aIx_pair, aMax_int, aMin_int, aInt_bl, aInt_int, aLen_tup, aLen_lst, aLen_scr, aLen_pair, aTuple_lst, aTuple_tup, aIsB_bl, aNotB_bl, aEq_int, aNe_int, startD, List.map_cons, List.map_nil, List.length_cons, List.length_nil, List.cons_append, List.nil_append, List.replicate_zero, List.replicate_succ, List.append_nil, List.getElem?_cons_zero, List.getElem?_cons_succ, List.set_cons_zero, List.set_cons_succ, Option.some.injEq, exists_eq_left', exists_eq_left, exists_eq', D.int.injEq, D.bl.injEq, D.tup.injEq, D.lst.injEq, D.pair.injEq, D.ref.injEq, List.cons.injEq, Nat.sub_self, Nat.zero_add, Nat.add_sub_cancel, seqI_tup, seqI_lst, seqOf_tup, seqOf_lst, tyN_tup, tyN_lst, tyN_int, tyN_bl, tyN_str, tyN_non, isi_tt, at_0, at_1, at_2, at_3, Option.map_some, true_and, and_true, if_true, Bool.false_eq_true, if_false, Bool.not_true, Bool.not_false, ↓reduceIte, Nat.reduceAdd, Nat.reduceSub, exists_and_left, and_assoc]))
/-! clashes: plain -/
/-- what a clash tells -/
structure Cla (s : Sch) (ps : List Pc) (i j : Nat) (c : List Nat) (p q : Pc) : Prop where
  hp : ps[i]? = some p
  hq : ps[j]? = some q
  lt : i < j
  hd : (unlN s p q).head? = some c
  mem : c ∈ unlN s p q
  fst : ∀ (k : Nat) (o : Pc), k < i → ps[k]? = some o → unlN s o q = []
  snd : clN s (ps.take j) = none
end Mn

set_option Elab.async false
set_option linter.all false
set_option maxRecDepth 100000
set_option maxHeartbeats 4000000
set_option autoImplicit false
namespace Mn
open PySem PySem.Spec PyProof.Rows L2
variable [Tbs]
/-! xs.count(t) of a list of texts -/
section
variable {X : Cx}
def dCountS (to te : DT) : DT := fun r m Q => to r m fun o m1 => (lst1 o m1).isSome = true ∧ te r m1 fun d m2 => ∃ (zs : List Str) (z : Str), lst1 o m2 = some (zs.map D.str) ∧ d = .str z ∧ Q (.int (zs.count z : Nat)) m2
end
end Mn

set_option Elab.async false
set_option linter.all false
set_option maxRecDepth 100000
set_option maxHeartbeats 4000000
set_option autoImplicit false
namespace Mn
open PySem PySem.Spec PyProof.Rows L2 PySem.W
variable [Tbs]
/-! a, *b = xs; *b, a = xs -/
section
variable {X : Cx} {pins : List (Addr × Obj)} {σ : L2.St} {H : Hp} {s : Shared}
end
section
variable {X : Cx} {e1 e2 : Expr} {p pos : Pos} {k : Nat}
/-! over data -/
def xStR (te : DT) (i j : Nat) : DS := fun De r m => te r m fun d m1 => ∃ x xs, (d = .lst (x :: xs) ∨ d = .tup (x :: xs)) ∧ xs.length < sizeLine ∧ De.nx ((r.set i (some x)).set j (some (.lst xs))) m1
def xStL (te : DT) (j i : Nat) : DS := fun De r m => te r m fun d m1 => ∃ x xs, (d = .lst (xs ++ [x]) ∨ d = .tup (xs ++ [x])) ∧ xs.length < sizeLine ∧ De.nx ((r.set j (some (.lst xs))).set i (some x)) m1
variable {te : DT} {e : Expr} {i j : Nat} {y1 y2 : Str} {p1 p2 : Pos}
end
end Mn

set_option Elab.async false
set_option linter.all false
set_option maxRecDepth 100000
set_option maxHeartbeats 4000000
set_option autoImplicit false
namespace Mn
open PySem PySem.Spec PyProof.Rows L2
variable [Tbs]
/-! exceptions of own classes, over data -/
/-- what is known of an exception's class -/
structure ExcD (w : World) (K : PySem.W.Frag) (mg : Str → Option Value) (c : Str) : Prop where
  ex : ∃ C, mg c = some (.ref C) ∧ KF.cls ⟨K, w, Tbs.T⟩ c C ∧ PySem.W.excIn K C He.veBase "ValueError.__new__" = true ∧ PySem.W.keepIn K (.ref C) = true ∧ PySem.W.subIn K (.ref C) (.type "BaseException") = some true ∧ PySem.W.typeIn K (.ref C) = some (.type "type")
def xRaise (c : Str) : DS := fun De _ m => De.ex ⟨c, []⟩ m
section
variable {X : Cx}
theorem wx_of {W : WX} (tk : L2.Takes X W) {cls : Value} {d : Option Addr} {σ : L2.St} {H : Hp} (h : W cls d σ H) : X.wx cls d σ H := fun u s' ⟨a, B, sI, pins, σ', H', cls', d', e, I, nb, up, sky, na, os, ag, e1, e2, e3, e4⟩ => by
  subst e1 e2 e3 e4
  exact tk u s' ⟨a, B, sI, pins, _, _, _, _, e, I, nb, up, sky, na, os, ag, h⟩
theorem pds_raise {c msg : Str} {j : Nat} {p p2 pos' pos : Pos} (hc : X.calm = true) (hE : ExcD X.w X.K X.mg c) (hg : Gl X c)  (hdb : (c == ("__debug__" : Str)) = false := by decide) :
    PDS X (.Raise (some (.Call (.Name c p) [.Constant (.str msg) j p2] [] pos')) none pos) (xRaise c) := by
  obtain ⟨C, h1, h2, h3, h4, h5, h6⟩ := hE.ex
  exact psM (L2.ps_raise hc (takes_wx X) (L2.pmk_own PySem.F.excBase_ValueError h3 h1 h4 (raises_own h5 h6) hg hdb)) fun E s H ⟨G, r, m, De, hs, hr, q, w⟩ => w.ex _ _ _ _ _ _ _ _ Stp.refl hs hr ⟨C, rfl, h2, rfl, rfl⟩ q
end
/-! expressions that may raise -/
abbrev EK := XD → Mu → Prop
abbrev DTX := Ro → Mu → DK → EK → Prop
def WXX (K : KF) (G H : Hp) (m : Mu) (Ed : EK) (P : Value → Option Addr → Hp → Prop) : Prop := ∀ H' G' m' x cls d, Stp G H m G' H' m' → Rl K G' H' m' → RX K x cls d → Ed x m' → P cls d H'
theorem WXX.after {K : KF} {G H G1 H1 : Hp} {m m1 : Mu} {Ed : EK} {P : Value → Option Addr → Hp → Prop} (w : WXX K G H m Ed P) (s : Stp G H m G1 H1 m1) : WXX K G1 H1 m1 Ed P := fun H' G' m' x cls d a b c e => w H' G' m' x cls d (s.trans a) b c e
def lfX (K : KF) (xw : WX) (t : DTX) : TE := fun s H Qv => ∃ G r m Q Ed, RpS K G r s ∧ Rl K G H m ∧ t r m Q Ed ∧ WV K G H m Q Qv ∧ WXX K G H m Ed fun cls d H' => xw cls d s H'
def PDX (X : Cx) (e : Expr) (t : DTX) : Prop := PE X e (lfX X.kf X.wx t)
section
variable {X : Cx} {e : Expr} {te : DTX} {pos : Pos}
theorem WS.xx {K : KF} {xw : WX} {G H : Hp} {m : Mu} {De : DE} {E : Ends} {r : Ro} {s : L2.St} (w : WS K xw G H m De E) (hs : RpS K G r s) : WXX K G H m De.ex fun cls d H' => xw cls d s H' := fun H' G' m' x cls d st rl rx q => w.ex _ _ _ _ _ _ _ _ st (hs.same st.g) rl rx q
def xDropX (t : DTX) : DS := fun De r m => t r m (fun _ m1 => De.nx r m1) De.ex
def xRetX (t : DTX) : DS := fun De r m => t r m De.rt De.ex
def xSetX (t : DTX) (i : Nat) : DS := fun De r m => t r m (fun d m1 => De.nx (r.set i (some d)) m1) De.ex
theorem pds_dropX (he : PDX X e te) (hs : swapsWith e none pos.line X.env = pure false := by rfl) : PDS X (.Expr e pos) (xDropX te) :=
  psM (ps_expr he hs) fun E s H ⟨G, r, m, De, hs, hr, q, w⟩ => ⟨G, r, m, _, _, hs, hr, q, fun v H1 G1 m1 d s1 r1 h1 q1 => w.nx _ _ _ _ _ s1 (hs.same s1.g) r1 q1, w.xx hs⟩
end
/-! defs that may raise -/
abbrev DSpX := List D → Mu → DK → EK → Prop
def lfSpX (K : KF) (d : DSpX) : Sp := fun vs H Q E => ∃ G ds m Qd Ed, RpL K G ds vs ∧ Rl K G H m ∧ d ds m Qd Ed ∧ WV K G H m Qd Q ∧ WXX K G H m Ed E
def endX (m0 : Mu) (Q : DK) (Ed : EK) : DE := { endD m0 Q with ex := fun x m' => ∃ m'', (∀ a o, m'' a = some o → m' a = some o) ∧ Ed x m'' }
def BodyX (n : Nat) (t : DS) (d : DSpX) : Prop := ∀ ds m Q Ed, d ds m Q Ed → t (endX m Q Ed) (startD n ds) m
theorem lfS_startX {K : KF} {xw : WX} {N : List Str} {t : DS} {d : DSpX} (hb : BodyX N.length t d) {vs : List V} {H : Hp} {Q : VK} {E : XK} (hxw : ∀ cls dd σ H', E cls dd H' → xw cls dd σ H') (h : lfSpX K d vs H Q E) :
    lfS K xw t { nx := fun _ H' => Q .non H', rt := Q } (L2.start N vs) H := by
  obtain ⟨G, ds, m, Qd, Ed, rp, rl, q, w, wx⟩ := h
  refine ⟨G, _, m, endX m Qd Ed, rps_start rp, rl, hb ds m Qd Ed q, ⟨fun s' H' G' r' m' st rs rl' ⟨m2, le, q2⟩ => ?_, fun v H' G' m' d' st rl' rv ⟨m2, le, q2⟩ => ?_, fun _ _ _ _ _ _ _ _ z => z.elim, fun _ _ _ _ _ _ _ _ z => z.elim, fun s' H' G' r' m' x cls dd st rs rl' rx ⟨m2, le, q2⟩ => ?_⟩⟩
  · exact w _ _ _ m2 _ (st.less le) (rl'.less le) .non q2
  · exact w _ _ _ m2 _ (st.less le) (rl'.less le) rv q2
  · exact hxw _ _ _ _ (wx _ _ m2 _ _ _ (st.less le) (rl'.less le) rx q2)
section
variable {P : Program} {w : World} {K : PySem.W.Frag} {mg : Str → Option Value} {base : Heap}
end
section
variable {X : Cx} {k : Nat} {f : Addr} {fd : FuncData} {ps : List Str} {d : DSpX} {x : Str} {p pos : Pos} {e : Expr} {es : List Expr} {tr : DA}
def dCX (d : DSpX) (tr : DA) : DTX := fun r m Q Ed => tr r m fun ds m1 => d ds m1 Q Ed
end
end Mn

set_option Elab.async false
set_option linter.all false
set_option maxRecDepth 100000
set_option maxHeartbeats 4000000
set_option autoImplicit false
namespace Mn
open PySem PySem.Spec PyProof.Rows L2
variable [Tbs]
/-! a def that is called within an except suite, with the exception; it raises nothing -/
structure FnS (P : Program) (w : World) (K : PySem.W.Frag) (mg : Str → Option Value) (base : Heap) (k : Nat) (f : Addr) (fd : FuncData) (ps : List Str) (sp : Addr × Obj → Sp) : Prop where
  len : ∀ q vs H Q E, sp q vs H Q E → vs.length = ps.length
  run : ∀ (A : Around) (outer : List Env) (s : Shared) (H : Hp) (args : Args) (us : List Value) (vs : List V) (Q : VK) (E : XK) (q : Addr × Obj), L2H.RoomH k A → A.guards = some [] → L2H.PinOk outer H s q → Env0 P w K mg base A outer s H →
    BindsTo s fd args (ps.zip us) → Vals vs us → sp q vs H Q E → codeAny (model P w) A (.call (.ref f) args) (CR CX0 outer P w H s Q E) s
section
variable {P : Program} {w : World} {K : PySem.W.Frag} {mg : Str → Option Value} {base : Heap}
end
section
variable {X : Cx} {k : Nat} {f : Addr} {fd : FuncData} {ps : List Str} {sp : Addr × Obj → Sp} {x : Str} {p pos : Pos} {e : Expr} {es : List Expr} {ta : TA} {q : Addr × Obj}
end
end Mn

set_option Elab.async false
set_option linter.all false
set_option maxRecDepth 100000
set_option maxHeartbeats 4000000
set_option autoImplicit false
namespace Mn
open PySem PySem.Spec PyProof.Rows L2
variable [Tbs]
/-! isinstance(e, c) of an exception that the context pins -/
theorem call_isPin {X : Cx} {q : Addr × Obj} {D : Addr} (hq : q ∈ X.pn) (C : ExcC X.K D) (hz : Zc (.ref D) none q.2) (hf : ∃ vs, q.2.data = .fields vs) : CallR X (.builtin "isinstance") (rIsE X.K D q.1) := by
  intro pins s σ H xs us Q I r h
  obtain ⟨c, cv, b, rfl, hcv, e, z⟩ := h
  obtain ⟨u1, u2, rfl, r1, r2⟩ : ∃ u1 u2, us = [u1, u2] ∧ RelV (.ref q.1) u1 ∧ RelV c u2 := by
    cases r with
    | cons a b => cases b with
      | cons a' b' => cases b'; exact ⟨_, _, rfl, a, a'⟩
  cases r1
  obtain rfl := hcv _ r2
  have J : PySem.W.InstAt s.heap q.1 q.2 D none := by
    have g := (I.pin q (List.mem_append_left _ hq)).1
    obtain ⟨a, oc, od, oda, osl⟩ := q
    obtain ⟨vs, hv⟩ := hf
    have e1 : oc = .ref D := hz.1
    have e2 : od = none := hz.2
    have e3 : oda = .fields vs := hv
    subst e1 e2 e3
    exact ⟨g, rfl, rfl, trivial⟩
  exact PySem.W.kia_one (PySem.W.handS_kitx_exc C.hg C.hk C.hs C.hd C.ha C.hn C.ht C.hm) I.kIn J e (fun n => nomatch n) fun t => ⟨.bl b, H, I.kept (t' := t) fun _ _ n => n, rfl, z⟩
end Mn

set_option Elab.async false
set_option linter.all false
set_option maxRecDepth 100000
set_option maxHeartbeats 4000000
set_option autoImplicit false
namespace Mn
open PySem PySem.Spec PyProof.Rows L2
variable [Tbs]
/-! try: body, several clauses 'except x as n' -/
abbrev SuT := Addr → Value → Option Addr → TS
/-- behind a suite its name is gone -/
def unN (i : Nat) (D : Ends) : Ends := { nx := fun σ H => D.nx (σ.set i none) H, rt := D.rt, bk := fun σ H => D.bk (σ.set i none) H, ct := fun σ H => D.ct (σ.set i none) H }
def wAll (K : PySem.W.Frag) (i : Nat) (Wout : WX) (D : Ends) : List (Value × SuT) → WX
  | [] => Wout
  | q :: r => fun cls d σ H => ∃ b, PySem.W.exmOne K cls q.1 = some b ∧ (b = true → ∀ a, H a = none → q.2 a cls d (unN i D) (σ.set i (some (.ref a))) H) ∧ (b = false → wAll K i Wout D r cls d σ H)
inductive Hds (X : Cx) (n : Str) : List ExceptHandler → List (Value × SuT) → Prop
  | nil : Hds X n [] []
  | cons {x : Str} {c : Value} {ts : SuT} {b₀ : Stmt} {suite : List Stmt} {np pos' : Pos} {hds : List ExceptHandler} {l : List (Value × SuT)} (hc : Names X x c)
      (hsu : ∀ (a : Addr) (oe : Obj) (cls : Value) (d : Option Addr) (pn : List (Addr × Obj)), Zc cls d oe → (∃ vs, oe.data = .fields vs) → PSs (X.suite a ((a, oe) :: pn)) (b₀ :: suite) (ts a cls d)) (r : Hds X n hds l) : Hds X n (.ExceptHandler (some (.Name x np)) (some n) (b₀ :: suite) pos' :: hds) ((c, ts) :: l)
section
variable {X : Cx} {n : Str} {i : Nat} {body : List Stmt} {h₀ : ExceptHandler} {hds : List ExceptHandler} {l : List (Value × SuT)} {pos : Pos} {tb : WX → TS} {Wout : WX}
theorem ps_tryAll (hs : X.stack = X.env :: X.outer) (hf : X.env.frame = some X.env.locals) (hN : X.N.Nodup) (hi : X.N[i]? = some n) (hln : X.env.kindOf n = some .local) (tk : Takes X Wout)
    (hb : ∀ (W : WX) (pn : List (Addr × Obj)) (xe : Value → Shared → Prop), Takes (X.tr pn xe) W → PassesOwn (model X.prog X.w) X.A X.env xe → PSs (X.tr pn xe) body (tb W)) (hh : Hds X n (h₀ :: hds) l) :
    PS X (.Try body (h₀ :: hds) [] [] pos) (fun D σ H => tb (wAll X.K i Wout D l) D σ H) := by
  refine ⟨fun pins s σ H D I h => ?_⟩
  have good := I.ok
  have frm : X.A.frames = some (X.env :: X.outer) := good.frames.trans (by rw [hs])
  refine wpAny_Try_except (wpAny_mono ((hb (wAll X.K i Wout D l) (X.pn ++ pins) (fun e s₁ => wpAny (model X.prog X.w) X.A (noteFrame e X.env) (fun _ s₂ => wpAny (model X.prog X.w) X.A (setFlight e none) (fun _ s₃ => wpAny (model X.prog X.w) X.A (handleBy e X.env (h₀ :: hds)) (SP X pins D) X.xe s₃) X.xe s₂) X.xe s₁) (fun u s' caught => ?_) PassesOwn.looking).run [] s σ H D (I.toTry _) h) (fun fl s1 z => ?_) fun e s1 z => z)
  · obtain ⟨a, B, sI, pins', σ', H', cls, d, rfl, J', below, upS, sky, na, os, ag, wish⟩ := caught
    have J : Inv X pins σ' H' sI := J'.ofTry good
    rw [show (X.tr (X.pn ++ pins) _).stack = X.env :: X.outer from hs] at sky
    show wpAny (model X.prog X.w) X.A (noteFrame (.ref a) X.env) _ _ _
    refine Sky.land Zc.steady frm hf sky fun hp3 fly3 up3 => ?_
    have J3 : Inv X pins σ' H' { s' with heap := hp3 } := J.landed below fly3.1 (upS.trans up3) os ag
    obtain ⟨o3, v3, get3, zc3, dat3⟩ := fly3.there
    have apart : a ∉ frs (X.env :: X.outer) := fun hm => by
      obtain ⟨_, o', e', nf'⟩ := fly3.2.2.1.mem hm
      rw [get3] at e'; cases e'
      exact nf' _ dat3
    have nL : a ≠ X.env.locals := fun z => apart (List.mem_filterMap.mpr ⟨X.env, List.mem_cons_self, by rw [hf, z]⟩)
    have nF : a ∉ X.fs := fun hm => by
      obtain ⟨e, he, q⟩ := List.mem_filterMap.mp hm
      exact apart (List.mem_filterMap.mpr ⟨e, List.mem_cons_of_mem _ he, q⟩)
    have S3 := J3.suite get3 dat3 na nL nF
    have each : ∀ (hs' : List ExceptHandler) (l' : List (Value × SuT)), Hds X n hs' l' → wAll X.K i Wout D l' cls d σ' H' → wpAny (model X.prog X.w) X.A (handleBy (.ref a) X.env hs') (SP X pins D) X.xe { s' with heap := hp3 } := by
      intro hs' l' hk
      induction hk with
      | nil =>
        intro w
        refine wpAny_handleBy_nil ?_
        obtain ⟨k1, k2, k3, oe, vs, T, oT, ts', he, hz, hd, h1, hr⟩ := id fly3
        unfold PySem.passOn
        refine wpAny_bind (wpAny_field he hd h1 ?_)
        rw [if_neg (show ¬ ((Value.ref T == Value.none) = true) by simp)]
        have fin : wpAny (model X.prog X.w) X.A (setFlight (.ref a) X.env.frame) (fun _ s4 => wpAny (model X.prog X.w) X.A (throw (.ref a) : Sem Flow) (SP X pins D) X.xe s4) X.xe { s' with heap := hp3 } := by
          rw [hf]
          exact HandSPX.setFlight_upZ fly3 fun h4 hh4 up4 => wpAny_throw (tk _ _ ⟨a, B, sI, pins, σ', H', cls, d, rfl, J, below, (upS.trans up3).trans up4, .inr (.inr (by rw [hs]; exact hh4)), na, os, ag, w⟩)
        first | exact wpAny_bind (wpAny_pure (wpAny_bind fin)) | exact wpAny_bind fin
      | @cons x c ts b₀ suite np pos' hds2 l2 hc hsu r ih =>
        intro ⟨b, hb1, yes, no⟩
        refine wpAny_handleBy_cons (codeAny_handlers_test ?_) (by intro q; cases q)
        have lkT : PySem.W.Looks (model X.prog X.w) hp3 (typeOf (.ref a)) cls := fun A Q E s k q => wpAny_typeOf_ref (k _ _ get3) (by rw [zc3.1]; exact q)
        have lkM := PySem.W.exm_one (M := model X.prog X.w) J3.kIn lkT hb1
        have tst : ∀ {Q E : Value → Shared → Prop}, Q c { s' with heap := hp3 } → wpAny (model X.prog X.w) (X.A.mark (some (.ref a))) (eval (.Name x np) X.env) Q E { s' with heap := hp3 } := fun {Q E} q => by
          obtain ⟨hg, hdbg, hm | ⟨hm, hv, hnn⟩⟩ := hc
          · exact ld_glob (X := X.suite a ((a, o3) :: (X.pn ++ pins))) S3 hg hm q hdbg
          · exact ld_blt (X := X.suite a ((a, o3) :: (X.pn ++ pins))) S3 hg hm hv q hnn hdbg
        refine tst (lkM.here ?_)
        cases b with
        | false => exact ih (no rfl)
        | true =>
          refine codeAny_handlers_suite_as (HandSPX.lands_againZ fly3 fun hp4 fly4 up4 => ?_)
          obtain ⟨o4, v4, get4, zc4, dat4⟩ := fly4.there
          have S4 := (J.landed below fly4.1 ((upS.trans up3).trans up4) os ag : Inv X pins σ' H' { s' with heap := hp4 }).suite get4 dat4 na nL nF
          refine store_ok (X := X.suite a ((a, o4) :: (X.pn ++ pins))) (v := .ref a) S4 hN hi (.inl hln) rfl (fun s5 S5 => wpAny_mono ((hsu a o4 cls d (X.pn ++ pins) zc4 ⟨_, dat4⟩).run [] s5 _ H' _ S5 (yes rfl a na)) (fun fl s6 z => ?_) fun _ _ z => z.elim) (.inr hln)
          cases fl with
          | next => obtain ⟨σ6, H6, S6, q6⟩ := z; exact gone_ok (S6.unsuite good) hN hi hln fun s7 J7 => ⟨_, _, J7, q6⟩
          | brk => obtain ⟨σ6, H6, S6, q6⟩ := z; exact gone_ok (S6.unsuite good) hN hi hln fun s7 J7 => ⟨_, _, J7, q6⟩
          | cont => obtain ⟨σ6, H6, S6, q6⟩ := z; exact gone_ok (S6.unsuite good) hN hi hln fun s7 J7 => ⟨_, _, J7, q6⟩
          | ret u => obtain ⟨v6, σ6, H6, S6, r6, q6⟩ := z; exact gone_ok (S6.unsuite good) hN hi hln fun s7 J7 => ⟨_, _, _, J7, r6, q6⟩
    exact each _ _ hh wish
  · cases fl with
    | next => obtain ⟨σ', H', J', q⟩ := z; exact wpAny_execs_nil ⟨σ', H', J'.ofTry good, q⟩
    | brk => obtain ⟨σ', H', J', q⟩ := z; exact ⟨σ', H', J'.ofTry good, q⟩
    | cont => obtain ⟨σ', H', J', q⟩ := z; exact ⟨σ', H', J'.ofTry good, q⟩
    | ret u => obtain ⟨v, σ', H', J', r, q⟩ := z; exact ⟨v, σ', H', J'.ofTry good, r, q⟩
end
end Mn

set_option Elab.async false
set_option linter.all false
set_option maxRecDepth 100000
set_option maxHeartbeats 4000000
set_option autoImplicit false
namespace Mn
open PySem PySem.Spec PyProof.Rows L2
variable [Tbs]
/-! a lambda without parameters, handed to a def -/
abbrev lamQ (X : Cx) : Str := X.env.qual ++ "<lambda>"
/-- what the making of a lambda leaves: nothing new, or a code object at c that the table at P tells -/
def Grown (P c : Addr) (q : Str) (H H1 : Hp) : Prop := H1 = H ∨ ∃ (ps : Array Value) (pos : Pos), H P = some (.tbl ps) ∧ H c = none ∧ H1 = upd (upd H P (.tbl (ps ++ #[rawInt pos.line, rawInt pos.col, .ref c]))) c (LamX.CodeO c q)
section
variable {X : Cx} {pins : List (Addr × Obj)} {σ : L2.St} {H : Hp} {s : Shared}
theorem lamMk {c P : Addr} {params : Arguments} {body : Expr} {scope : Scope} {pos : Pos} {E Q : Value → Shared → Prop} (I : Inv X pins σ H s) (TB : LamX.TabB X.base X.mg c P) (hcode : X.env.code = .ref c) (hT : LamX.TabS H P (lamQ X)) (hdef : defaultsOf params X.env = ([], []))
    (hfree : ∀ y ∈ scope.names, y.2 = .free → ∃ c, X.env.cells.lookup y.1 = some c)
    (h : ∀ (f c' : Addr) (pm ctv : Value) (H1 : Hp) (s' : Shared), Inv X pins σ H1 s' → Grown P c' (lamQ X) H H1 → s'.heap.get? f = some (PySem.W.kla_obj "<lambda>" (lamQ X) params body scope (cloFrom X.env.cells scope.names []) pm c' ctv) → H1 f = none → f ∉ frs X.stack →
      H1 c' = some (LamX.CodeO c' (lamQ X)) → Q (.ref f) s') : wpAny (model X.prog X.w) X.A (eval (.Lambda params body scope pos) X.env) Q E s := by
  obtain ⟨ps, hP, tri, tells⟩ := hT
  have getP : s.heap.get? P = some { cls := .none, data := .fields ps } := I.hok P _ hP
  have bts : s.heap.BuiltinsAt X.mg P := TB.bm.keeps I.bk
  have noFrame : ∀ f, s.heap.objs.size ≤ f → f ∉ frs X.stack := fun f hf z => by
    rcases List.mem_cons.mp (I.stkSub _ z) with e | e
    · have lt := I.lt
      rw [← e] at lt
      exact absurd lt (Nat.not_lt.mpr hf)
    · exact I.nofs hf e
  refine PySem.W.kla_eval hdef ?_
  cases hit : codeAmong pos ps.toList with
  | some cv =>
    obtain ⟨c', rfl, hco⟩ := tells pos cv hit
    refine PySem.W.kla_makeFunctionHit (mg := X.mg) (c := c) (P := P) (ps := ps) (closure_ok hfree) I.ok.glob (I.mod.glob.keeps I.bk) hcode (TB.code.keeps I.bk) getP tri hit bts fun ctv h' tk hx hsz => ?_
    exact h h'.objs.size c' ((X.mg "__name__").getD .none) ctv H _ (I.kept fun b o e => Heap.get?_push_of_some _ (hx b o e)) (.inl rfl) (Heap.get?_push_size _ rfl) (I.hok.fresh hsz) (noFrame _ hsz) hco
  | none =>
    refine PySem.W.kla_makeFunction (mg := X.mg) (c := c) (P := P) (ps := ps) (closure_ok hfree) I.ok.glob (I.mod.glob.keeps I.bk) hcode (TB.code.keeps I.bk) getP tri hit TB.gP bts fun c' ctv h' tk hx hge hlt hrec htb => ?_
    obtain ⟨c2, oc, vs, t, e2, hoc, hd, hv⟩ := hrec
    cases e2
    have nC : H c' = none := I.hok.fresh hge
    have sz : s.heap.objs.size ≤ h'.objs.size := by omega
    have I1 := LamX.inv_table (t' := tk) (more := #[rawInt pos.line, rawInt pos.col, .ref c']) (h' := h'.push (PySem.W.kla_obj "<lambda>" (lamQ X) params body scope (cloFrom X.env.cells scope.names []) ((X.mg "__name__").getD .none) c' ctv)) I hP (fun b o hb e => Heap.get?_push_of_some _ (hx b o hb e)) (Heap.get?_push_of_some _ htb) hge
      ⟨oc, vs, t, Heap.get?_push_of_some _ hoc, hd, hv⟩
    refine h h'.objs.size c' ((X.mg "__name__").getD .none) ctv _ _ I1 (.inr ⟨ps, pos, hP, nC, rfl⟩) (Heap.get?_push_size _ rfl) ?_ (noFrame _ sz) upd_same
    have lP := Heap.lt_size getP
    rw [upd_ne (Nat.ne_of_gt hlt), upd_ne (Nat.ne_of_gt (Nat.lt_of_lt_of_le lP sz))]
    exact I.hok.fresh sz
end
section
variable {K : KF} {G H H1 : Hp} {m : Mu}
theorem TbAt.s {P : Addr} {q : Str} (t : TbAt H m P q) : LamX.TabS H P q := by
  obtain ⟨ps, h1, h2, h3⟩ := t
  exact ⟨ps, h1, h2, fun pos cv e => let ⟨c, e1, e2, _⟩ := h3 pos cv e; ⟨c, e1, e2⟩⟩
theorem Rl.lam {P c : Addr} {q : Str} (r : Rl K G H m) (g : Grown P c q H H1) (hP : (P, q) ∈ K.tabs) (hu : ∀ t ∈ K.tabs, t.1 = P → t.2 = q) : Rl K G H1 m ∧ Stp G H m G H1 m := by
  rcases g with rfl | ⟨ps, pos, e1, e2, rfl⟩
  · exact ⟨r, Stp.refl⟩
  obtain ⟨gc, mc⟩ := r.free e2
  obtain ⟨gP, mP, tP⟩ := r.tab _ hP
  have nPc : P ≠ c := ne_of_none e1 e2
  have at_ : ∀ b, b ≠ P → b ≠ c → upd (upd H P (.tbl (ps ++ #[rawInt pos.line, rawInt pos.col, .ref c]))) c (LamX.CodeO c q) b = H b := fun b h1 h2 => by rw [upd_ne h2, upd_ne h1]
  have atP : upd (upd H P (.tbl (ps ++ #[rawInt pos.line, rawInt pos.col, .ref c]))) c (LamX.CodeO c q) P = some (.tbl (ps ++ #[rawInt pos.line, rawInt pos.col, .ref c])) := by rw [upd_ne nPc, upd_same]
  have keep : ∀ b o, H b = some o → (∀ ps, o ≠ .tbl ps) → upd (upd H P (.tbl (ps ++ #[rawInt pos.line, rawInt pos.col, .ref c]))) c (LamX.CodeO c q) b = some o := fun b o e n => by
    rw [at_ b (fun z => by rw [z, e1] at e; exact n ps (Option.some.inj e).symm) (ne_of_none e e2)]; exact e
  refine ⟨⟨fun b o e => keep b o (r.sub b o e) fun ps z => r.nt b ps (z ▸ e), fun a o e => ?_, fun t ht => ?_, r.nt, fun a ps' e => ?_⟩, ⟨Same.refl _, fun b o h1 h2 h3 n => ⟨keep b o h1 n, h2, h3⟩, fun b o e => ?_⟩⟩
  · obtain ⟨g1, u, h1, h2⟩ := r.mu a o e
    exact ⟨g1, u, keep a u h1 h2.nt, h2⟩
  · obtain ⟨t1, t2, t3⟩ := r.tab t ht
    refine ⟨t1, t2, ?_⟩
    by_cases hb : t.1 = P
    · obtain ⟨ps0, f1, f2, f3⟩ := t3
      rw [hb, e1] at f1
      cases f1
      rw [hu t ht hb] at f3 ⊢
      rw [hb]
      have eL : (ps ++ #[rawInt pos.line, rawInt pos.col, .ref c]).toList = ps.toList ++ [rawInt pos.line, rawInt pos.col, .ref c] := by simp
      refine ⟨_, atP, by rw [eL]; exact PySem.TriplesOk_snoc _ _ _ _ f2, fun p' cv hc => ?_⟩
      rw [eL] at hc
      rcases LamX.among_app _ f2 hc with z | z
      · obtain ⟨c0, a1, a2, a3⟩ := f3 p' cv z
        exact ⟨c0, a1, keep _ _ a2 fun ps => LamX.codeO_ne ps, a3⟩
      · exact ⟨c, z, upd_same, mc⟩
    · exact t3.of (fun o e => by rw [at_ _ hb (ne_of_none e e2)]; exact e) fun c0 a1 a2 => ⟨keep _ _ a1 fun ps => LamX.codeO_ne ps, a2⟩
  · by_cases h2 : a = c
    · rw [h2, upd_same] at e
      exact absurd (Option.some.inj e) (LamX.codeO_ne _)
    · by_cases h1 : a = P
      · exact ⟨q, h1 ▸ hP⟩
      · rw [at_ a h1 h2] at e; exact r.tt a _ e
  · by_cases h1 : b = P
    · exact ⟨_, by rw [h1]; exact atP⟩
    · exact ⟨o, by rw [at_ b h1 (ne_of_none e e2)]; exact e⟩
end
/-! the body of a lambda, in the context of the call -/
def lfE (K : KF) (t : DTX) (E : XK) : TE := fun s H Qv => ∃ G r m Q Ed, RpS K G r s ∧ Rl K G H m ∧ t r m Q Ed ∧ WV K G H m Q Qv ∧ WXX K G H m Ed E
theorem lamBody {X : Cx} {A : Around} {outer : List Env} {s : Shared} {H : Hp} {E : XK} {scope : Scope} {f c' : Addr} {body : Expr} {t : DTX} (h : PDX (LamX.lamCx X A outer s H E scope f c') body t) : PE (LamX.lamCx X A outer s H E scope f c') body (lfE X.kf t E) :=
  peM h fun σ H' Q ⟨G, r, m, Qd, Ed, hs, hr, q, w, wx⟩ => ⟨G, r, m, Qd, Ed, hs, hr, q, w, fun H2 G2 m2 x cls d st rl rx e => wx_of (L2.takes_of rfl rfl rfl rfl) (wx H2 G2 m2 x cls d st rl rx e)⟩
/-- what a def makes of the lambda that it got: nv of a value, xv of an exception -/
structure Said where
  nv : D → Mu → DK → Prop
  xv : XD → Mu → DK → Prop
def dLam (sd : Said) (t : DTX) : DT := fun r m Q => t r m (fun d m1 => sd.nv d m1 Q) (fun x m1 => sd.xv x m1 Q)
/-- the def of the name x keeps the promise sd: the body of it, at the context of its caller X -/
def Gives (X : Cx) (Ng : List Str) (x : Str) (sg : Scope) (g : Addr) (cdg : Value) (bg : List Stmt) (a : Str) (q : Str) (sd : Said) : Prop :=
  ∀ (f c' : Addr) (s : Shared) (H : Hp) (Q : VK) (tl : XK → Hp → VK → Prop),
    (∀ (W : WX) (pn : List (Addr × Obj)) (xe : Value → Shared → Prop) (E : XK) (p1 p2 : Pos), Takes ((cxOf CX0 X.prog X.w X.K X.mg X.base Ng x sg g cdg X.A X.stack s H E0).tr pn xe) W → (∀ cls d σ' H', E cls d H' → W cls d σ' H') →
      PE ((cxOf CX0 X.prog X.w X.K X.mg X.base Ng x sg g cdg X.A X.stack s H E0).tr pn xe) (.Call (.Name a p1) [] [] p2) (fun σZ HZ Q => σZ[0]? = some (some (.ref f)) ∧ HZ c' = some (LamX.CodeO c' q) ∧ tl E HZ Q)) →
    H c' = some (LamX.CodeO c' q) → ∀ (G : Hp) (m : Mu) (Qd : DK), Rl X.kf G H m → WV X.kf G H m Qd Q → (∀ (Qv : VK) (E : XK), WV X.kf G H m (fun d m1 => sd.nv d m1 Qd) Qv → WXX X.kf G H m (fun x m1 => sd.xv x m1 Qd) E → tl E H Qv) →
    ∃ t, PSs (cxOf CX0 X.prog X.w X.K X.mg X.base Ng x sg g cdg X.A X.stack s H E0).nox bg t ∧ t { nx := fun _ H' => Q .non H', rt := Q } (L2.start Ng [.ref f]) H
section
variable {X : Cx}
theorem pd_lam {sd : Said} {x a : Str} {g c P : Addr} {k : Nat} {pg : Arguments} {bg : List Stmt} {sg : Scope} {dV kV doc pm cdv ct oc : Value} {an od : Option Addr} {osl : Array (Option Value)} {Ng : List Str} {params : Arguments} {body : Expr} {scope : Scope} {t : DTX} {p lpos pos : Pos}
    (hg : Gl X x) (hm : X.mg x = some (.ref g)) (hk : PySem.W.keepIn X.K (.ref g) = true) (lk : X.K.lookup g = some ⟨oc, od, .func (PySem.W.fnOf x x pg bg sg dV kV doc pm an cdv ct), osl⟩) (hcg : PySem.W.codeIn X.K cdv x = true)
    (hb : L2.Binds X.K (PySem.W.fnOf x x pg bg sg dV kV doc pm an cdv ct) [a] []) (Sg : FnScope Ng [a] sg) (hNg : Ng[0]? = some a) (hva : Vis sg a) (hG : Gives X Ng x sg g cdv bg a (lamQ X) sd) (TB : LamX.TabB X.base X.mg c P) (hcode : X.env.code = .ref c)
    (hmT : (P, lamQ X) ∈ (Tbs.T : List (Addr × Str))) (hu : ∀ t ∈ (Tbs.T : List (Addr × Str)), t.1 = P → t.2 = lamQ X) (room : Room (k + 2) X.A) (L : LamX.LamS X.env.scope scope) (hdef : defaultsOf params X.env = ([], []))
    (hbind : ∀ (q : Str) (cl : List (Str × Addr)) (pm cv ctv : Value), bindArgs (PySem.W.kla_fn "<lambda>" q params body scope cl pm cv ctv) ⟨[], []⟩ = pure [])
    (hbody : ∀ (A : Around) (outer : List Env) (s : Shared) (H : Hp) (E : XK) (f c' : Addr), Room k (A.deeper (LamX.lamEnv X scope s.heap.objs.size f c')) → PDX (LamX.lamCx X A outer s H E scope f c') body t)
    (hdb : (x == ("__debug__" : Str)) = false := by decide) (hd : (a == ("__debug__" : Str)) = false := by decide) (hcd : (a == ("__classdict__" : Str)) = false := by decide) : PD X (.Call (.Name x p) [.Lambda params body scope lpos] [] pos) (dLam sd t) := by
  refine ⟨fun pins s σ H Q I ⟨G, ro, m, Qd, hs, hr, q, w⟩ => ?_⟩
  refine wpAny_Call_Name_kw (ld_glob I hg hm (PySem.W.callWith_K (h₀ := X.base) I.ok.mod.kin hk ?_ (by rfl) (by rfl)) hdb)
  show wpAny _ _ (spliced ((false, eval (.Lambda params body scope lpos) X.env) :: backTo pos (starEach [] X.env))) _ _ s
  refine Calls.spliced_cons (lamMk I TB hcode (hr.tab _ hmT).2.2.s hdef (L.has I.ok) fun f c' pm' ctv H1 s' I1 gr hf hfn hfr hco => Calls.spliced_nil ⟨I1.kIn, ?_⟩)
  obtain ⟨r1, st1⟩ := hr.lam gr hmT hu
  have runs : codeAny (model X.prog X.w) X.A (.call (.ref g) ⟨[.ref f], []⟩) (CR CX0 X.stack X.prog X.w H1 s' Q E0) s' := by
    refine LamX.run_ofS (N := Ng) (ps := [a]) (us := [.ref f]) (vs := [.ref f]) lk hcg Sg room I1.env0 (hb s' [.ref f] I1.kIn rfl) (.cons rfl .nil) rfl fun room' => ?_
    obtain ⟨t', ht', hq'⟩ := hG f c' s' H1 Q (fun E H' Q' => lfE X.kf t E σ H' Q') (fun W pn xe E p1 p2 tk hW => LamX.pe_act (i := 0) I1 L hf hfn hfr (hbind _ _ _ _ _) tk hW room' (fun A outer s H hr2 => lamBody (hbody A outer s H E f c' hr2)) hNg hva hd hcd) hco G m Qd r1 (w.after st1)
      fun Qv E wv we => ⟨G, ro, m, _, _, hs, r1, q, wv, we⟩
    exact ⟨t', ht'.nox, hq'⟩
  refine wpAny_call (codeAny_mono runs fun res s2 hq => ?_)
  cases res with
  | error e => exact False.elim hq
  | ok fl => cases fl with
    | ret u => exact I1.after hq
    | next => exact False.elim hq
    | brk => exact False.elim hq
    | cont => exact False.elim hq
end
end Mn

set_option Elab.async false
set_option linter.all false
set_option maxRecDepth 100000
set_option maxHeartbeats 4000000
set_option autoImplicit false
namespace Mn
open PySem PySem.Spec PyProof.Rows L2 GenW
variable [Tbs]
/-! defs that may raise, whatever is under way around the call -/
abbrev FnXF (P : Program) (w : World) (K : PySem.W.Frag) (mg : Str → Option Value) (base : Heap) (k : Nat) (f : Addr) (fd : FuncData) (ps : List Str) (d : DSpX) : Prop := FnF P w K mg base (L2.CX P w) k f fd ps (lfSpX ⟨K, w, Tbs.T⟩ d)
def ClX (P : Program) (w : World) (K : PySem.W.Frag) (mg : Str → Option Value) (base : Heap) (x : Str) (k : Nat) (ps : List Str) (d : DSpX) : Prop :=
  ∃ f fd, mg x = some (.ref f) ∧ PySem.W.keepIn K (.ref f) = true ∧ Binds K fd ps [] ∧ FnXF P w K mg base k f fd ps d
/-- what is left where nothing is raised -/
def noX (d : DSpX) : DSp := fun ds m Q => d ds m Q fun _ _ => False
section
variable {P : Program} {w : World} {K : PySem.W.Frag} {mg : Str → Option Value} {base : Heap}
theorem FnXF.cl {k : Nat} {f : Addr} {fd : FuncData} {ps : List Str} {d : DSpX} (F : FnXF P w K mg base k f fd ps d) : FnDF P w K mg base k f fd ps (noX d) := by
  have cv : ∀ vs H Q E, lfSp ⟨K, w, Tbs.T⟩ (noX d) vs H Q E → lfSpX ⟨K, w, Tbs.T⟩ d vs H Q fun _ _ _ => False := fun vs H Q E ⟨G, ds, m, Qd, rp, rl, q, wv⟩ => ⟨G, ds, m, Qd, fun _ _ => False, rp, rl, q, wv, fun _ _ _ _ _ _ _ _ _ z => z.elim⟩
  refine ⟨fun vs H Q E h => F.len vs H Q _ (cv vs H Q E h), fun A outer s H args us vs Q E room e0 bd rv h => codeAny_mono (F.run A outer s H args us vs Q _ room e0 bd rv (cv vs H Q E h)) fun res s' hq => ?_⟩
  cases res with
  | error e => obtain ⟨a, B, H', cls, d, _, _, _, _, _, _, _, z⟩ := hq; exact z.elim
  | ok fl => cases fl <;> exact hq
theorem fnCX {x : Str} {st : Stmt} {N ps : List Str} {k : Nat} {t : DS} {d : DSpX} (h : ∃ f fd, Df K mg x st ps f fd) (S : FnScope N ps (defScope st)) (hl : ∀ ds m Q Ed, d ds m Q Ed → ds.length = ps.length) (hb : BodyX N.length t d)
    (der : ∀ (f : Addr) (cdv : Value) (A : Around) (outer : List Env) (s : Shared) (H : Hp) (E : XK), Room k (A.deeper (envOfC x (defScope st) s.heap.objs.size f cdv)) → PDSs (cxOf (L2.CX P w) P w K mg base N x (defScope st) f cdv A outer s H E) (defBody st) t) :
    ClX P w K mg base x (k + 1) ps d := by
  obtain ⟨f, fd, Dd⟩ := h
  refine ⟨f, fd, Dd.g, Dd.F.kp, Dd.b, ?_⟩
  obtain ⟨oc, od, kV, doc, pm, an, cdv, ct, osl, rfl, lk, hcd⟩ := Dd.F.ex
  refine gn_ofF lk hcd S (fun vs H Q E ⟨G, ds, m, Qd, Ed, rp, rl, q, w, _⟩ => by rw [← rp.len]; exact hl _ _ _ _ q) fun A outer s H vs Q E room h => ?_
  exact ⟨_, der f cdv A outer s H E room, lfS_startX hb (fun cls dd σ H' he => wx_of (L2.takes_of rfl rfl rfl rfl) he) h⟩
end
section
variable {X : Cx} {k : Nat} {f : Addr} {fd : FuncData} {ps : List Str} {d : DSpX} {x : Str} {p pos : Pos} {e : Expr} {es : List Expr} {tr : DA}
theorem run_XF {pins : List (Addr × Obj)} {σ : L2.St} {H : Hp} {s : Shared} {Q : VK} {us : List Value} {vs : List V} (F : FnXF X.prog X.w X.K X.mg X.base k f fd ps d) (room : Room k X.A) (bd : Binds X.K fd ps [])
    (I : Inv X pins σ H s) (rv : Vals vs us) (h : lfSpX X.kf d vs H Q (WE X.wx σ)) : wpAny (model X.prog X.w) X.A (call (.ref f) us) (EP X pins σ Q) X.xe s := by
  have hl : us.length = ps.length := by rw [← rv.length]; exact F.len _ _ _ _ h
  have bz := bd s us I.kIn (by rw [List.append_nil]; exact hl)
  rw [List.append_nil] at bz
  refine wpAny_call (codeAny_mono (F.run X.A X.stack s H ⟨us, []⟩ us vs Q (WE X.wx σ) room I.env0 bz rv h) fun res s' hq => ?_)
  cases res with
  | error e => exact L2.passAt (takes_wx X) σ pins H s e s' I hq
  | ok fl => cases fl with
    | ret u => exact I.after hq
    | next => exact False.elim hq
    | brk => exact False.elim hq
    | cont => exact False.elim hq
theorem pdx_callX (C : ClX X.prog X.w X.K X.mg X.base x k ps d) (room : Room k X.A) (hg : Gl X x)
    (ha : PDA X (e :: es) tr) (hdb : (x == ("__debug__" : Str)) = false := by decide) (he : starEach (e :: es) X.env = (false, eval e X.env) :: starEach es X.env := by rfl) (hpl : (backTo pos (starEach es X.env)).any (·.1) = false := by rfl) :
    PDX X (.Call (.Name x p) (e :: es) [] pos) (dCX d tr) := by
  obtain ⟨f, fd, hm, hk, bd, F⟩ := C
  refine ⟨fun pins s σ H Q I ⟨G, ro, m, Qd, Ed, hs, hr, q, w, wx⟩ => ?_⟩
  have h : lfA X.kf tr σ H fun vs H1 => lfSpX X.kf d vs H1 Q (WE X.wx σ) := ⟨G, ro, m, _, hs, hr, q, fun vs H1 G1 m1 ds s1 r1 h1 q1 => ⟨G1, ds, m1, Qd, Ed, h1, r1, q1, w.after s1, wx.after s1⟩⟩
  refine wpAny_Call_Name_kw (ld_glob I hg hm ?_ hdb)
  exact PySem.W.callWith_K (h₀ := X.base) I.ok.mod.kin hk (thn (PA.run ha pos pins s σ H _ I h) fun us s1 ⟨vs, H1, I1, r, q⟩ => ⟨I1.kIn, run_XF F room bd I1 r q⟩) he hpl
end
/-! expressions that may raise at their first part -/
section
variable {X : Cx} {o e : Expr} {te : DTX} {to : DT} {pos apos p : Pos}
end
end Mn

set_option Elab.async false
set_option linter.all false
set_option maxRecDepth 100000
set_option maxHeartbeats 4000000
set_option autoImplicit false
namespace Mn
open PySem PySem.Spec PyProof.Rows L2
variable [Tbs]
/-! texts -/
section
variable {X : Cx} {K : KF} {o e : Expr} {to te : DT} {pos apos : Pos}
/-- the text of a whole number -/
def numS (i : Int) : Str := (toString i : String)
def aStr : DRL := fun ds m Q => match ds with
  | [.int i] => i.natAbs.log2 < 1920 ∧ Q (.str (numS i)) m
  | _ => False
def dSplit (to te : DT) : DT := fun r m Q => to r m fun o m1 => (∃ a, o = .str a) ∧ te r m1 fun d m2 => ∃ a b, o = .str a ∧ d = .str b ∧ (b.length == 0) = false ∧ a.length + 2 ≤ sizeLine ∧ Q (.lst ((Txt.split a b).map D.str)) m2
def dJoin (to te : DT) : DT := fun r m Q => to r m fun o m1 => (∃ a, o = .str a) ∧ te r m1 fun d m2 => ∃ a ys, o = .str a ∧ (d = .lst (ys.map D.str) ∨ d = .tup (ys.map D.str)) ∧ (ys.map (·.length)).sum + ys.length * a.length ≤ 16777216 ∧ Q (.str (Txt.join a ys)) m2
/-- the signs of a text -/
def signs (x : Str) : List D := x.cps.toList.map fun c => .str ⟨#[c]⟩
def sStr (t : DT) : DI := fun r m Q => t r m fun d m1 => ∃ x, d = .str x ∧ Q (signs x) m1
end
section
variable {X : Cx} {a b : Expr} {ta tb : DT} {pos : Pos}
end
end Mn

set_option Elab.async false
set_option linter.all false
set_option maxRecDepth 100000
set_option maxHeartbeats 4000000
set_option autoImplicit false
namespace Mn
open PySem PySem.Spec PyProof.Rows L2
variable [Tbs]
/-! try: body / except c: return a constant -/
/-- what is known of a class that an except clause names -/
structure ExcT (w : World) (K : PySem.W.Frag) (mg : Str → Option Value) (c : Str) : Prop where
  ex : ∃ C, mg c = some (.ref C) ∧ KF.cls ⟨K, w, Tbs.T⟩ c C ∧ PySem.W.exmOne K (.ref C) (.ref C) = some true
def xTryRet (c : Str) (t : DS) (d : D) : DS := fun De r m => t { De with ex := fun x m1 => x.c = c ∧ De.rt d m1 } r m
theorem WS.wx {K : KF} {xw xw' : WX} {G H : Hp} {m : Mu} {De : DE} {E : Ends} (w : WS K xw G H m De E) (h : ∀ cls d σ H', xw cls d σ H' → xw' cls d σ H') : WS K xw' G H m De E :=
  ⟨w.nx, w.rt, w.bk, w.ct, fun s' H' G' r' m' x cls d a b c e f => h _ _ _ _ (w.ex s' H' G' r' m' x cls d a b c e f)⟩
section
variable {X : Cx}
/-! what is walked may raise -/
variable {elt tg iter : Expr} {ifs : List Expr} {scope : Scope} {own : List (Str × Nat)} {pos p pos2 : Pos} {g : TG} {dg : DG} {tt : DB} {te : DT} {ti : DTX}
/-- tuple([elt for tg in iter if ..]): iter may raise -/
def dTupLcX (ti : DTX) (vs : List Nat) (dg : DG) (tt : DB) (te : DT) : DTX := fun r m Q Ed => ti r m (fun d m1 => ∃ ds, (d = .lst ds ∨ d = .tup ds) ∧ ds.length ≤ sizeLine ∧ lcGo dg tt te (wipeD r vs) ds [] m1 fun acc m2 => Q (.tup acc) m2) Ed
end
end Mn

set_option linter.all false
set_option maxHeartbeats 4000000
set_option autoImplicit false
set_option maxRecDepth 100000
namespace Mn
open PySem L2
variable [Tbs]
local macro_rules | `(tactic| walk_at "d") => `(tactic| (try simp only [xSetX, xRetX, xDropX, dCX, xRaise, xTryRet, dTupLcX, xStR, xStL, dSplit, dJoin, sStr, dLam, aStr, xNext, xSeq, xAsg, xRet, xRetF, xDrop, xIf, xPar, xPar3, xMatch, mGo, xFrz, xPut, xAug, xFor, dVar, dC, dOp, dTest, dChain, dAndV, dOrV, dNotV, dAnd, dOr, dNot, dIf, dNil, dCons, dTup, dLst, dLstM, dCB, dIsi, dLc, dLcM, dYes, wipeD, dSlice, oSome, oNone, aSl_tup, aSl_lst, dNeg, dStar, dNewD, dTupVals, dSortSet, dDictZ, sKeys, dFld, dMeth, dCallO, dGetC, dNewC, dDc, dStep, dIndexTD, dCountL, dCountS, dExtend, dAppend, dFrz, dLc2, dCountT, dIndexT, sqf_tup, sqf_lst, sqf_pair, sSeq, sSeq_tup, sSeq_lst, sRg1, sRg2, sZip2, sZip3, sZip4, sEnum, gV, gN, gC, gT, tupOf_tup, tupOf_pair, aAdd_int, aAdd_tup, aAdd_lst, aSub_int, aMul_int, aDiv_int, aMod_int, aPow_int, aCmp_int, aIx_tup, aIx_lst, aIx_scr, aIx_pair, aMax_int, aMin_int, aInt_bl, aInt_int, aLen_tup, aLen_lst, aLen_scr, aLen_pair, aTuple_lst, aTuple_tup, aIsB_bl, aNotB_bl, aEq_int, aNe_int, startD, List.map_cons, List.map_nil, List.length_cons, List.length_nil, List.cons_append, List.nil_append, List.replicate_zero, List.replicate_succ, List.append_nil, List.getElem?_cons_zero, List.getElem?_cons_succ, List.set_cons_zero, List.set_cons_succ, Option.some.injEq, exists_eq_left', exists_eq_left, exists_eq', D.int.injEq, D.bl.injEq, D.tup.injEq, D.lst.injEq, D.pair.injEq, D.ref.injEq, List.cons.injEq, Nat.sub_self, Nat.zero_add, Nat.add_sub_cancel, seqI_tup, seqI_lst, seqOf_tup, seqOf_lst, tyN_tup, tyN_lst, tyN_int, tyN_bl, tyN_str, tyN_non, isi_tt, at_0, at_1, at_2, at_3, Option.map_some, true_and, and_true, if_true, Bool.false_eq_true, if_false, Bool.not_true, Bool.not_false, ↓reduceIte, Nat.reduceAdd, Nat.reduceSub, exists_and_left, and_assoc]))
namespace C
def s_law_cell : DSp := Mn.s_law_cell_at
theorem l_law_cell : ∀ ds m Q, s_law_cell ds m Q → ds.length = 2 := Mn.l_law_cell_at
def t_law_cell : DS := (xSeq (xIf (dTest (dOp aLt (dVar 1) (dCB aLen (dCons (dVar 0) dNil)))) (xRet (dOp aIx (dVar 0) (dVar 1))) xNext)
  (xRet (dC (.int 0))))
theorem v_law_cell : Body 2 t_law_cell s_law_cell := Mn.v_law_cell_at
/-- numbers below bounds -/
def Below (ns bs : List Nat) : Prop := ns.length = bs.length ∧ ∀ (i n b : Nat), ns[i]? = some n → bs[i]? = some b → n < b
theorem Below.nil : Below [] [] := ⟨rfl, fun i n b h => by simp at h⟩
theorem Below.snoc {ns bs : List Nat} {n b : Nat} (h : Below ns bs) (hn : n < b) : Below (ns ++ [n]) (bs ++ [b]) := by
  refine ⟨by rw [List.length_append, List.length_append, h.1]; rfl, fun i x y hx hy => ?_⟩
  by_cases hi : i < ns.length
  · rw [List.getElem?_append_left hi] at hx
    rw [List.getElem?_append_left (by rw [← h.1]; exact hi)] at hy
    exact h.2 i x y hx hy
  · by_cases he : i = ns.length
    · subst he
      rw [List.getElem?_append_right (Nat.le_refl _), Nat.sub_self] at hx
      rw [h.1, List.getElem?_append_right (Nat.le_refl _), Nat.sub_self] at hy
      cases hx; cases hy
      exact hn
    · rw [List.getElem?_eq_none (by rw [List.length_append, List.length_singleton]; omega)] at hx
      cases hx
theorem Below.get {ns bs : List Nat} (h : Below ns bs) {i b : Nat} (hb : bs[i]? = some b) : ∃ n, ns[i]? = some n ∧ n < b := by
  have hi : i < bs.length := (List.getElem?_eq_some_iff.mp hb).1
  have hn : i < ns.length := by rw [h.1]; exact hi
  exact ⟨ns[i], List.getElem?_eq_getElem hn, h.2 i _ b (List.getElem?_eq_getElem hn) hb⟩
def s_law_draws : DSp := fun ds m Q => ∃ (z : Int) (bs : List Nat), ds = [.int z, .lst (bs.map nD)] ∧ bs.length ≤ 1000 ∧ (∀ b ∈ bs, 1 ≤ b ∧ b < 1073741824) ∧ ∀ ns : List Nat, Below ns bs → Q (.lst (ns.map nD)) m
theorem l_law_draws : ∀ ds m Q, s_law_draws ds m Q → ds.length = 2 := by rintro ds m Q ⟨s, d, rfl, _⟩; rfl
def t_law_draws : DS := (xSeq (xAsg (dLstM dNil) (gV 2))
  (xSeq (xIf (dTest (dOp aGe (dVar 0) (dOp aPow (dC (.int 10)) (dC (.int 18))))) (xSeq (xAsg (dOp aSub (dVar 0) (dOp aPow (dC (.int 10)) (dC (.int 18)))) (gV 4))
  (xSeq (xFor (sSeq (dVar 1)) (gV 5) (xSeq (xDrop (dAppend (dVar 2) (dOp aMod (dVar 4) (dVar 5))))
  (xAsg (dOp aDiv (dVar 4) (dVar 5)) (gV 4))))
  (xRetF 2))) xNext)
  (xSeq (xFor (sRg1 (dCB aLen (dCons (dVar 1) dNil))) (gV 3) (xSeq (xAsg (dOp aMod (dOp aAdd (dOp aAdd (dOp aMulA (dVar 0) (dC (.int 48271))) (dOp aMulA (dVar 3) (dC (.int 69621)))) (dC (.int 11))) (dC (.int 2147483647))) (gV 6))
  (xSeq (xAsg (dOp aMod (dOp aAdd (dOp aMulA (dVar 6) (dC (.int 16807))) (dVar 3)) (dC (.int 998244353))) (gV 6))
  (xDrop (dAppend (dVar 2) (dOp aMod (dVar 6) (dOp aIx (dVar 1) (dVar 3))))))))
  (xRetF 2))))
theorem v_law_draws : Body 7 t_law_draws s_law_draws := by
  rintro ds m Q ⟨z, bs, rfl, hl, hb, q⟩
  unfold t_law_draws
  walk_at "d"
  refine ⟨small (k := 1000) (Nat.zero_le _), fun p hp => ?_⟩
  refine ⟨⟨by decide, by decide, by decide⟩, ?_⟩
  have fin : ∀ (ns : List Nat) (r : Ro), Below ns bs → r[2]? = some (some (.ref p)) → (endD m Q).rt (.lst (ns.map nD)) (er (up m p (.lst (ns.map nD))) p) := fun ns r hns hr => by
    rw [er_up hp]
    exact end_rt (q ns hns)
  by_cases hz : (10 : Int) ^ (18 : Int).toNat ≤ z
  · simp only [hz, decide_true, if_true]
    walk_at "d"
    refine ⟨⟨by decide, by decide, by decide⟩, _, .inl rfl, ?_⟩
    refine forGo_take (enc := nD) (fun pre rr m' => ∃ (ns : List Nat) (l : Int) (x3 x5 x6 : Option D), Below ns pre ∧ rr = [some (.int z), some (.lst (bs.map nD)), some (.ref p), x3, some (.int l), x5, x6] ∧ m' = up m p (.lst (ns.map nD))) bs [] _ _ _ rfl ⟨[], _, none, none, none, .nil, rfl, rfl⟩ ?_ ?_
    · rintro pre b post rr m' P e ⟨ns, l, x3, x5, x6, hns, rfl, rfl⟩ hP
      have hbb := hb b (by rw [e]; simp)
      have hlp : pre.length < 1000 := by have := congrArg List.length e; rw [List.length_append, List.length_cons] at this; omega
      unfold nD
      walk_at "d"
      refine ⟨_, up_same, by omega, _, up_same, by rw [List.length_map, hns.1]; exact small' (k := 1000) (by omega), ?_⟩
      walk_at "d"
      refine ⟨⟨by omega, by omega⟩, ?_⟩
      rw [up_up]
      have r1 := Int.emod_nonneg l (show (b : Int) ≠ 0 by omega)
      have r2 := Int.emod_lt_of_pos l (show (0 : Int) < b by omega)
      refine hP _ _ ⟨ns ++ [(l % b).toNat], _, _, _, _, hns.snoc (by omega), rfl, ?_⟩
      rw [List.map_append, List.map_cons, List.map_nil]
      unfold nD
      rw [Int.toNat_of_nonneg r1]
    · rintro rr m' ⟨ns, l, x3, x5, x6, hns, rfl, rfl⟩
      exact ⟨_, _, rfl, up_same, fin ns [none, none, some (.ref p)] hns rfl⟩
  · simp only [hz, decide_false, Bool.false_eq_true, if_false]
    walk_at "d"
    rw [List.length_map]
    refine ⟨by omega, by omega, ?_⟩
    rw [rgD_nat]
    refine forGo_take (enc := nD) (fun pre rr m' => ∃ (ns : List Nat) (x3 x4 x5 x6 : Option D), Below ns (bs.take pre.length) ∧ rr = [some (.int z), some (.lst (bs.map nD)), some (.ref p), x3, x4, x5, x6] ∧ m' = up m p (.lst (ns.map nD))) (List.range bs.length) [] _ _ _ rfl ⟨[], none, none, none, none, .nil, rfl, rfl⟩ ?_ ?_
    · rintro pre k post rr m' P e ⟨ns, x3, x4, x5, x6, hns, rfl, rfl⟩ hP
      have hk : k = pre.length ∧ pre.length < bs.length := by
        have h1 : (List.range bs.length)[pre.length]? = some k := by rw [e, List.getElem?_append_right (Nat.le_refl _), Nat.sub_self]; rfl
        have h2 := (List.getElem?_eq_some_iff.mp h1).1
        rw [List.length_range] at h2
        rw [List.getElem?_range h2] at h1
        cases h1
        exact ⟨rfl, h2⟩
      obtain ⟨rfl, hk⟩ := hk
      have hbb := hb bs[pre.length] (List.getElem_mem hk)
      unfold nD
      walk_at "d"
      refine ⟨.inr ⟨by decide, by decide⟩, .inr ⟨by decide, by decide⟩, by decide, .inr ⟨by decide, by decide⟩, by decide, ?_⟩
      generalize ((z * 48271 + (pre.length : Int) * 69621 + 11) % 2147483647 * 16807 + (pre.length : Int)) % 998244353 = y
      refine ⟨_, up_same, _, (by rw [at_nat, List.getElem?_map, List.getElem?_eq_getElem hk]; rfl), ?_⟩
      walk_at "d"
      refine ⟨by omega, _, up_same, by rw [List.length_map, hns.1, List.length_take]; exact small' (k := 1000) (by omega), ?_⟩
      rw [up_up]
      have r1 := Int.emod_nonneg y (show (bs[pre.length] : Int) ≠ 0 by omega)
      have r2 := Int.emod_lt_of_pos y (show (0 : Int) < bs[pre.length] by omega)
      refine hP _ _ ⟨ns ++ [(y % bs[pre.length]).toNat], _, _, _, _, ?_, rfl, ?_⟩
      · rw [List.length_append, List.length_singleton, List.take_succ_eq_append_getElem hk]
        exact hns.snoc (by omega)
      · rw [List.map_append, List.map_cons, List.map_nil]
        unfold nD
        rw [Int.toNat_of_nonneg r1]
    · rintro rr m' ⟨ns, x3, x4, x5, x6, hns, rfl, rfl⟩
      rw [List.length_range, List.take_length] at hns
      exact ⟨_, _, rfl, up_same, fin ns [none, none, some (.ref p)] hns rfl⟩
end C
end Mn

set_option linter.all false
set_option maxHeartbeats 4000000
set_option autoImplicit false
set_option maxRecDepth 100000
namespace Mn
open PySem L2
variable [Tbs]
local macro_rules | `(tactic| walk_at "d") => `(tactic| (try simp only [xSetX, xRetX, xDropX, dCX, xRaise, xTryRet, dTupLcX, xStR, xStL, dSplit, dJoin, sStr, dLam, aStr, xNext, xSeq, xAsg, xRet, xRetF, xDrop, xIf, xPar, xPar3, xMatch, mGo, xFrz, xPut, xAug, xFor, dVar, dC, dOp, dTest, dChain, dAndV, dOrV, dNotV, dAnd, dOr, dNot, dIf, dNil, dCons, dTup, dLst, dLstM, dCB, dIsi, dLc, dLcM, dYes, wipeD, dSlice, oSome, oNone, aSl_tup, aSl_lst, dNeg, dStar, dNewD, dTupVals, dSortSet, dDictZ, sKeys, dFld, dMeth, dCallO, dGetC, dNewC, dDc, dStep, dIndexTD, dCountL, dCountS, dExtend, dAppend, dFrz, dLc2, dCountT, dIndexT, sqf_tup, sqf_lst, sqf_pair, sSeq, sSeq_tup, sSeq_lst, sRg1, sRg2, sZip2, sZip3, sZip4, sEnum, gV, gN, gC, gT, tupOf_tup, tupOf_pair, aAdd_int, aAdd_tup, aAdd_lst, aSub_int, aMul_int, aDiv_int, aMod_int, aPow_int, aCmp_int, aIx_tup, aIx_lst, aIx_scr, aIx_pair, aMax_int, aMin_int, aInt_bl, aInt_int, aLen_tup, aLen_lst, aLen_scr, aLen_pair, aTuple_lst, aTuple_tup, aIsB_bl, aNotB_bl, aEq_int, aNe_int, startD, List.map_cons, List.map_nil, List.length_cons, List.length_nil, List.cons_append, List.nil_append, List.replicate_zero, List.replicate_succ, List.append_nil, List.getElem?_cons_zero, List.getElem?_cons_succ, List.set_cons_zero, List.set_cons_succ, Option.some.injEq, exists_eq_left', exists_eq_left, exists_eq', D.int.injEq, D.bl.injEq, D.tup.injEq, D.lst.injEq, D.pair.injEq, D.ref.injEq, List.cons.injEq, Nat.sub_self, Nat.zero_add, Nat.add_sub_cancel, seqI_tup, seqI_lst, seqOf_tup, seqOf_lst, tyN_tup, tyN_lst, tyN_int, tyN_bl, tyN_str, tyN_non, isi_tt, at_0, at_1, at_2, at_3, Option.map_some, true_and, and_true, if_true, Bool.false_eq_true, if_false, Bool.not_true, Bool.not_false, ↓reduceIte, Nat.reduceAdd, Nat.reduceSub, exists_and_left, and_assoc]))
namespace C
/-- a row that holds all numbers below w, turned -/
theorem turned {g w b : Nat} {row : List Nat} (hl : row.length = g) (hw : w < g) (hr : ∀ x ∈ row, x < w) (hi : ∀ i, i < w → row[i]? = some i) (hb : b < g) : Stp1 g (row.drop b ++ row.take b) w := by
  have hp : ∀ x, x ∈ row.drop b ++ row.take b ↔ x ∈ row := fun x => by
    rw [List.mem_append, Or.comm, ← List.mem_append, List.take_append_drop]
  refine ⟨by rw [List.length_append, List.length_drop, List.length_take]; omega, hw, fun x hx => hr x ((hp x).mp hx), fun y hy => (hp y).mpr (List.mem_of_getElem? (hi y hy))⟩
theorem sIx_nat {n a d : Nat} (h : a ≤ n) : HT.sIx n d (some (a : Int)) = a := by
  unfold HT.sIx
  simp only
  split <;> omega
theorem cut_from (l : List D) (a : Nat) (h : a ≤ l.length) : cutD l (some (a : Int)) none = l.drop a := by
  unfold cutD
  rw [sIx_nat h]
  show (l.drop a).take (l.length - a) = _
  rw [List.take_of_length_le (by rw [List.length_drop]; omega)]
theorem cut_to (l : List D) (a : Nat) (h : a ≤ l.length) : cutD l none (some (a : Int)) = l.take a := by
  unfold cutD
  rw [sIx_nat h]
  rfl
theorem cut_mid (l : List D) (a b : Nat) (h1 : a ≤ l.length) (h2 : b ≤ l.length) : cutD l (some (a : Int)) (some (b : Int)) = (l.drop a).take (b - a) := by
  unfold cutD
  rw [sIx_nat h1, sIx_nat h2]
def s_law_attribute : DSp := fun ds m Q => ∃ ns : List Nat, ds = [.lst (ns.map nD)] ∧ ns.length = 8 ∧ (∀ n ∈ ns, n < 60) ∧ ∀ a : At, a.V → Q a.enc m
theorem l_law_attribute : ∀ ds m Q, s_law_attribute ds m Q → ds.length = 1 := by rintro ds m Q ⟨ns, rfl, _⟩; rfl
def t_law_attribute : DS := (xSeq (xPar 3 4 (dCons (dOp aIx (dTup (dCons (dC (.int 2)) (dCons (dC (.int 3)) (dCons (dC (.int 4)) (dCons (dC (.int 4)) (dCons (dC (.int 5)) (dCons (dC (.int 6)) (dCons (dC (.int 1)) (dCons (dC (.int 3)) dNil))))))))) (dOp aMod (dOp aIx (dVar 0) (dC (.int 0))) (dC (.int 8)))) (dCons (dLstM dNil) dNil)))
  (xSeq (xAsg (dVar 3) (gV 1))
  (xSeq (xFor (sRg1 (dOp aMod (dOp aIx (dVar 0) (dC (.int 1))) (dC (.int 4)))) (gV 2) (xIf (dTest (dOp aGt (dVar 1) (dC (.int 1)))) (xSeq (xAsg (dOp aAdd (dC (.int 1)) (dOp aMod (dOp aIx (dVar 0) (dOp aAdd (dC (.int 2)) (dVar 2))) (dOp aSub (dVar 1) (dC (.int 1))))) (gV 5))
  (xSeq (xAsg (dOp aMod (dOp aIx (dVar 0) (dOp aAdd (dC (.int 5)) (dVar 2))) (dVar 1)) (gV 6))
  (xSeq (xAsg (dLc (sRg1 (dVar 1)) [8] (gV 8) dYes (dIf (dTest (dOp aLt (dVar 8) (dVar 5))) (dVar 8) (dOp aMod (dOp aAdd (dOp aMulA (dVar 8) (dC (.int 7))) (dOp aIx (dVar 0) (dOp aAdd (dC (.int 5)) (dVar 2)))) (dVar 5)))) (gV 7))
  (xSeq (xDrop (dAppend (dVar 4) (dCB aTuple (dCons (dOp aAdd (dSlice (dVar 7) (oSome (dVar 6)) oNone) (dSlice (dVar 7) oNone (oSome (dVar 6)))) dNil))))
  (xAsg (dVar 5) (gV 1)))))) xNext))
  (xRet (dTup (dCons (dVar 3) (dCons (dCB aTuple (dCons (dVar 4) dNil)) dNil)))))))
theorem eight (n : Nat) : ∃ k : Nat, 1 ≤ k ∧ k ≤ 6 ∧ at_ [D.int 2, .int 3, .int 4, .int 4, .int 5, .int 6, .int 1, .int 3] ((n : Int) % 8) = some (nD k) := by
  have h : (n : Int) % 8 = ((n % 8 : Nat) : Int) := by omega
  rw [h, at_nat]
  have hj : n % 8 < 8 := Nat.mod_lt _ (by decide)
  generalize n % 8 = j at hj
  match j, hj with
  | 0, _ => exact ⟨2, by decide, by decide, rfl⟩
  | 1, _ => exact ⟨3, by decide, by decide, rfl⟩
  | 2, _ => exact ⟨4, by decide, by decide, rfl⟩
  | 3, _ => exact ⟨4, by decide, by decide, rfl⟩
  | 4, _ => exact ⟨5, by decide, by decide, rfl⟩
  | 5, _ => exact ⟨6, by decide, by decide, rfl⟩
  | 6, _ => exact ⟨1, by decide, by decide, rfl⟩
  | 7, _ => exact ⟨3, by decide, by decide, rfl⟩
theorem castmod (a b : Nat) : (a : Int) % (b : Int) = ((a % b : Nat) : Int) := (Int.natCast_emod a b).symm
theorem v_law_attribute : Body 9 t_law_attribute s_law_attribute := by
  rintro ds m Q ⟨ns, rfl, hl, hn, q⟩
  have get : ∀ i, i < 8 → ∃ n, (ns.map nD)[i]? = some (nD n) ∧ n < 60 := fun i hi => ⟨ns[i], by rw [List.getElem?_map, List.getElem?_eq_getElem (by omega)]; rfl, hn _ (List.getElem_mem _)⟩
  obtain ⟨n0, e0, h0⟩ := get 0 (by decide)
  obtain ⟨n1, e1, h1⟩ := get 1 (by decide)
  obtain ⟨many, k1, k2, ek⟩ := eight n0
  unfold t_law_attribute
  walk_at "d"
  refine ⟨small (k := 1000) (by decide), _, e0, ?_⟩
  unfold nD
  walk_at "d"
  refine ⟨by decide, _, ek, small (k := 1000) (by decide), fun p hp => ⟨_, e1, ?_⟩⟩
  unfold nD
  walk_at "d"
  refine ⟨by decide, by omega, by omega, ?_⟩
  rw [show (n1 : Int) % 4 = ((n1 % 4 : Nat) : Int) by omega, rgD_nat]
  have h4 : n1 % 4 ≤ 3 := by omega
  generalize n1 % 4 = turns at h4 ⊢
  refine forGo_take (enc := nD) (fun pre rr m' => ∃ (g : Nat) (ss : List (List Nat)) (x2 x5 x6 x7 x8 : Option D), 1 ≤ g ∧ g ≤ 6 ∧ leads many ss g ∧ ss.length ≤ pre.length ∧ rr = [some (.lst (ns.map nD)), some (nD g), x2, some (nD many), some (.ref p), x5, x6, x7, x8] ∧ m' = up m p (.lst (ss.map tD))) (List.range turns) [] _ _ _ rfl ⟨many, [], none, none, none, none, none, k1, k2, rfl, Nat.le_refl _, rfl, rfl⟩ ?_ ?_
  · rintro pre k post rr m' P e ⟨g, ss, x2, x5, x6, x7, x8, hg1, hg6, hld, hss, rfl, rfl⟩ hP
    have hk : k = pre.length ∧ pre.length < turns := by
      have h1 : (List.range turns)[pre.length]? = some k := by rw [e, List.getElem?_append_right (Nat.le_refl _), Nat.sub_self]; rfl
      have h2 := (List.getElem?_eq_some_iff.mp h1).1
      rw [List.length_range] at h2
      rw [List.getElem?_range h2] at h1
      cases h1
      exact ⟨rfl, h2⟩
    obtain ⟨rfl, hk⟩ := hk
    obtain ⟨n2, e2, h2⟩ := get (2 + pre.length) (by omega)
    obtain ⟨n5, e5, h5⟩ := get (5 + pre.length) (by omega)
    have z2 : (2 : Int) + (pre.length : Int) = ((2 + pre.length : Nat) : Int) := by omega
    have z5 : (5 : Int) + (pre.length : Int) = ((5 + pre.length : Nat) : Int) := by omega
    unfold nD
    walk_at "d"
    by_cases hg : (1 : Int) < (g : Int)
    · simp only [hg, decide_true, if_true]
      walk_at "d"
      rw [z2]
      refine ⟨_, (by rw [at_nat]; exact e2), ?_⟩
      unfold nD
      walk_at "d"
      refine ⟨by omega, ?_⟩
      rw [z5]
      refine ⟨_, (by rw [at_nat]; exact e5), ?_⟩
      unfold nD
      walk_at "d"
      have ew : (1 : Int) + (n2 : Int) % ((g : Int) - 1) = ((1 + n2 % (g - 1) : Nat) : Int) := by
        rw [show (g : Int) - 1 = ((g - 1 : Nat) : Int) by omega, castmod]; omega
      have hw : 1 + n2 % (g - 1) < g := by have := Nat.mod_lt n2 (show 0 < g - 1 by omega); omega
      have hw1 : 1 ≤ 1 + n2 % (g - 1) := by omega
      rw [ew]
      generalize 1 + n2 % (g - 1) = wide at hw hw1 ⊢
      have hby : n5 % g < g := Nat.mod_lt _ (by omega)
      rw [castmod n5 g]
      refine ⟨by omega, by omega, by omega, small (k := 1000) (by rw [rgD_nat, List.length_map, List.length_range]; omega), ?_⟩
      rw [rgD_nat]
      refine lcGo_maps (enc := nD) (fun i : Nat => nD (if i < wide then i else (i * 7 + n5) % wide)) (List.range g) [] _ (fun i hi K hK => ?_) ?_
      · have hi := List.mem_range.mp hi
        unfold nD
        walk_at "d"
        by_cases hiw : i < wide
        · rw [if_pos hiw] at hK
          simp only [show ((i : Int) < (wide : Int)) from by omega, decide_true, if_true]
          exact hK
        · rw [if_neg hiw] at hK
          simp only [show ¬ ((i : Int) < (wide : Int)) from by omega, decide_false, Bool.false_eq_true, if_false]
          rw [z5]
          refine ⟨.inr ⟨by decide, by decide⟩, _, (by rw [at_nat]; exact e5), ?_⟩
          unfold nD
          walk_at "d"
          refine ⟨by omega, ?_⟩
          rw [show (i : Int) * 7 + (n5 : Int) = ((i * 7 + n5 : Nat) : Int) by omega, castmod]
          exact hK
      · rw [List.nil_append]
        generalize hrow : (List.range g).map (fun i : Nat => if i < wide then i else (i * 7 + n5) % wide) = row
        have hmap : ((List.range g).map fun i : Nat => nD (if i < wide then i else (i * 7 + n5) % wide)) = row.map nD := by rw [← hrow, List.map_map]; rfl
        have hrl : row.length = g := by rw [← hrow, List.length_map, List.length_range]
        rw [hmap]
        walk_at "d"
        rw [cut_from _ _ (by rw [List.length_map]; omega), cut_to _ _ (by rw [List.length_map]; omega), ← List.map_drop, ← List.map_take, ← List.map_append]
        simp only [List.length_map]
        refine ⟨_, up_same, small (k := 1000) (by rw [List.length_drop, List.length_take]; omega), _, up_same, by rw [List.length_map]; exact small' (k := 1000) (by omega), ?_⟩
        rw [up_up]
        refine hP _ _ ⟨wide, ss ++ [row.drop (n5 % g) ++ row.take (n5 % g)], _, _, _, _, _, hw1, by omega, leads_snoc hld (turned hrl hw (fun x hx => ?_) (fun i hi => ?_) hby), by rw [List.length_append, List.length_append]; simp; omega, rfl, by simp only [List.map_append, List.map_cons, List.map_nil, tD]⟩
        · rw [← hrow] at hx
          obtain ⟨i, hi, rfl⟩ := List.mem_map.mp hx
          split
          · assumption
          · exact Nat.mod_lt _ (by omega)
        · rw [← hrow, List.getElem?_map, List.getElem?_range (by omega)]
          simp [hi]
    · simp only [hg, decide_false, Bool.false_eq_true, if_false]
      exact hP _ _ ⟨g, ss, _, _, _, _, _, hg1, hg6, hld, by rw [List.length_append]; omega, rfl, rfl⟩
  · rintro rr m' ⟨g, ss, x2, x5, x6, x7, x8, hg1, hg6, hld, hss, rfl, rfl⟩
    rw [List.length_range] at hss
    walk_at "d"
    refine ⟨_, by simp only [lstOf, up_same]; rfl, small (k := 1000) (by decide), ?_⟩
    have le : ∀ a o, m a = some o → up m p (.lst (ss.map tD)) a = some o := fun a o e => by rw [up_ne (fun z => by rw [z, hp] at e; cases e)]; exact e
    exact end_rtL le (q ⟨many, ss⟩ ⟨k1, k2, Nat.le_trans hss h4, leads_V hld⟩)
def s_law_scheme : DSp := fun ds m Q => ∃ z : Int, ds = [.int z] ∧ ∀ s : Sch, SchV s → Q (encS s) m
theorem l_law_scheme : ∀ ds m Q, s_law_scheme ds m Q → ds.length = 1 := by rintro ds m Q ⟨z, rfl, _⟩; rfl
def t_law_scheme : DS := (xSeq (xPar3 2 3 4 (dCons (dCB s_law_draws (dCons (dVar 0) (dCons (dOp aAdd (dLst (dCons (dC (.int 3)) dNil)) (dOp aMulL (dLst (dCons (dC (.int 60)) dNil)) (dC (.int 24)))) dNil))) (dCons (dLstM dNil) (dCons (dC (.int 1)) dNil))))
  (xSeq (xFor (sRg1 (dOp aAdd (dC (.int 1)) (dOp aIx (dVar 2) (dC (.int 0))))) (gV 1) (xSeq (xAsg (dCB s_law_attribute (dCons (dSlice (dVar 2) (oSome (dOp aAdd (dC (.int 1)) (dOp aMulA (dC (.int 8)) (dVar 1)))) (oSome (dOp aAdd (dC (.int 9)) (dOp aMulA (dC (.int 8)) (dVar 1))))) dNil)) (gV 5))
  (xIf (dTest (dOp aLe (dOp aMulA (dVar 4) (dOp aIx (dVar 5) (dC (.int 0)))) (dC (.int 60)))) (xSeq (xDrop (dAppend (dVar 3) (dVar 5)))
  (xAsg (dOp aMulA (dVar 4) (dOp aIx (dVar 5) (dC (.int 0)))) (gV 4))) xNext)))
  (xRet (dCB aTuple (dCons (dVar 3) dNil)))))
theorem prodN_snoc (l : List Nat) (a : Nat) : prodN (l ++ [a]) = prodN l * a := by unfold prodN; rw [List.foldl_append]; rfl
theorem v_law_scheme : Body 6 t_law_scheme s_law_scheme := by
  rintro ds m Q ⟨z, rfl, q⟩
  unfold t_law_scheme
  walk_at "d"
  have b25 : (List.replicate 24 [D.int 60]).flatten = (List.replicate 24 60).map nD := rfl
  have small2 : ∀ k : Nat, k ≤ 100 → k ≤ sizeLine := fun k hk => small (k := 1000) (by omega)
  refine ⟨small2 _ (by decide), small2 _ (by decide), ?_⟩
  unfold aMulL
  refine ⟨_, 24, rfl, rfl, by decide, small2 _ (by decide), ?_⟩
  rw [b25]
  refine ⟨_, _, rfl, rfl, small2 _ (by decide), z, 3 :: List.replicate 24 60, rfl, by decide, fun b hb => ?_, fun ns hns => ⟨small2 _ (by decide), fun p hp => ?_⟩⟩
  · rcases List.mem_cons.mp hb with rfl | hb
    · exact ⟨by decide, by decide⟩
    · rw [List.eq_of_mem_replicate hb]; exact ⟨by decide, by decide⟩
  have hnl : ns.length = 25 := hns.1
  obtain ⟨n0, e0, h0⟩ := hns.get (i := 0) (b := 3) rfl
  have hlt : ∀ i, 1 ≤ i → i < 25 → ∃ n, ns[i]? = some n ∧ n < 60 := fun i h1 h2 => hns.get (by
    rw [List.getElem?_cons, if_neg (by omega), List.getElem?_replicate, if_pos (by omega)])
  walk_at "d"
  refine ⟨_, (by rw [List.getElem?_map, e0]; rfl), ?_⟩
  unfold nD
  walk_at "d"
  refine ⟨by omega, by omega, ?_⟩
  rw [show (1 : Int) + (n0 : Int) = ((1 + n0 : Nat) : Int) by omega, rgD_nat]
  refine forGo_take (enc := nD) (fun pre rr m' => ∃ (s : Sch) (x1 x5 : Option D), s.length ≤ pre.length ∧ (pre ≠ [] → s ≠ []) ∧ (∀ a ∈ s, a.V) ∧ prodN (s.map At.n) ≤ 60 ∧ rr = [some (.int z), x1, some (.lst (ns.map nD)), some (.ref p), some (nD (prodN (s.map At.n))), x5] ∧ m' = up m p (.lst (s.map At.enc))) (List.range (1 + n0)) [] _ _ _ rfl ⟨[], none, none, Nat.le_refl _, fun h => absurd rfl h, (fun _ h => nomatch h), by decide, rfl, rfl⟩ ?_ ?_
  · rintro pre k post rr m' P e ⟨s, x1, x5, hsl, hsn, hV, hpr, rfl, rfl⟩ hP
    have hk : k = pre.length ∧ pre.length < 1 + n0 := by
      have h1 : (List.range (1 + n0))[pre.length]? = some k := by rw [e, List.getElem?_append_right (Nat.le_refl _), Nat.sub_self]; rfl
      have h2 := (List.getElem?_eq_some_iff.mp h1).1
      rw [List.length_range] at h2
      rw [List.getElem?_range h2] at h1
      cases h1
      exact ⟨rfl, h2⟩
    obtain ⟨rfl, hk⟩ := hk
    unfold nD
    walk_at "d"
    refine ⟨.inl ⟨by decide, by decide⟩, .inl ⟨by decide, by decide⟩, ?_⟩
    rw [show (1 : Int) + 8 * (pre.length : Int) = ((1 + 8 * pre.length : Nat) : Int) by omega, show (9 : Int) + 8 * (pre.length : Int) = ((9 + 8 * pre.length : Nat) : Int) by omega, cut_mid _ _ _ (by rw [List.length_map]; omega) (by rw [List.length_map]; omega), ← List.map_drop, ← List.map_take]
    refine ⟨_, rfl, by rw [List.length_take, List.length_drop]; omega, fun n hn => ?_, fun a ha => ?_⟩
    · obtain ⟨i, hi⟩ := List.mem_iff_getElem?.mp hn
      have hi8 : i < 8 := by have := (List.getElem?_eq_some_iff.mp hi).1; rw [List.length_take] at this; omega
      rw [List.getElem?_take_of_lt (by omega), List.getElem?_drop] at hi
      obtain ⟨n', e', h'⟩ := hlt (1 + 8 * pre.length + i) (by omega) (by omega)
      rw [e'] at hi
      cases hi
      exact h'
    · have h1 := ha.1; have h6 := ha.2.1
      unfold At.enc nD
      walk_at "d"
      refine ⟨.inl ⟨by omega, by omega⟩, ?_⟩
      have em : ((prodN (s.map At.n) : Nat) : Int) * (a.n : Int) = ((prodN (s.map At.n) * a.n : Nat) : Int) := by rw [Int.natCast_mul]
      by_cases hc : prodN (s.map At.n) * a.n ≤ 60
      · simp only [em, show ((prodN (s.map At.n) * a.n : Nat) : Int) ≤ 60 from by omega, decide_true, if_true]
        refine ⟨_, up_same, _, up_same, by rw [List.length_map]; exact small' (k := 1000) (by omega), .inl ⟨by omega, by omega⟩, ?_⟩
        rw [up_up]
        refine hP _ _ ⟨s ++ [a], some (nD pre.length), some a.enc, by rw [List.length_append, List.length_append]; simp; omega, fun _ h => by simp at h, fun b hb => ?_, ?_, ?_, ?_⟩
        · rcases List.mem_append.mp hb with hb | hb
          · exact hV b hb
          · rw [List.mem_singleton.mp hb]; exact ha
        · rw [List.map_append, List.map_cons, List.map_nil, prodN_snoc]; exact hc
        · rw [List.map_append, List.map_cons, List.map_nil, prodN_snoc]; rfl
        · rw [List.map_append]; rfl
      · simp only [em, show ¬ ((prodN (s.map At.n) * a.n : Nat) : Int) ≤ 60 from by omega, decide_false, Bool.false_eq_true, if_false]
        refine hP _ _ ⟨s, some (nD pre.length), some a.enc, by rw [List.length_append]; omega, fun _ h => ?_, hV, hpr, rfl, rfl⟩
        rw [h] at hc
        have : prodN (([] : List At).map At.n) * a.n = a.n := by show 1 * a.n = a.n; omega
        omega
  · rintro rr m' ⟨s, x1, x5, hsl, hsn, hV, hpr, rfl, rfl⟩
    rw [List.length_range] at hsl
    walk_at "d"
    refine ⟨_, by simp only [lstOf, up_same]; rfl, ?_⟩
    have le : ∀ a o, m a = some o → up m p (.lst (s.map At.enc)) a = some o := fun a o e => by rw [up_ne (fun z => by rw [z, hp] at e; cases e)]; exact e
    have hne : s ≠ [] := hsn (by intro h; have := congrArg List.length h; rw [List.length_range] at this; simp at this)
    exact end_rtL le (q s ⟨by cases s with | nil => exact absurd rfl hne | cons a r => simp, by omega, hV, hpr⟩)
end C
end Mn

set_option Elab.async false
set_option linter.all false
set_option maxRecDepth 100000
set_option maxHeartbeats 4000000
set_option autoImplicit false
namespace Mn
open PySem PySem.Spec PyProof.Rows L2
variable [Tbs]
/-! classes, as the top leaves them -/
theorem insB_ok {K : PySem.W.Frag} {C : Addr} (cl : Cls K C) (h : insB K C = true) : InsC K C := by
  obtain ⟨h1, h⟩ := He.ba h
  obtain ⟨h2, h⟩ := He.ba h
  obtain ⟨h3, h⟩ := He.ba h
  obtain ⟨h4, h5⟩ := He.ba h
  exact ⟨cl, of_decide_eq_true h1, of_decide_eq_true h2, of_decide_eq_true h3, of_decide_eq_true h4, fun T hT => of_decide_eq_true (List.all_eq_true.mp h5 T hT)⟩
/-- a def of a class -/
structure DfM (K : PySem.W.Frag) (c x : Str) (st : Stmt) (ps : List Str) (f : Addr) (fd : FuncData) : Prop where
  F : Fun K x (c ++ "." ++ x) st f fd
  b : Binds K fd ps []
section
variable {P : Program} {w : World} {K : PySem.W.Frag} {mg : Str → Option Value} {base : Heap} {fa : List He.Fa} {fn : List He.DefD}
theorem cls_of {c : Str} (g : (He.Fa.glo c).ok K = true) : KF.cls ⟨K, w, Tbs.T⟩ c (He.ga K c) := He.eqO_ok g
theorem noA_of {c f : Str} (g : (He.Fa.glo c).ok K = true) (n : (He.Fa.noat c f).ok K = true) : NoA ⟨K, w, Tbs.T⟩ [c] f := fun c' hc C hC => by
  rw [List.mem_singleton] at hc
  subst hc
  obtain rfl := cls_one hC (cls_of (w := w) g)
  exact He.noat_ok n
/-- a promise that nobody asks for -/
def sNo : DSp := fun _ _ _ => False
theorem fn_no {k : Nat} {f : Addr} {fd : FuncData} {ps : List Str} : FnD P w K mg base k f fd ps sNo :=
  ⟨fun vs H Q E ⟨_, _, _, _, _, _, z, _⟩ => z.elim, fun A outer s H args us vs Q E _ _ _ _ _ ⟨_, _, _, _, _, _, z, _⟩ => z.elim⟩
end
end Mn

set_option linter.all false
set_option maxHeartbeats 4000000
set_option autoImplicit false
set_option maxRecDepth 100000
namespace Mn
open PySem L2
variable [Tbs]
local macro_rules | `(tactic| walk_at "d") => `(tactic| (try simp only [xSetX, xRetX, xDropX, dCX, xRaise, xTryRet, dTupLcX, xStR, xStL, dSplit, dJoin, sStr, dLam, aStr, xNext, xSeq, xAsg, xRet, xRetF, xDrop, xIf, xPar, xPar3, xMatch, mGo, xFrz, xPut, xAug, xFor, dVar, dC, dOp, dTest, dChain, dAndV, dOrV, dNotV, dAnd, dOr, dNot, dIf, dNil, dCons, dTup, dLst, dLstM, dCB, dIsi, dLc, dLcM, dYes, wipeD, dSlice, oSome, oNone, aSl_tup, aSl_lst, dNeg, dStar, dNewD, dTupVals, dSortSet, dDictZ, sKeys, dFld, dMeth, dCallO, dGetC, dNewC, dDc, dStep, dIndexTD, dCountL, dCountS, dExtend, dAppend, dFrz, dLc2, dCountT, dIndexT, sqf_tup, sqf_lst, sqf_pair, sSeq, sSeq_tup, sSeq_lst, sRg1, sRg2, sZip2, sZip3, sZip4, sEnum, gV, gN, gC, gT, tupOf_tup, tupOf_pair, aAdd_int, aAdd_tup, aAdd_lst, aSub_int, aMul_int, aDiv_int, aMod_int, aPow_int, aCmp_int, aIx_tup, aIx_lst, aIx_scr, aIx_pair, aMax_int, aMin_int, aInt_bl, aInt_int, aLen_tup, aLen_lst, aLen_scr, aLen_pair, aTuple_lst, aTuple_tup, aIsB_bl, aNotB_bl, aEq_int, aNe_int, startD, List.map_cons, List.map_nil, List.length_cons, List.length_nil, List.cons_append, List.nil_append, List.replicate_zero, List.replicate_succ, List.append_nil, List.getElem?_cons_zero, List.getElem?_cons_succ, List.set_cons_zero, List.set_cons_succ, Option.some.injEq, exists_eq_left', exists_eq_left, exists_eq', D.int.injEq, D.bl.injEq, D.tup.injEq, D.lst.injEq, D.pair.injEq, D.ref.injEq, List.cons.injEq, Nat.sub_self, Nat.zero_add, Nat.add_sub_cancel, seqI_tup, seqI_lst, seqOf_tup, seqOf_lst, tyN_tup, tyN_lst, tyN_int, tyN_bl, tyN_str, tyN_non, isi_tt, at_0, at_1, at_2, at_3, Option.map_some, true_and, and_true, if_true, Bool.false_eq_true, if_false, Bool.not_true, Bool.not_false, ↓reduceIte, Nat.reduceAdd, Nat.reduceSub, exists_and_left, and_assoc]))
namespace C
/-- nested tuples of plain things -/
def SmD : Nat → D → Prop
  | n + 1, .tup ds => ds.length ≤ 1000000 ∧ ∀ d ∈ ds, SmD n d
  | _ + 1, .int _ => True
  | _ + 1, .bl _ => True
  | _ + 1, .non => True
  | _ + 1, .str _ => True
  | _, _ => False
def sR_law_is_same : Nat → DSp
  | 0 => sNo
  | n + 1 => fun ds m Q => ∃ x, ds = [x, x] ∧ SmD (n + 1) x ∧ Q (.bl true) m
abbrev s_law_is_same : DSp := sR_law_is_same 8
theorem l_law_is_same (n : Nat) : ∀ ds m Q, sR_law_is_same (n + 1) ds m Q → ds.length = 2 := by rintro ds m Q ⟨x, rfl, _⟩; rfl
def t_law_is_same (sc : DSp) : DS := (xSeq (xIf (dTest (dIsi "tuple" (dVar 1))) (xSeq (xIf (dOr (dNot (dTest (dIsi "tuple" (dVar 0)))) (dTest (dOp aNe (dCB aLen (dCons (dVar 0) dNil)) (dCB aLen (dCons (dVar 1) dNil))))) (xRet (dC (.bl false))) xNext)
  (xRet (dCB aAll (dCons (dLc (sRg1 (dCB aLen (dCons (dVar 1) dNil))) [2] (gV 2) dYes (dCB sc (dCons (dOp aIx (dVar 0) (dVar 2)) (dCons (dOp aIx (dVar 1) (dVar 2)) dNil)))) dNil)))) xNext)
  (xSeq (xIf (dTest (dOp aIsN (dVar 1) (dC .non))) (xRet (dOp aIsN (dVar 0) (dC .non))) xNext)
  (xSeq (xIf (dTest (dIsi "str" (dVar 1))) (xRet (dAndV (dIsi "str" (dVar 0)) (dOp aEq (dVar 0) (dVar 1)))) xNext)
  (xSeq (xIf (dOr (dNot (dTest (dIsi "int" (dVar 0)))) (dTest (dOp aNe (dIsi "bool" (dVar 0)) (dIsi "bool" (dVar 1))))) (xRet (dC (.bl false))) xNext)
  (xRet (dOp aEq (dVar 0) (dVar 1)))))))
theorem v_law_is_same (n : Nat) : Body 3 (t_law_is_same (sR_law_is_same n)) (sR_law_is_same (n + 1)) := by
  rintro ds m Q ⟨x, rfl, hx, q⟩
  have hq := end_rt (m0 := m) q
  have f : isiB "int" "tuple" = false ∧ isiB "bool" "tuple" = false ∧ isiB "NoneType" "tuple" = false ∧ isiB "str" "tuple" = false ∧ isiB "int" "str" = false ∧ isiB "bool" "str" = false ∧ isiB "str" "str" = true ∧ isiB "int" "int" = true ∧ isiB "bool" "int" = true ∧ isiB "int" "bool" = false ∧ isiB "bool" "bool" = true := ⟨rfl, rfl, rfl, rfl, rfl, rfl, rfl, rfl, rfl, rfl, rfl⟩
  obtain ⟨f1, f2, f3, f4, f5, f6, f7, f8, f9, f10, f11⟩ := f
  unfold t_law_is_same
  cases x with
  | tup ds =>
    obtain ⟨hl, hd⟩ := hx
    walk_at "d"
    simp only [decide_true, Bool.not_true, Bool.false_eq_true, if_false]
    refine ⟨by omega, by omega, small (k := 1000000) (by rw [rgD_len]; omega), ?_⟩
    rw [rgD_nat]
    refine lcGo_maps (enc := nD) (fun _ => .bl true) (List.range ds.length) [] _ (fun i hi K hK => ?_) ?_
    · have hi := List.mem_range.mp hi
      unfold nD
      walk_at "d"
      refine ⟨_, (by rw [at_nat]; exact List.getElem?_eq_getElem hi), _, (by rw [at_nat]; exact List.getElem?_eq_getElem hi), ?_⟩
      have hd1 := hd _ (List.getElem_mem hi)
      cases n with
      | zero => cases h : ds[i] <;> rw [h] at hd1 <;> exact hd1.elim
      | succ n => exact ⟨_, rfl, hd1, hK⟩
    · rw [List.nil_append]
      have e : (List.range ds.length).map (fun _ => D.bl true) = (List.replicate ds.length true).map D.bl := by
        rw [List.map_replicate, List.map_const', List.length_range]
      rw [e]
      refine aAll_list ?_
      rw [show (List.replicate ds.length true).all id = true from by rw [List.all_eq_true]; intro b hb; rw [List.eq_of_mem_replicate hb]; rfl]
      exact hq
  | int i =>
    walk_at "d"
    simp only [f1, f5, f8, f10, aIsN, Bool.not_true, Bool.false_eq_true, if_false, if_true, true_and, D.bl.injEq, exists_eq_left']
    walk_at "d"
    refine aNe_self (d := .bl false) (k := 1) (by trivial) (by decide) (fun _ h => nomatch h) ⟨_, rfl, ?_⟩
    simp only [Bool.false_eq_true, if_false, decide_true]
    exact hq
  | bl b =>
    walk_at "d"
    simp only [f2, f6, f9, f11, aIsN, Bool.not_true, Bool.false_eq_true, if_false, if_true, true_and, D.bl.injEq, exists_eq_left']
    walk_at "d"
    refine aNe_self (d := .bl true) (k := 1) (by trivial) (by decide) (fun _ h => nomatch h) ⟨_, rfl, ?_⟩
    simp only [Bool.false_eq_true, if_false]
    exact aEq_self (k := 1) (by cases b <;> exact ⟨rfl, rfl, by decide⟩) (by decide) (fun _ h => nomatch h) hq
  | non =>
    walk_at "d"
    simp only [f3, aIsN, Bool.false_eq_true, if_false, if_true, true_and, D.bl.injEq, exists_eq_left']
    exact hq
  | str x =>
    walk_at "d"
    simp only [f4, f7, aIsN, Bool.false_eq_true, if_false, if_true, true_and, D.bl.injEq, exists_eq_left', aEq, decide_true]
    exact hq
  | _ => exact hx.elim
end C
end Mn

set_option linter.all false
set_option maxHeartbeats 4000000
set_option autoImplicit false
set_option maxRecDepth 100000
namespace Mn
open PySem L2
variable [Tbs]
local macro_rules | `(tactic| walk_at "d") => `(tactic| (try simp only [xSetX, xRetX, xDropX, dCX, xRaise, xTryRet, dTupLcX, xStR, xStL, dSplit, dJoin, sStr, dLam, aStr, xNext, xSeq, xAsg, xRet, xRetF, xDrop, xIf, xPar, xPar3, xMatch, mGo, xFrz, xPut, xAug, xFor, dVar, dC, dOp, dTest, dChain, dAndV, dOrV, dNotV, dAnd, dOr, dNot, dIf, dNil, dCons, dTup, dLst, dLstM, dCB, dIsi, dLc, dLcM, dYes, wipeD, dSlice, oSome, oNone, aSl_tup, aSl_lst, dNeg, dStar, dNewD, dTupVals, dSortSet, dDictZ, sKeys, dFld, dMeth, dCallO, dGetC, dNewC, dDc, dStep, dIndexTD, dCountL, dCountS, dExtend, dAppend, dFrz, dLc2, dCountT, dIndexT, sqf_tup, sqf_lst, sqf_pair, sSeq, sSeq_tup, sSeq_lst, sRg1, sRg2, sZip2, sZip3, sZip4, sEnum, gV, gN, gC, gT, tupOf_tup, tupOf_pair, aAdd_int, aAdd_tup, aAdd_lst, aSub_int, aMul_int, aDiv_int, aMod_int, aPow_int, aCmp_int, aIx_tup, aIx_lst, aIx_scr, aIx_pair, aMax_int, aMin_int, aInt_bl, aInt_int, aLen_tup, aLen_lst, aLen_scr, aLen_pair, aTuple_lst, aTuple_tup, aIsB_bl, aNotB_bl, aEq_int, aNe_int, startD, List.map_cons, List.map_nil, List.length_cons, List.length_nil, List.cons_append, List.nil_append, List.replicate_zero, List.replicate_succ, List.append_nil, List.getElem?_cons_zero, List.getElem?_cons_succ, List.set_cons_zero, List.set_cons_succ, Option.some.injEq, exists_eq_left', exists_eq_left, exists_eq', D.int.injEq, D.bl.injEq, D.tup.injEq, D.lst.injEq, D.pair.injEq, D.ref.injEq, List.cons.injEq, Nat.sub_self, Nat.zero_add, Nat.add_sub_cancel, seqI_tup, seqI_lst, seqOf_tup, seqOf_lst, tyN_tup, tyN_lst, tyN_int, tyN_bl, tyN_str, tyN_non, isi_tt, at_0, at_1, at_2, at_3, Option.map_some, true_and, and_true, if_true, Bool.false_eq_true, if_false, Bool.not_true, Bool.not_false, ↓reduceIte, Nat.reduceAdd, Nat.reduceSub, exists_and_left, and_assoc]))
namespace C
/-! what is recognized is a scheme -/
theorem betw_nat {d : D} {hi : Int} (h : betw d 0 hi = true) : ∃ k : Nat, d = nD k ∧ (k : Int) ≤ hi := by
  cases d with
  | int i =>
    simp only [betw, Bool.and_eq_true, decide_eq_true_eq] at h
    exact ⟨i.toNat, by show D.int i = .int _; rw [Int.toNat_of_nonneg h.1], by omega⟩
  | _ => simp [betw] at h
theorem all_nat {hi : Int} : ∀ {ds : List D}, (ds.all fun d => betw d 0 hi) = true → ∃ l : List Nat, ds = l.map nD ∧ ∀ k ∈ l, (k : Int) ≤ hi
  | [], _ => ⟨[], rfl, fun _ h => nomatch h⟩
  | d :: ds, h => by
    rw [List.all_cons, Bool.and_eq_true] at h
    obtain ⟨k, rfl, hk⟩ := betw_nat h.1
    obtain ⟨l, rfl, hl⟩ := all_nat h.2
    exact ⟨k :: l, rfl, fun x hx => by
      rcases List.mem_cons.mp hx with rfl | hx
      · exact hk
      · exact hl x hx⟩
theorem maxI_le : ∀ {ns : List Int} {x : Int}, x ∈ ns → x ≤ maxI ns
  | n :: r, x, h => by
    have up : ∀ (l : List Int) (a : Int), a ≤ l.foldl max a ∧ ∀ x ∈ l, x ≤ l.foldl max a := by
      intro l
      induction l with
      | nil => intro a; exact ⟨Int.le_refl _, fun _ h => nomatch h⟩
      | cons y l ih =>
        intro a
        have := ih (max a y)
        simp only [List.foldl_cons]
        refine ⟨by omega, fun x hx => ?_⟩
        rcases List.mem_cons.mp hx with rfl | hx
        · omega
        · exact this.2 x hx
    simp only [maxI]
    rcases List.mem_cons.mp h with rfl | h
    · exact (up r x).1
    · exact (up r n).2 x h
/-- a list without doubles, as long as there are numbers below it, has them all -/
theorem full {k : Nat} {l : List Nat} (nd : l.Nodup) (hl : l.length = k) (h : ∀ x ∈ l, x < k) : ∀ y, y < k → y ∈ l := fun y hy => by
  refine Classical.byContradiction fun hn => ?_
  have := nodup_le (l := y :: l) (k := List.range k) (List.nodup_cons.mpr ⟨hn, nd⟩) fun x hx => by
    rcases List.mem_cons.mp hx with rfl | hx
    · exact List.mem_range.mpr hy
    · exact List.mem_range.mpr (h x hx)
  rw [List.length_cons, List.length_range] at this
  omega
theorem nodupN (l : List Nat) : l.eraseDups.Nodup := by
  have key : ∀ (n : Nat) (l : List Nat), l.length ≤ n → l.eraseDups.Nodup := by
    intro n
    induction n with
    | zero => intro l h; rw [List.eq_nil_of_length_eq_zero (Nat.le_zero.mp h)]; simp
    | succ n ih =>
      intro l h
      cases l with
      | nil => simp
      | cons a r =>
        rw [List.eraseDups_cons]
        refine List.nodup_cons.mpr ⟨fun hm => ?_, ih _ (Nat.le_trans (List.length_filter_le _ _) (Nat.le_of_succ_le_succ h))⟩
        rw [List.mem_eraseDups, List.mem_filter] at hm
        simp at hm
  exact key _ l (Nat.le_refl _)
theorem gbehind_is {st : D} {g : Nat} {k : Int} (hg : 1 ≤ g) (h : gbehind st g = k) (hk : k ≠ 0) : ∃ (l : List Nat) (g' : Nat), st = tD l ∧ k = (g' : Int) ∧ 1 ≤ g' ∧ Stp1 g l g' := by
  cases st with
  | tup ds =>
    unfold gbehind at h
    simp only at h
    split at h
    · rename_i hc
      obtain ⟨l, rfl, hl⟩ := all_nat hc.2
      split at h
      · rename_i hm
        rw [toI_nD] at h hm
        have hcd : (((l.eraseDups).map fun k : Nat => (k : Int)).length : Int) = card (l.map fun k : Nat => (k : Int)) := by
          refine card_of (List.Pairwise.map _ (fun a b h e => h (by omega)) (nodupN l)) fun x => ?_
          simp only [List.mem_map, List.mem_eraseDups]
        rw [List.length_map] at hcd
        rw [← hcd] at h hm
        have hmx : ∀ x ∈ l, x < l.eraseDups.length := fun x hx => by
          have := maxI_le (List.mem_map.mpr ⟨x, hx, rfl⟩ : ((x : Nat) : Int) ∈ l.map fun k : Nat => (k : Int))
          omega
        refine ⟨l, l.eraseDups.length, rfl, h.symm, by omega, ?_, ?_, hmx, fun y hy => ?_⟩
        · have := hc.1; rw [List.length_map] at this; omega
        · cases hl0 : l with
          | nil => rw [hl0] at h; simp at h; omega
          | cons a r =>
            have z := hm
            have le : maxI (l.map fun k : Nat => (k : Int)) ≤ (g : Int) - 2 := by
              have hb := hl
              rw [hl0] at hb ⊢
              rw [List.map_cons]
              exact foldl_max_le _ _ (hb a (by simp)) fun x hx => by
                obtain ⟨y, hy, rfl⟩ := List.mem_map.mp hx
                exact hb y (List.mem_cons_of_mem _ hy)
            rw [hl0] at z le
            omega
        · have := full (nodupN l) rfl (fun x hx => hmx x (List.mem_eraseDups.mp hx)) y hy
          exact List.mem_eraseDups.mp this
      · exact absurd h.symm hk
    · exact absurd h.symm hk
  | _ => exact absurd h.symm hk
theorem stepsOk_is : ∀ {ds : List D} {g : Nat}, 1 ≤ g → stepsOk g ds = true → ∃ ss : List (List Nat), ds = ss.map tD ∧ stepsV g ss
  | [], _, _, _ => ⟨[], rfl, trivial⟩
  | d :: ds, g, hg, h => by
    rw [stepsOk, Bool.and_eq_true, decide_eq_true_eq] at h
    obtain ⟨l, g', rfl, e, h1, hs⟩ := gbehind_is hg rfl h.1
    rw [e] at h
    obtain ⟨ss, rfl, hv⟩ := stepsOk_is h1 h.2
    exact ⟨l :: ss, rfl, g', hs, hv⟩
theorem isAttr_enc {d : D} (h : isAttr d = true) : ∃ a : At, d = a.enc ∧ a.V := by
  unfold isAttr at h
  split at h
  · rename_i n steps
    simp only [Bool.and_eq_true, decide_eq_true_eq] at h
    obtain ⟨⟨⟨h1, h6⟩, h3⟩, h4⟩ := h
    have en : n = ((n.toNat : Nat) : Int) := by omega
    rw [en] at h4
    obtain ⟨ss, rfl, hv⟩ := stepsOk_is (by omega) h4
    refine ⟨⟨n.toNat, ss⟩, ?_, by show 1 ≤ n.toNat; omega, by show n.toNat ≤ 6; omega, by rw [List.length_map] at h3; exact h3, hv⟩
    show D.tup [.int n, .tup (ss.map tD)] = .tup [.int ((n.toNat : Nat) : Int), .tup (ss.map tD)]
    rw [← en]
  · cases h
theorem allAttr : ∀ {ds : List D}, ds.all isAttr = true → ∃ s : Sch, ds = s.map At.enc ∧ ∀ a ∈ s, a.V
  | [], _ => ⟨[], rfl, fun _ h => nomatch h⟩
  | d :: ds, h => by
    rw [List.all_cons, Bool.and_eq_true] at h
    obtain ⟨a, rfl, ha⟩ := isAttr_enc h.1
    obtain ⟨s, rfl, hs⟩ := allAttr h.2
    exact ⟨a :: s, rfl, fun x hx => by
      rcases List.mem_cons.mp hx with rfl | hx
      · exact ha
      · exact hs x hx⟩
theorem isSch_enc {d : D} (h : isSch d = true) : ∃ s : Sch, d = encS s ∧ SchV s := by
  unfold isSch at h
  split at h
  · rename_i as
    simp only [Bool.and_eq_true, decide_eq_true_eq] at h
    obtain ⟨⟨⟨h1, h2⟩, h3⟩, h4⟩ := h
    obtain ⟨s, rfl, hs⟩ := allAttr h3
    rw [List.length_map] at h1 h2
    refine ⟨s, rfl, h1, h2, hs, ?_⟩
    have e : (s.map At.enc).map firstI = (s.map At.n).map fun k : Nat => (k : Int) := by rw [List.map_map, List.map_map]; rfl
    rw [e] at h4
    have e2 := prod_cast (s.map At.n) 1
    have e3 : prodI ((s.map At.n).map fun k : Nat => (k : Int)) = ((prodN (s.map At.n) : Nat) : Int) := e2
    rw [e3] at h4
    omega
  · cases h
theorem enc_inj {a b : At} (h : a.enc = b.enc) : a = b := by
  obtain ⟨n, ss⟩ := a
  obtain ⟨n', ss'⟩ := b
  simp only [At.enc, nD, D.tup.injEq, List.cons.injEq, D.int.injEq, and_true] at h
  obtain ⟨h1, h2⟩ := h
  have e1 : n = n' := by omega
  have inj : ∀ {x y : List Nat}, tD x = tD y → x = y := fun {x y} h => by
    simp only [tD, D.tup.injEq] at h
    exact (List.map_inj_right (fun a b h => by simp only [nD, D.int.injEq] at h; omega)).mp h
  have e2 : ss = ss' := (List.map_inj_right (fun a b h => inj h)).mp h2
  rw [e1, e2]
theorem encS_inj {s t : Sch} (h : encS s = encS t) : s = t := by
  simp only [encS, D.tup.injEq] at h
  exact (List.map_inj_right (fun a b h => enc_inj h)).mp h
end C
end Mn

set_option linter.all false
set_option maxHeartbeats 4000000
set_option autoImplicit false
set_option maxRecDepth 100000
namespace Mn
open PySem L2
variable [Tbs]
local macro_rules | `(tactic| walk_at "d") => `(tactic| (try simp only [xSetX, xRetX, xDropX, dCX, xRaise, xTryRet, dTupLcX, xStR, xStL, dSplit, dJoin, sStr, dLam, aStr, xNext, xSeq, xAsg, xRet, xRetF, xDrop, xIf, xPar, xPar3, xMatch, mGo, xFrz, xPut, xAug, xFor, dVar, dC, dOp, dTest, dChain, dAndV, dOrV, dNotV, dAnd, dOr, dNot, dIf, dNil, dCons, dTup, dLst, dLstM, dCB, dIsi, dLc, dLcM, dYes, wipeD, dSlice, oSome, oNone, aSl_tup, aSl_lst, dNeg, dStar, dNewD, dTupVals, dSortSet, dDictZ, sKeys, dFld, dMeth, dCallO, dGetC, dNewC, dDc, dStep, dIndexTD, dCountL, dCountS, dExtend, dAppend, dFrz, dLc2, dCountT, dIndexT, sqf_tup, sqf_lst, sqf_pair, sSeq, sSeq_tup, sSeq_lst, sRg1, sRg2, sZip2, sZip3, sZip4, sEnum, gV, gN, gC, gT, tupOf_tup, tupOf_pair, aAdd_int, aAdd_tup, aAdd_lst, aSub_int, aMul_int, aDiv_int, aMod_int, aPow_int, aCmp_int, aIx_tup, aIx_lst, aIx_scr, aIx_pair, aMax_int, aMin_int, aInt_bl, aInt_int, aLen_tup, aLen_lst, aLen_scr, aLen_pair, aTuple_lst, aTuple_tup, aIsB_bl, aNotB_bl, aEq_int, aNe_int, startD, List.map_cons, List.map_nil, List.length_cons, List.length_nil, List.cons_append, List.nil_append, List.replicate_zero, List.replicate_succ, List.append_nil, List.getElem?_cons_zero, List.getElem?_cons_succ, List.set_cons_zero, List.set_cons_succ, Option.some.injEq, exists_eq_left', exists_eq_left, exists_eq', D.int.injEq, D.bl.injEq, D.tup.injEq, D.lst.injEq, D.pair.injEq, D.ref.injEq, List.cons.injEq, Nat.sub_self, Nat.zero_add, Nat.add_sub_cancel, seqI_tup, seqI_lst, seqOf_tup, seqOf_lst, tyN_tup, tyN_lst, tyN_int, tyN_bl, tyN_str, tyN_non, isi_tt, at_0, at_1, at_2, at_3, Option.map_some, true_and, and_true, if_true, Bool.false_eq_true, if_false, Bool.not_true, Bool.not_false, ↓reduceIte, Nat.reduceAdd, Nat.reduceSub, exists_and_left, and_assoc]))
namespace C
open SX
/-! splitting and joining -/
/-! the texts of schemes -/
/-! numbers in words -/
end C
end Mn

set_option linter.all false
set_option maxHeartbeats 4000000
set_option autoImplicit false
set_option maxRecDepth 100000
namespace Mn
open PySem L2
variable [Tbs]
local macro_rules | `(tactic| walk_at "d") => `(tactic| (try simp only [xSetX, xRetX, xDropX, dCX, xRaise, xTryRet, dTupLcX, xStR, xStL, dSplit, dJoin, sStr, dLam, aStr, xNext, xSeq, xAsg, xRet, xRetF, xDrop, xIf, xPar, xPar3, xMatch, mGo, xFrz, xPut, xAug, xFor, dVar, dC, dOp, dTest, dChain, dAndV, dOrV, dNotV, dAnd, dOr, dNot, dIf, dNil, dCons, dTup, dLst, dLstM, dCB, dIsi, dLc, dLcM, dYes, wipeD, dSlice, oSome, oNone, aSl_tup, aSl_lst, dNeg, dStar, dNewD, dTupVals, dSortSet, dDictZ, sKeys, dFld, dMeth, dCallO, dGetC, dNewC, dDc, dStep, dIndexTD, dCountL, dCountS, dExtend, dAppend, dFrz, dLc2, dCountT, dIndexT, sqf_tup, sqf_lst, sqf_pair, sSeq, sSeq_tup, sSeq_lst, sRg1, sRg2, sZip2, sZip3, sZip4, sEnum, gV, gN, gC, gT, tupOf_tup, tupOf_pair, aAdd_int, aAdd_tup, aAdd_lst, aSub_int, aMul_int, aDiv_int, aMod_int, aPow_int, aCmp_int, aIx_tup, aIx_lst, aIx_scr, aIx_pair, aMax_int, aMin_int, aInt_bl, aInt_int, aLen_tup, aLen_lst, aLen_scr, aLen_pair, aTuple_lst, aTuple_tup, aIsB_bl, aNotB_bl, aEq_int, aNe_int, startD, List.map_cons, List.map_nil, List.length_cons, List.length_nil, List.cons_append, List.nil_append, List.replicate_zero, List.replicate_succ, List.append_nil, List.getElem?_cons_zero, List.getElem?_cons_succ, List.set_cons_zero, List.set_cons_succ, Option.some.injEq, exists_eq_left', exists_eq_left, exists_eq', D.int.injEq, D.bl.injEq, D.tup.injEq, D.lst.injEq, D.pair.injEq, D.ref.injEq, List.cons.injEq, Nat.sub_self, Nat.zero_add, Nat.add_sub_cancel, seqI_tup, seqI_lst, seqOf_tup, seqOf_lst, tyN_tup, tyN_lst, tyN_int, tyN_bl, tyN_str, tyN_non, isi_tt, at_0, at_1, at_2, at_3, Option.map_some, true_and, and_true, if_true, Bool.false_eq_true, if_false, Bool.not_true, Bool.not_false, ↓reduceIte, Nat.reduceAdd, Nat.reduceSub, exists_and_left, and_assoc]))
namespace C
open SX
/-! the program's texts -/
end C
end Mn

set_option linter.all false
set_option maxHeartbeats 4000000
set_option autoImplicit false
set_option maxRecDepth 100000
namespace Mn
open PySem L2
variable [Tbs]
local macro_rules | `(tactic| walk_at "d") => `(tactic| (try simp only [xSetX, xRetX, xDropX, dCX, xRaise, xTryRet, dTupLcX, xStR, xStL, dSplit, dJoin, sStr, dLam, aStr, xNext, xSeq, xAsg, xRet, xRetF, xDrop, xIf, xPar, xPar3, xMatch, mGo, xFrz, xPut, xAug, xFor, dVar, dC, dOp, dTest, dChain, dAndV, dOrV, dNotV, dAnd, dOr, dNot, dIf, dNil, dCons, dTup, dLst, dLstM, dCB, dIsi, dLc, dLcM, dYes, wipeD, dSlice, oSome, oNone, aSl_tup, aSl_lst, dNeg, dStar, dNewD, dTupVals, dSortSet, dDictZ, sKeys, dFld, dMeth, dCallO, dGetC, dNewC, dDc, dStep, dIndexTD, dCountL, dCountS, dExtend, dAppend, dFrz, dLc2, dCountT, dIndexT, sqf_tup, sqf_lst, sqf_pair, sSeq, sSeq_tup, sSeq_lst, sRg1, sRg2, sZip2, sZip3, sZip4, sEnum, gV, gN, gC, gT, tupOf_tup, tupOf_pair, aAdd_int, aAdd_tup, aAdd_lst, aSub_int, aMul_int, aDiv_int, aMod_int, aPow_int, aCmp_int, aIx_tup, aIx_lst, aIx_scr, aIx_pair, aMax_int, aMin_int, aInt_bl, aInt_int, aLen_tup, aLen_lst, aLen_scr, aLen_pair, aTuple_lst, aTuple_tup, aIsB_bl, aNotB_bl, aEq_int, aNe_int, startD, List.map_cons, List.map_nil, List.length_cons, List.length_nil, List.cons_append, List.nil_append, List.replicate_zero, List.replicate_succ, List.append_nil, List.getElem?_cons_zero, List.getElem?_cons_succ, List.set_cons_zero, List.set_cons_succ, Option.some.injEq, exists_eq_left', exists_eq_left, exists_eq', D.int.injEq, D.bl.injEq, D.tup.injEq, D.lst.injEq, D.pair.injEq, D.ref.injEq, List.cons.injEq, Nat.sub_self, Nat.zero_add, Nat.add_sub_cancel, seqI_tup, seqI_lst, seqOf_tup, seqOf_lst, tyN_tup, tyN_lst, tyN_int, tyN_bl, tyN_str, tyN_non, isi_tt, at_0, at_1, at_2, at_3, Option.map_some, true_and, and_true, if_true, Bool.false_eq_true, if_false, Bool.not_true, Bool.not_false, ↓reduceIte, Nat.reduceAdd, Nat.reduceSub, exists_and_left, and_assoc]))
namespace C
open SX
/-! numbers_in -/
/-! attribute_in -/
/-! joined, scheme_of -/
end C
end Mn

set_option linter.all false
set_option maxHeartbeats 4000000
set_option autoImplicit false
set_option maxRecDepth 100000
namespace Mn
open PySem L2
variable [Tbs]
local macro_rules | `(tactic| walk_at "d") => `(tactic| (try simp only [xSetX, xRetX, xDropX, dCX, xRaise, xTryRet, dTupLcX, xStR, xStL, dSplit, dJoin, sStr, dLam, aStr, xNext, xSeq, xAsg, xRet, xRetF, xDrop, xIf, xPar, xPar3, xMatch, mGo, xFrz, xPut, xAug, xFor, dVar, dC, dOp, dTest, dChain, dAndV, dOrV, dNotV, dAnd, dOr, dNot, dIf, dNil, dCons, dTup, dLst, dLstM, dCB, dIsi, dLc, dLcM, dYes, wipeD, dSlice, oSome, oNone, aSl_tup, aSl_lst, dNeg, dStar, dNewD, dTupVals, dSortSet, dDictZ, sKeys, dFld, dMeth, dCallO, dGetC, dNewC, dDc, dStep, dIndexTD, dCountL, dCountS, dExtend, dAppend, dFrz, dLc2, dCountT, dIndexT, sqf_tup, sqf_lst, sqf_pair, sSeq, sSeq_tup, sSeq_lst, sRg1, sRg2, sZip2, sZip3, sZip4, sEnum, gV, gN, gC, gT, tupOf_tup, tupOf_pair, aAdd_int, aAdd_tup, aAdd_lst, aSub_int, aMul_int, aDiv_int, aMod_int, aPow_int, aCmp_int, aIx_tup, aIx_lst, aIx_scr, aIx_pair, aMax_int, aMin_int, aInt_bl, aInt_int, aLen_tup, aLen_lst, aLen_scr, aLen_pair, aTuple_lst, aTuple_tup, aIsB_bl, aNotB_bl, aEq_int, aNe_int, startD, List.map_cons, List.map_nil, List.length_cons, List.length_nil, List.cons_append, List.nil_append, List.replicate_zero, List.replicate_succ, List.append_nil, List.getElem?_cons_zero, List.getElem?_cons_succ, List.set_cons_zero, List.set_cons_succ, Option.some.injEq, exists_eq_left', exists_eq_left, exists_eq', D.int.injEq, D.bl.injEq, D.tup.injEq, D.lst.injEq, D.pair.injEq, D.ref.injEq, List.cons.injEq, Nat.sub_self, Nat.zero_add, Nat.add_sub_cancel, seqI_tup, seqI_lst, seqOf_tup, seqOf_lst, tyN_tup, tyN_lst, tyN_int, tyN_bl, tyN_str, tyN_non, isi_tt, at_0, at_1, at_2, at_3, Option.map_some, true_and, and_true, if_true, Bool.false_eq_true, if_false, Bool.not_true, Bool.not_false, ↓reduceIte, Nat.reduceAdd, Nat.reduceSub, exists_and_left, and_assoc]))
namespace C
open SX
/-! lines_in, read_scheme: they may raise -/
theorem endX_rt {m0 : Mu} {Q : DK} {Ed : EK} {d : D} (h : Q d m0) : (endX m0 Q Ed).rt d m0 := ⟨m0, fun _ _ e => e, h⟩
theorem endX_ex {m0 : Mu} {Q : DK} {Ed : EK} {x : XD} (h : Ed x m0) : (endX m0 Q Ed).ex x m0 := ⟨m0, fun _ _ e => e, h⟩
end C
end Mn

set_option Elab.async false
set_option linter.all false
set_option maxRecDepth 100000
set_option maxHeartbeats 4000000
set_option autoImplicit false
namespace Mn
open PySem PySem.Spec PyProof.Rows L2
variable [Tbs]
/-! None in a tuple of whole numbers and Nones -/
end Mn

set_option Elab.async false
set_option linter.all false
set_option maxRecDepth 100000
set_option maxHeartbeats 4000000
set_option autoImplicit false
namespace Mn
open PySem PySem.Spec PyProof.Rows L2
variable [Tbs]
section
variable {X : Cx}
/-! sorted(set(t)), t a tuple of ints -/
def dSortSetI (ta : DT) : DT := fun r m Q => ta r m fun d m1 => ∃ ns : List Int, d = .tup (ns.map D.int) ∧ ns.length ≤ 1000 ∧ (∀ out : List Int, out.Nodup → (∀ k, k ∈ out ↔ k ∈ ns) → out.length < 64) ∧
  ∀ out : List Int, out.Pairwise (· < ·) → (∀ k, k ∈ out ↔ k ∈ ns) → Q (.lst (out.map D.int)) m1
end
end Mn

set_option linter.all false
set_option maxHeartbeats 4000000
set_option autoImplicit false
set_option maxRecDepth 100000
namespace Mn
open PySem L2
variable [Tbs]
local macro_rules | `(tactic| walk_at "d") => `(tactic| (try simp only [xSetX, xRetX, xDropX, dCX, xRaise, xTryRet, dTupLcX, xStR, xStL, dSplit, dJoin, sStr, dLam, aStr, xNext, xSeq, xAsg, xRet, xRetF, xDrop, xIf, xPar, xPar3, xMatch, mGo, xFrz, xPut, xAug, xFor, dVar, dC, dOp, dTest, dChain, dAndV, dOrV, dNotV, dAnd, dOr, dNot, dIf, dNil, dCons, dTup, dLst, dLstM, dCB, dIsi, dLc, dLcM, dYes, wipeD, dSlice, oSome, oNone, aSl_tup, aSl_lst, dNeg, dStar, dNewD, dTupVals, dSortSet, dSortSetI, dDictZ, sKeys, dFld, dMeth, dCallO, dGetC, dNewC, dDc, dStep, dIndexTD, dCountL, dCountS, dExtend, dAppend, dFrz, dLc2, dCountT, dIndexT, sqf_tup, sqf_lst, sqf_pair, sSeq, sSeq_tup, sSeq_lst, sRg1, sRg2, sZip2, sZip3, sZip4, sEnum, gV, gN, gC, gT, tupOf_tup, tupOf_pair, aAdd_int, aAdd_tup, aAdd_lst, aSub_int, aMul_int, aDiv_int, aMod_int, aPow_int, aCmp_int, aIx_tup, aIx_lst, aIx_scr, aIx_pair, aMax_int, aMin_int, aInt_bl, aInt_int, aLen_tup, aLen_lst, aLen_scr, aLen_pair, aTuple_lst, aTuple_tup, aIsB_bl, aNotB_bl, aEq_int, aNe_int, startD, List.map_cons, List.map_nil, List.length_cons, List.length_nil, List.cons_append, List.nil_append, List.replicate_zero, List.replicate_succ, List.append_nil, List.getElem?_cons_zero, List.getElem?_cons_succ, List.set_cons_zero, List.set_cons_succ, Option.some.injEq, exists_eq_left', exists_eq_left, exists_eq', D.int.injEq, D.bl.injEq, D.tup.injEq, D.lst.injEq, D.pair.injEq, D.ref.injEq, List.cons.injEq, Nat.sub_self, Nat.zero_add, Nat.add_sub_cancel, seqI_tup, seqI_lst, seqOf_tup, seqOf_lst, tyN_tup, tyN_lst, tyN_int, tyN_bl, tyN_str, tyN_non, isi_tt, at_0, at_1, at_2, at_3, Option.map_some, true_and, and_true, if_true, Bool.false_eq_true, if_false, Bool.not_true, Bool.not_false, ↓reduceIte, Nat.reduceAdd, Nat.reduceSub, exists_and_left, and_assoc]))
namespace C
open SX
/-! the law's own reading -/
end C
end Mn

set_option linter.all false
set_option maxHeartbeats 4000000
set_option autoImplicit false
set_option maxRecDepth 100000
namespace Mn
open PySem L2
variable [Tbs]
local macro_rules | `(tactic| walk_at "d") => `(tactic| (try simp only [xSetX, xRetX, xDropX, dCX, xRaise, xTryRet, dTupLcX, xStR, xStL, dSplit, dJoin, sStr, dLam, aStr, xNext, xSeq, xAsg, xRet, xRetF, xDrop, xIf, xPar, xPar3, xMatch, mGo, xFrz, xPut, xAug, xFor, dVar, dC, dOp, dTest, dChain, dAndV, dOrV, dNotV, dAnd, dOr, dNot, dIf, dNil, dCons, dTup, dLst, dLstM, dCB, dIsi, dLc, dLcM, dYes, wipeD, dSlice, oSome, oNone, aSl_tup, aSl_lst, dNeg, dStar, dNewD, dTupVals, dSortSet, dSortSetI, dDictZ, sKeys, dFld, dMeth, dCallO, dGetC, dNewC, dDc, dStep, dIndexTD, dCountL, dCountS, dExtend, dAppend, dFrz, dLc2, dCountT, dIndexT, sqf_tup, sqf_lst, sqf_pair, sSeq, sSeq_tup, sSeq_lst, sRg1, sRg2, sZip2, sZip3, sZip4, sEnum, gV, gN, gC, gT, tupOf_tup, tupOf_pair, aAdd_int, aAdd_tup, aAdd_lst, aSub_int, aMul_int, aDiv_int, aMod_int, aPow_int, aCmp_int, aIx_tup, aIx_lst, aIx_scr, aIx_pair, aMax_int, aMin_int, aInt_bl, aInt_int, aLen_tup, aLen_lst, aLen_scr, aLen_pair, aTuple_lst, aTuple_tup, aIsB_bl, aNotB_bl, aEq_int, aNe_int, startD, List.map_cons, List.map_nil, List.length_cons, List.length_nil, List.cons_append, List.nil_append, List.replicate_zero, List.replicate_succ, List.append_nil, List.getElem?_cons_zero, List.getElem?_cons_succ, List.set_cons_zero, List.set_cons_succ, Option.some.injEq, exists_eq_left', exists_eq_left, exists_eq', D.int.injEq, D.bl.injEq, D.tup.injEq, D.lst.injEq, D.pair.injEq, D.ref.injEq, List.cons.injEq, Nat.sub_self, Nat.zero_add, Nat.add_sub_cancel, seqI_tup, seqI_lst, seqOf_tup, seqOf_lst, tyN_tup, tyN_lst, tyN_int, tyN_bl, tyN_str, tyN_non, isi_tt, at_0, at_1, at_2, at_3, Option.map_some, true_and, and_true, if_true, Bool.false_eq_true, if_false, Bool.not_true, Bool.not_false, ↓reduceIte, Nat.reduceAdd, Nat.reduceSub, exists_and_left, and_assoc]))
namespace C
open SX
end C
end Mn

set_option linter.all false
set_option maxHeartbeats 4000000
set_option autoImplicit false
set_option maxRecDepth 100000
namespace Mn
open PySem L2
variable [Tbs]
local macro_rules | `(tactic| walk_at "d") => `(tactic| (try simp only [xSetX, xRetX, xDropX, dCX, xRaise, xTryRet, dTupLcX, xStR, xStL, dSplit, dJoin, sStr, dLam, aStr, xNext, xSeq, xAsg, xRet, xRetF, xDrop, xIf, xPar, xPar3, xMatch, mGo, xFrz, xPut, xAug, xFor, dVar, dC, dOp, dTest, dChain, dAndV, dOrV, dNotV, dAnd, dOr, dNot, dIf, dNil, dCons, dTup, dLst, dLstM, dCB, dIsi, dLc, dLcM, dYes, wipeD, dSlice, oSome, oNone, aSl_tup, aSl_lst, dNeg, dStar, dNewD, dTupVals, dSortSet, dSortSetI, dDictZ, sKeys, dFld, dMeth, dCallO, dGetC, dNewC, dDc, dStep, dIndexTD, dCountL, dCountS, dExtend, dAppend, dFrz, dLc2, dCountT, dIndexT, sqf_tup, sqf_lst, sqf_pair, sSeq, sSeq_tup, sSeq_lst, sRg1, sRg2, sZip2, sZip3, sZip4, sEnum, gV, gN, gC, gT, tupOf_tup, tupOf_pair, aAdd_int, aAdd_tup, aAdd_lst, aSub_int, aMul_int, aDiv_int, aMod_int, aPow_int, aCmp_int, aIx_tup, aIx_lst, aIx_scr, aIx_pair, aMax_int, aMin_int, aInt_bl, aInt_int, aLen_tup, aLen_lst, aLen_scr, aLen_pair, aTuple_lst, aTuple_tup, aIsB_bl, aNotB_bl, aEq_int, aNe_int, startD, List.map_cons, List.map_nil, List.length_cons, List.length_nil, List.cons_append, List.nil_append, List.replicate_zero, List.replicate_succ, List.append_nil, List.getElem?_cons_zero, List.getElem?_cons_succ, List.set_cons_zero, List.set_cons_succ, Option.some.injEq, exists_eq_left', exists_eq_left, exists_eq', D.int.injEq, D.bl.injEq, D.tup.injEq, D.lst.injEq, D.pair.injEq, D.ref.injEq, List.cons.injEq, Nat.sub_self, Nat.zero_add, Nat.add_sub_cancel, seqI_tup, seqI_lst, seqOf_tup, seqOf_lst, tyN_tup, tyN_lst, tyN_int, tyN_bl, tyN_str, tyN_non, isi_tt, at_0, at_1, at_2, at_3, Option.map_some, true_and, and_true, if_true, Bool.false_eq_true, if_false, Bool.not_true, Bool.not_false, ↓reduceIte, Nat.reduceAdd, Nat.reduceSub, exists_and_left, and_assoc]))
namespace C
open SX
theorem cut_1 (l : List D) : cutD l (some 1) none = l.drop 1 := by
  cases l with
  | nil => rfl
  | cons a b => exact cut_from _ 1 (by simp)
theorem cm_enc (a : At) : Cm a.enc 3 := cm_tup fun d hd => by
  rcases List.mem_cons.mp hd with rfl | hd
  · exact (cm_int _).mono (by decide)
  · rw [List.mem_singleton.mp hd]
    exact cm_tup fun e he => by obtain ⟨st, _, rfl⟩ := List.mem_map.mp he; exact cm_tD st
end C
end Mn

set_option linter.all false
set_option maxHeartbeats 4000000
set_option autoImplicit false
set_option maxRecDepth 100000
namespace Mn
open PySem L2
variable [Tbs]
local macro_rules | `(tactic| walk_at "d") => `(tactic| (try simp only [xSetX, xRetX, xDropX, dCX, xRaise, xTryRet, dTupLcX, xStR, xStL, dSplit, dJoin, sStr, dLam, aStr, xNext, xSeq, xAsg, xRet, xRetF, xDrop, xIf, xPar, xPar3, xMatch, mGo, xFrz, xPut, xAug, xFor, dVar, dC, dOp, dTest, dChain, dAndV, dOrV, dNotV, dAnd, dOr, dNot, dIf, dNil, dCons, dTup, dLst, dLstM, dCB, dIsi, dLc, dLcM, dYes, wipeD, dSlice, oSome, oNone, aSl_tup, aSl_lst, dNeg, dStar, dNewD, dTupVals, dSortSet, dSortSetI, dDictZ, sKeys, dFld, dMeth, dCallO, dGetC, dNewC, dDc, dStep, dIndexTD, dCountL, dCountS, dExtend, dAppend, dFrz, dLc2, dCountT, dIndexT, sqf_tup, sqf_lst, sqf_pair, sSeq, sSeq_tup, sSeq_lst, sRg1, sRg2, sZip2, sZip3, sZip4, sEnum, gV, gN, gC, gT, tupOf_tup, tupOf_pair, aAdd_int, aAdd_tup, aAdd_lst, aSub_int, aMul_int, aDiv_int, aMod_int, aPow_int, aCmp_int, aIx_tup, aIx_lst, aIx_scr, aIx_pair, aMax_int, aMin_int, aInt_bl, aInt_int, aLen_tup, aLen_lst, aLen_scr, aLen_pair, aTuple_lst, aTuple_tup, aIsB_bl, aNotB_bl, aEq_int, aNe_int, startD, List.map_cons, List.map_nil, List.length_cons, List.length_nil, List.cons_append, List.nil_append, List.replicate_zero, List.replicate_succ, List.append_nil, List.getElem?_cons_zero, List.getElem?_cons_succ, List.set_cons_zero, List.set_cons_succ, Option.some.injEq, exists_eq_left', exists_eq_left, exists_eq', D.int.injEq, D.bl.injEq, D.tup.injEq, D.lst.injEq, D.pair.injEq, D.ref.injEq, List.cons.injEq, Nat.sub_self, Nat.zero_add, Nat.add_sub_cancel, seqI_tup, seqI_lst, seqOf_tup, seqOf_lst, tyN_tup, tyN_lst, tyN_int, tyN_bl, tyN_str, tyN_non, isi_tt, at_0, at_1, at_2, at_3, Option.map_some, true_and, and_true, if_true, Bool.false_eq_true, if_false, Bool.not_true, Bool.not_false, ↓reduceIte, Nat.reduceAdd, Nat.reduceSub, exists_and_left, and_assoc]))
namespace C
open SX
/-! a text changed -/
end C
end Mn

set_option Elab.async false
set_option linter.all false
set_option maxRecDepth 100000
set_option maxHeartbeats 4000000
set_option autoImplicit false
namespace Mn
open PySem PySem.Spec PyProof.Rows L2 PySem.SeqAt
variable [Tbs]
/-! isinstance(e, c) of the exception that a suite holds -/
def dIsE (i : Nat) (a : Addr) (b : Bool) : DT := fun r m Q => r[i]? = some (some (.ref a)) ∧ Q (.bl b) m
theorem pd_isE {X : Cx} {q : Addr × Obj} {D0 : Addr} {i : Nat} {x c : Str} {b : Bool} {p p1 p2 pos : Pos} (hq : q ∈ X.pn) (ec : ExcC X.K D0) (hz : Zc (.ref D0) none q.2) (hf : ∃ vs, q.2.data = .fields vs) (hk : ∃ C, X.mg c = some (.ref C) ∧ PySem.W.kitOne X.K (.ref D0) (.ref C) = some b)
    (hv : PE X (.Name x p1) (tVar i)) (hgc : Gl X c) (hg : Gl X "isinstance") (hm : X.mg "isinstance" = none) (hdc : (c == ("__debug__" : Str)) = false := by decide)
    (hs : starEach [.Name x p1, .Name c p2] X.env = (false, eval (.Name x p1) X.env) :: starEach [.Name c p2] X.env := by rfl) (hs2 : starEach [.Name c p2] X.env = (false, eval (.Name c p2) X.env) :: starEach [] X.env := by rfl) (hpl : (backTo pos (starEach [.Name c p2] X.env)).any (·.1) = false := by rfl) :
    PD X (.Call (.Name "isinstance" p) [.Name x p1, .Name c p2] [] pos) (dIsE i q.1 b) := by
  obtain ⟨C, hmc, hk⟩ := hk
  refine peM (pe_callB (call_isPin hq ec hz hf) hg hm (by decide +kernel) (pa_cons hv (pa_cons (pe_glob (v := .ref C) hgc hmc rfl hdc) pa_nil hs2) hs) (by decide) (by decide) hs hpl) fun s H Q ⟨G, ro, m, Qd, hs, hr, ⟨e, qq⟩, w⟩ => ?_
  obtain ⟨v, e1, rv⟩ := hs.get i _ e
  cases rv
  refine ⟨_, e1, .ref C, .ref C, b, rfl, ?_, hk, w.now hr (.bl b) qq⟩
  intro u hu
  exact hu
/-! marks.count(True) -/
def eqb (z : Bool) (v : Value) : Bool := match v with
  | .bool x => x == z
  | _ => false
theorem eqb_all {A : Around} {s : Shared} {z : Bool} : ∀ {zs : List Bool} {us : List Value}, Vals (zs.map V.bl) us → (∀ y ∈ us, EqAt A s y (.bool z) (eqb z y)) ∧ us.countP (eqb z) = zs.count z
  | [], us, r => by
    rw [List.map_nil] at r
    cases r
    exact ⟨fun y hy => (nomatch hy), rfl⟩
  | x :: zs, us, r => by
    rw [List.map_cons] at r
    cases r with
    | cons r1 r2 =>
      obtain ⟨h1, h2⟩ := eqb_all (A := A) (s := s) (z := z) r2
      obtain rfl : _ = Value.bool x := r1
      refine ⟨fun y hy => ?_, ?_⟩
      · rcases List.mem_cons.mp hy with e | e
        · rw [e]; exact EqAt.bool_bool x z
        · exact h1 y e
      · rw [List.countP_cons, List.count_cons, h2]
        rfl
section
variable {X : Cx}
def rCntB (K : PySem.W.Frag) : V → List V → Hp → VK → Prop := fun x xs H Q => ∃ (p : Addr) (zs : List Bool) (z : Bool), x = .ref p ∧ xs = [.bl z] ∧ SqL K H p (zs.map V.bl) ∧ Q (.int (zs.count z : Nat)) H
theorem mt_lcountB : MtR X "list.count" (rCntB X.K) := by
  intro pins s σ H x xs v us Q I rx rxs h
  obtain ⟨p, zs, z, rfl, rfl, hs, q⟩ := h
  cases rx
  obtain ⟨u, rfl, ru⟩ := rxs.one
  obtain rfl : u = Value.bool z := ru
  obtain ⟨its, rv, ⟨⟨cls, dd, data, sl⟩, n, ho, hc, hdn, hd⟩, hlen⟩ := I.list hs
  simp only at hc hd
  subst hc hd
  refine call_meets PySem.F.slot_list_count ⟨_, ho, rfl⟩ PySem.F.entry_list_count (PySem.F.args_list_count_2 _ _) (SeqAt.list_countAt p its.toArray n dd sl (.bool z) (eqb z)) ⟨ho, fun y hy => (eqb_all rv).1 y (by simpa using hy), ?_⟩
  refine ⟨.int (zs.count z : Nat), H, I.tok _, ⟨s.toks, ?_⟩, q⟩
  show Value.int ((its.toArray.toList.countP (eqb z) : Nat) : Int) s.toks = Value.int ((zs.count z : Nat) : Int) s.toks
  rw [show its.toArray.toList.countP (eqb z) = zs.count z from (eqb_all (A := X.A) (s := s) rv).2]
def dCountB (to te : DT) : DT := fun r m Q => to r m fun o m1 => (lst1 o m1).isSome = true ∧ te r m1 fun d m2 => ∃ (zs : List Bool) (z : Bool), lst1 o m2 = some (zs.map D.bl) ∧ d = .bl z ∧ Q (.int (zs.count z : Nat)) m2
theorem pd_countB {o e : Expr} {to te : DT} {apos cpos : Pos} (ho : PD X o to) (he : PD X e te) (hs : starEach [e] X.env = (false, eval e X.env) :: starEach [] X.env := by rfl) (hbase : attributeBase o "count" X.env (eval o X.env) = eval o X.env := by rfl)
    (hfew : ((backTo cpos (starEach [e] X.env)).all (fun x => !x.1) && (backToKw cpos (keywordEach [] X.env)).all (fun x => x.1.isSome)
      && decide ([e].length + ([] : List Keyword).length + (if ([] : List Keyword).isEmpty then 0 else 1) < 30)) = true := by rfl)
    (hline : (apos.endLine == cpos.line) = true := by rfl) (hplain : (backTo cpos (starEach [] X.env)).any (·.1) = false := by rfl) :
    PD X (.Call (.Attribute o "count" apos) [e] [] cpos) (dCountB to te) := by
  refine peM (pe_bm PySem.F.plainAttrs_list PySem.F.slot_list_count PySem.F.type_list_count mt_lcountB ho (pa_cons he pa_nil hs) hbase hfew hline hs hplain) fun s H Q ⟨G, ro, m, Qd, hs, hr, q, w⟩ => ?_
  refine ⟨G, ro, m, _, hs, hr, q, fun v H1 G1 m1 d s1 r1 h1 ⟨e0, q1⟩ => ?_⟩
  obtain ⟨es0, e0⟩ := Option.isSome_iff_exists.mp e0
  obtain ⟨b, vs, rfl, hb, rv, z3⟩ := lst1_is r1 h1 e0
  refine ⟨.inl ⟨rfl, vs, .inl (.inl hb)⟩, G1, ro, m1, _, hs.same s1.g, r1, q1, fun v2 H2 G2 m2 d2 s2 r2 h2 ⟨zs, z, e1, e2, q2⟩ => ?_⟩
  subst e2
  cases h2
  obtain ⟨b2, vs2, eb, hb2, rv2, z4⟩ := lst1_is r2 (h1.same s2.g) e1
  cases eb
  have ev := rv2.bls
  subst ev
  exact ⟨b, zs, z, rfl, rfl, .inl (.inl hb2), w _ _ _ _ _ (s1.trans s2) r2 (.int _) q2⟩
end
/-! the words of exceptions -/
/-- what is known of the classes of exceptions -/
structure SaidK (w : World) (K : PySem.W.Frag) (mg : Str → Option Value) : Prop where
  u : ∃ C, mg "Unknown" = some (.ref C) ∧ ∀ p ∈ plainC, ∀ D, KF.cls ⟨K, w, Tbs.T⟩ p.1 D → PySem.W.exmOne K (.ref D) (.ref C) = some false
  l : ∃ C, mg "LimitError" = some (.ref C) ∧ ∀ p ∈ plainC, ∀ D, KF.cls ⟨K, w, Tbs.T⟩ p.1 D → PySem.W.exmOne K (.ref D) (.ref C) = some false
  v : ∃ C, mg "LevelsError" = some (.ref C) ∧ ∀ p ∈ plainC, ∀ D, KF.cls ⟨K, w, Tbs.T⟩ p.1 D → PySem.W.exmOne K (.ref D) (.ref C) = some true
  e : ∀ p ∈ plainC, ∀ D, KF.cls ⟨K, w, Tbs.T⟩ p.1 D → ExcC K D
  k : ∀ p ∈ plainC, ∀ D, KF.cls ⟨K, w, Tbs.T⟩ p.1 D → ∀ q ∈ plainC, ∃ C, mg q.1 = some (.ref C) ∧ PySem.W.kitOne K (.ref D) (.ref C) = some (decide (p.1 = q.1))
/-- told: the word of the exception, or an empty text -/
def sdC : Said := ⟨fun _ m Q => Q (.str "") m, fun x m Q => ∃ p ∈ plainC, x.c = p.1 ∧ x.fs = [] ∧ Q (.str p.2) m⟩
theorem Takes.len {X : Cx} {W : WX} (t : Takes X W) : Takes X (fun cls d σ H => σ.length = X.N.length → W cls d σ H) := fun u s' ⟨a, B, sI, pins, σ, H, cls, d, e, I, nb, up, sky, na, os, ag, w⟩ =>
  t u s' ⟨a, B, sI, pins, σ, H, cls, d, e, I, nb, up, sky, na, os, ag, w I.len⟩
theorem pss_ex {X : Cx} {st : List Stmt} {α : Type} {P : α → Prop} {t : α → TS} (h : ∀ y, P y → PSs X st (t y)) : PSs X st (fun D σ H => ∃ y, P y ∧ t y D σ H) := ⟨fun pins s σ H D I ⟨y, hp, q⟩ => (h y hp).run pins s σ H D I q⟩
theorem pss_no {X : Cx} {st : List Stmt} : PSs X st (fun _ _ _ => False) := ⟨fun pins s σ H D I q => q.elim⟩
/-- the suite of the last clause, over data -/
def Suite3 (Z : Cx) (st : List Stmt) (t3 : Str → Addr → DS) (w : World) (mg : Str → Option Value) : Prop := ∀ (a : Addr) (oe : Obj) (pn : List (Addr × Obj)) (p : Str × Str) (D : Addr), p ∈ plainC → KF.cls ⟨Z.K, w, Tbs.T⟩ p.1 D → Zc (.ref D) none oe → (∃ vs, oe.data = .fields vs) → PDSs (Z.suite a ((a, oe) :: pn)) st (t3 p.1 a)
theorem gives_C {X : Cx} {Ng : List Str} {x a q : Str} {sg : Scope} {g : Addr} {cdg : Value} {i j : Nat} {b1 b2 b3 : Stmt} {u1 u2 u3 : List Stmt} {t3 : Str → Addr → DS} {p1 p2 p3 n1 n2 n3 q1 q2 q3 p8 p9 p10 : Pos} (S : SaidK X.w X.K X.mg) (hN : Ng.Nodup) (hi : Ng[i]? = some ("e" : Str)) (hi1 : 1 ≤ i)
    (hln : sg.names.lookup ("e" : Str) = some .local) (hu : sg.names.lookup ("Unknown" : Str) = some .globalImplicit) (hl : sg.names.lookup ("LimitError" : Str) = some .globalImplicit) (hv : sg.names.lookup ("LevelsError" : Str) = some .globalImplicit) (h0 : ∀ f : Addr, (L2.start Ng [V.ref f])[0]? = some (some (V.ref f)))
    (hsu : ∀ (s : Shared) (H : Hp), Suite3 (cxOf CX0 X.prog X.w X.K X.mg X.base Ng x sg g cdg X.A X.stack s H E0).nox (b3 :: u3) t3 X.w X.mg)
    (ht : ∀ p ∈ plainC, ∀ (De : DE) (m : Mu) (b : Addr), De.rt (.str p.2) m → t3 p.1 b De ((List.replicate Ng.length none).set i (some (.ref b))) m) :
    Gives X Ng x sg g cdg [.Try [.Expr (.Call (.Name a p1) [] [] p2) p3] [.ExceptHandler (some (.Name "Unknown" n1)) (some "e") (b1 :: u1) q1, .ExceptHandler (some (.Name "LimitError" n2)) (some "e") (b2 :: u2) q2, .ExceptHandler (some (.Name "LevelsError" n3)) (some "e") (b3 :: u3) q3] [] [] p8, .Return (some (.Constant (.str "") j p9)) p10] a q sdC := by
  intro f c' s H Q tl act hc G m Qd rl wv tle
  obtain ⟨CU, mU, fU⟩ := S.u
  obtain ⟨CL, mL, fL⟩ := S.l
  obtain ⟨CV, mV, fV⟩ := S.v
  let Z := (cxOf CX0 X.prog X.w X.K X.mg X.base Ng x sg g cdg X.A X.stack s H E0).nox
  let ts3 : SuT := fun b cls d D σ H' => ∃ y : (Str × Str) × Addr, (y.1 ∈ plainC ∧ KF.cls X.kf y.1.1 y.2 ∧ cls = .ref y.2 ∧ d = none) ∧ lfS X.kf (fun _ _ _ _ => False) (t3 y.1.1 b) D σ H'
  have hgU : Gl Z "Unknown" := hu
  have hgL : Gl Z "LimitError" := hl
  have hgV : Gl Z "LevelsError" := hv
  have hds : Hds Z "e" [.ExceptHandler (some (.Name "Unknown" n1)) (some "e") (b1 :: u1) q1, .ExceptHandler (some (.Name "LimitError" n2)) (some "e") (b2 :: u2) q2, .ExceptHandler (some (.Name "LevelsError" n3)) (some "e") (b3 :: u3) q3] [(.ref CU, fun _ _ _ _ _ _ => False), (.ref CL, fun _ _ _ _ _ _ => False), (.ref CV, ts3)] := by
    refine .cons ⟨hgU, by decide, .inl mU⟩ (fun _ _ _ _ _ _ _ => pss_no) (.cons ⟨hgL, by decide, .inl mL⟩ (fun _ _ _ _ _ _ _ => pss_no) (.cons ⟨hgV, by decide, .inl mV⟩ (fun b oe cls d pn hz hf => pss_ex fun y ⟨h1, h2, h3, h4⟩ => ?_) .nil))
    subst h3 h4
    exact pssM (hsu s H b oe pn y.1 y.2 h1 h2 hz hf) fun E σ H' ⟨G', r, m', De, hs, hr, qq, w⟩ => ⟨G', r, m', De, hs, hr, qq, w.wx fun _ _ _ _ z => z.elim⟩
  refine ⟨_, pss_cons (ps_tryAll (X := Z) (i := i) (Wout := fun _ _ _ _ => False) (l := [(.ref CU, fun _ _ _ _ _ _ => False), (.ref CL, fun _ _ _ _ _ _ => False), (.ref CV, ts3)])
      (tb := fun W D σ H' => ∃ Ech : XK, (∀ cls d σ' H', σ'.length = Ng.length → Ech cls d H' → W cls d σ' H') ∧ σ[0]? = some (some (.ref f)) ∧ H' c' = some (LamX.CodeO c' q) ∧ tl Ech H' fun _ H2 => D.nx σ H2)
      rfl rfl hN hi hln LamX.takes0 (fun W pn xe tk po => ?_) hds) (pss_one (ps_ret pe_str)), ?_⟩
  · refine ⟨fun pins s' σ H' D I ⟨Ech, hW, h1, h2, h3⟩ => ?_⟩
    have hp := act (fun cls d σ H => σ.length = Ng.length → W cls d σ H) pn xe Ech p1 p2 (Takes.len tk) (fun cls d σ' H2 he hlen => hW cls d σ' H2 hlen he)
    exact (pss_one (ps_expr (pos := p3) hp)).run pins s' σ H' D I ⟨h1, h2, h3⟩
  · refine ⟨fun cls d H' => ∀ σ' : L2.St, σ'.length = Ng.length → wAll X.K i (fun _ _ _ _ => False) _ _ cls d σ' H', fun cls d σ' H' hlen he => he σ' hlen, h0 f, hc, ?_⟩
    refine tle _ _ (fun v H' G' m' d st rl' rv qq => wv _ _ _ _ _ st rl' (.str _) qq) fun H' G' m' y cls d st rl' ⟨C, e1, e2, _, e4⟩ ⟨p, hp, ec, _, qq⟩ σ' hlen => ?_
    subst e1 e4
    rw [ec] at e2
    refine ⟨false, fU p hp C e2, (fun z => nomatch z), fun _ => ⟨false, fL p hp C e2, (fun z => nomatch z), fun _ => ⟨true, fV p hp C e2, fun _ b hb => ?_, fun z => nomatch z⟩⟩⟩
    refine ⟨(p, C), ⟨hp, e2, rfl, rfl⟩, G', (List.replicate Ng.length none).set i (some (.ref b)), m', { nx := fun _ _ => False, rt := Qd }, ?_, rl', ht p hp _ m' b qq, ?_⟩
    · have r0 : RpS X.kf G' (List.replicate Ng.length none) σ' := ⟨by rw [List.length_replicate, hlen], fun k d hk => by rw [List.getElem?_replicate] at hk; split at hk <;> cases hk⟩
      exact r0.set (.ref b) i
    · refine ⟨fun _ _ _ _ _ _ _ _ z => z.elim, ?_, fun _ _ _ _ _ _ _ _ z => z.elim, fun _ _ _ _ _ _ _ _ z => z.elim, fun _ _ _ _ _ _ _ _ _ _ _ _ z => z.elim⟩
      exact wv.after st
end Mn

set_option Elab.async false
set_option linter.all false
set_option maxRecDepth 100000
set_option maxHeartbeats 4000000
set_option autoImplicit false
namespace Mn
open PySem PySem.Spec PyProof.Rows L2
variable [Tbs]
/-! a def that holds lambdas; a def that gets one -/
/-- the table of the def's code object -/
structure LamF (base : Heap) (mg : Str → Option Value) (q : Str) (c P : Addr) : Prop where
  tb : LamX.TabB base mg c P
  mem : (P, q ++ "<lambda>") ∈ (Tbs.T : List (Addr × Str))
  one : ∀ t ∈ (Tbs.T : List (Addr × Str)), t.1 = P → t.2 = q ++ "<lambda>"
/-- what is known of a def of the name x that gets a lambda as its a -/
structure ClS (P : Program) (w : World) (K : PySem.W.Frag) (mg : Str → Option Value) (base : Heap) (x a : Str) (k : Nat) (sd : Said) : Prop where
  ex : ∃ (g : Addr) (pg : Arguments) (bg : List Stmt) (sg : Scope) (dV kV doc pm cdv ct oc : Value) (an od : Option Addr) (osl : Array (Option Value)) (Ng : List Str), mg x = some (.ref g) ∧ PySem.W.keepIn K (.ref g) = true ∧ K.lookup g = some ⟨oc, od, .func (PySem.W.fnOf x x pg bg sg dV kV doc pm an cdv ct), osl⟩ ∧
    PySem.W.codeIn K cdv x = true ∧ L2.Binds K (PySem.W.fnOf x x pg bg sg dV kV doc pm an cdv ct) [a] [] ∧ FnScope Ng [a] sg ∧ Ng[0]? = some a ∧ Vis sg a ∧
    ∀ X : Cx, X.prog = P → X.w = w → X.K = K → X.mg = mg → X.base = base → Room k X.A → X.A.guards = some [] → Gives X Ng x sg g cdv bg a (lamQ X) sd
section
variable {X : Cx}
theorem pd_said {sd : Said} {x a : Str} {k j : Nat} {c P : Addr} {params : Arguments} {body : Expr} {scope : Scope} {t : DTX} {p lpos pos : Pos} (C : ClS X.prog X.w X.K X.mg X.base x a j sd) (LF : LamF X.base X.mg X.env.qual c P) (room : Room (k + 2) X.A) (hj : j ≤ k + 2) (gd : X.A.guards = some []) (hg : Gl X x) (hcode : X.env.code = .ref c)
    (L : LamX.LamS X.env.scope scope) (hdef : defaultsOf params X.env = ([], [])) (hbind : ∀ (q : Str) (cl : List (Str × Addr)) (pm cv ctv : Value), bindArgs (PySem.W.kla_fn "<lambda>" q params body scope cl pm cv ctv) ⟨[], []⟩ = pure [])
    (hbody : ∀ (A : Around) (outer : List Env) (s : Shared) (H : Hp) (E : XK) (f c' : Addr), Room k (A.deeper (LamX.lamEnv X scope s.heap.objs.size f c')) → PDX (LamX.lamCx X A outer s H E scope f c') body t)
    (hdb : (x == ("__debug__" : Str)) = false := by decide) (hd : (a == ("__debug__" : Str)) = false := by decide) (hcd : (a == ("__classdict__" : Str)) = false := by decide) : PD X (.Call (.Name x p) [.Lambda params body scope lpos] [] pos) (dLam sd t) := by
  obtain ⟨g, pg, bg, sg, dV, kV, doc, pm, cdv, ct, oc, an, od, osl, Ng, h1, h2, h3, h4, h5, h6, h7, h8, h9⟩ := C.ex
  exact pd_lam hg h1 h2 h3 h4 h5 h6 h7 h8 (h9 X rfl rfl rfl rfl rfl (room.mono hj) gd) LF.tb hcode LF.mem LF.one room L hdef hbind hbody hdb hd hcd
end
section
variable {P : Program} {w : World} {K : PySem.W.Frag} {mg : Str → Option Value} {base : Heap}
theorem fnL1 {x : Str} {st : Stmt} {N ps : List Str} {k : Nat} {t : DS} {d : DSp} {c f : Addr} {fd : FuncData} (Dd : Df K mg x st ps f fd) (hcode : fd.code = .ref c) (S : FnScope N ps (defScope st)) (hl : ∀ ds m Q, d ds m Q → ds.length = ps.length) (hb : Body N.length t d)
    (der : ∀ (f : Addr) (A : Around) (outer : List Env) (s : Shared) (H : Hp) (E : XK), A.guards = some [] → Room k (A.deeper (envOfC x (defScope st) s.heap.objs.size f (.ref c))) → PDSs (cxOf CX0 P w K mg base N x (defScope st) f (.ref c) A outer s H E).nox (defBody st) t) :
    FnD P w K mg base (k + 1) f fd ps d := by
  obtain ⟨oc, od, kV, doc, pm, an, cdv, ct, osl, rfl, lk, hcd⟩ := Dd.F.ex
  obtain rfl : cdv = .ref c := hcode
  refine gn_of lk hcd S (fun vs H Q E ⟨G, ds, m, Qd, rp, rl, q, w⟩ => by rw [← rp.len]; exact hl _ _ _ q) fun A outer s H vs Q E room gd h => ?_
  exact ⟨_, PSs.nox (der f A outer s H E gd room), lfS_start hb h⟩
/-- the def of the name x gets a lambda -/
theorem clS_of {x a : Str} {st : Stmt} {Ng : List Str} {k : Nat} {sd : Said} (h : ∃ f fd, Df K mg x st [a] f fd) (S : FnScope Ng [a] (defScope st)) (h0 : Ng[0]? = some a) (hv : Vis (defScope st) a)
    (hG : ∀ (X : Cx) (g : Addr) (cdv : Value), X.prog = P → X.w = w → X.K = K → X.mg = mg → X.base = base → Room k X.A → X.A.guards = some [] → Gives X Ng x (defScope st) g cdv (defBody st) a (lamQ X) sd) : ClS P w K mg base x a k sd := by
  obtain ⟨f, fd, Dd⟩ := h
  obtain ⟨oc, od, kV, doc, pm, an, cdv, ct, osl, rfl, lk, hcd⟩ := Dd.F.ex
  exact ⟨⟨f, _, _, _, _, _, _, _, _, _, _, _, _, _, Ng, Dd.g, Dd.F.kp, lk, hcd, Dd.b, S, h0, hv, fun X a1 a2 a3 a4 a5 a6 a7 => hG X f cdv a1 a2 a3 a4 a5 a6 a7⟩⟩
end
end Mn

set_option Elab.async false
set_option linter.all false
set_option maxRecDepth 100000
set_option maxHeartbeats 4000000
set_option autoImplicit false
namespace Mn
open PySem PySem.Spec PyProof.Rows L2
variable [Tbs]
/-! expressions that may raise, within others -/
def dAppendX (to : DT) (te : DTX) : DTX := fun r m Q Ed => to r m fun o m1 => ∃ p ds0, o = .ref p ∧ m1 p = some (.lst ds0) ∧ te r m1 (fun d m2 => ∃ ds, m2 p = some (.lst ds) ∧ ds.length < sizeLine ∧ Q .non (up m2 p (.lst (ds ++ [d])))) Ed
section
variable {X : Cx} {o e : Expr} {to : DT} {te : DTX} {apos cpos : Pos}
end
end Mn

set_option Elab.async false
set_option linter.all false
set_option maxRecDepth 100000
set_option maxHeartbeats 4000000
set_option autoImplicit false
namespace Mn
open PySem PySem.Spec PyProof.Rows L2
variable [Tbs]
section
variable {K : PySem.W.Frag} {h : Heap} {w : World} {mg : Str → Option Value} {c : Str}
theorem excD_of (X : K.In h) (G : h.Ns mainGlobals mg) (g : (He.Fa.glo c).ok K = true) (e : (He.Fa.exc c).ok K = true) : ExcD w K mg c := by
  obtain ⟨h1, h2, h3, h4⟩ := He.exc_ok e
  exact ⟨⟨_, He.glo_ok X G g, cls_of g, h1, h2, h3, h4⟩⟩
theorem excT_of (X : K.In h) (G : h.Ns mainGlobals mg) (g : (He.Fa.glo c).ok K = true) (e : (He.Fa.exm c c true).ok K = true) : ExcT w K mg c := ⟨⟨_, He.glo_ok X G g, cls_of g, of_decide_eq_true e⟩⟩
end
end Mn

set_option Elab.async false
set_option linter.all false
set_option maxRecDepth 100000
set_option maxHeartbeats 4000000
set_option autoImplicit false
namespace Mn
open PySem PySem.Spec PyProof.Rows L2
section
variable [Tbs]
/-- the law's own call, with tables of code objects: each with its code object and the name of what it tells -/
theorem lawDT {P : Program} {w : World} {K : PySem.W.Frag} {mg mb : Str → Option Value} {k : Nat} {fa a : Addr} {fd : FuncData} {x : Str} {d : DSp} {s₁ : Shared} {vs : List Value} {ns : List Int} (tabs : List (Addr × Addr × Str)) (hT : (Tbs.T : List (Addr × Str)) = tabs.map (·.2))
    (inK : K.In s₁.heap) (hns : s₁.heap.Ns mainGlobals mg) (hb : s₁.heap.Ns builtinsNs mb) (hbb : ∀ x : Str, x ≠ "__name__" → mb x = bootBuiltins x) (hlim : s₁.heap.NoLimit) (hg : s₁.gens = #[])
    (ht : ∀ t ∈ tabs, s₁.heap.get? t.2.1 = some { cls := .none, data := .fields #[] } ∧ K.lookup t.2.1 = none ∧ PySem.W.CodeHd s₁.heap t.1 t.2.1)
    (hbm : ∃ (bm : Addr) (ob : Obj), mg "__builtins__" = some (.ref bm) ∧ bm ≠ builtinsNs ∧ s₁.heap.get? bm = some ob ∧ ob.cls = .type "module" ∧ ob.dict = some builtinsNs ∧ ob.data = .plain)
    (ha : s₁.heap.get? a = some { cls := .type "list", data := .seq vs.toArray }) (hi : IntsAre vs ns) (hl : ns.length ≤ sizeLine) (room : Room k callerA)
    (F : ∀ base : Heap, K.In base → base.Ns mainGlobals mg → (∀ t ∈ tabs, LamX.TabB base mg t.1 t.2.1) → FnD P w K mg base k fa fd [x] d) (hbind : ∀ (s : Shared) (u : Value), BindsTo s fd ⟨[u], []⟩ [(x, u)])
    (hd : ∀ Q : DK, (∀ m, Q (.bl true) m) → d [.scr (ns.map D.int)] (fun _ => none) Q) :
    codeAny (model P w) callerA (.call (.ref fa) ⟨[.ref a], []⟩) (fun r s' => r = .ok (.ret (.bool true)) ∧ OldK s₁.heap s'.heap ∧ s'.os = s₁.os ∧ AllBare s'.gens) s₁ := by
  have vals := vals_ints hi
  have lenV := hi.length
  have tabAt : ∀ b : Addr, (∃ t ∈ tabs, t.2.1 = b) → s₁.heap.get? b = some { cls := .none, data := .fields #[] } := fun b ⟨t, m, e⟩ => e ▸ (ht t m).1
  have aNot : ¬ ∃ t ∈ tabs, t.2.1 = a := fun z => by
    have e := (tabAt a z).symm.trans ha
    exact nomatch congrArg Obj.data (Option.some.inj e)
  -- what never changes: the script alone, if it is no object of the module
  have main : ∀ G : Hp, (∀ b u, G b = some u → b = a ∧ K.lookup a = none ∧ u = .frz { cls := .type "list", data := .seq vs.toArray } (.lst (ns.map V.int))) → SqL K G a (ns.map V.int) →
      codeAny (model P w) callerA (.call (.ref fa) ⟨[.ref a], []⟩) (fun r s' => r = .ok (.ret (.bool true)) ∧ OldK s₁.heap s'.heap ∧ s'.os = s₁.os ∧ AllBare s'.gens) s₁ := by
    intro G only hS
    classical
    obtain ⟨H, hH1, hH2⟩ : ∃ H : Hp, (∀ b, (∃ t ∈ tabs, t.2.1 = b) → H b = some (.tbl #[])) ∧ ∀ b, (¬ ∃ t ∈ tabs, t.2.1 = b) → H b = G b := ⟨fun b => if ∃ t ∈ tabs, t.2.1 = b then some (.tbl #[]) else G b, fun b h => if_pos h, fun b h => if_neg h⟩
    have sub : Same G H := fun b u e => by
      rw [hH2 b fun z => aNot ((only b u e).1 ▸ z)]; exact e
    have all : ∀ b u, H b = some u → ((∃ t ∈ tabs, t.2.1 = b) ∧ u = .tbl #[]) ∨ ((¬ ∃ t ∈ tabs, t.2.1 = b) ∧ G b = some u) := fun b u e => by
      by_cases h : ∃ t ∈ tabs, t.2.1 = b
      · rw [hH1 b h] at e; exact .inl ⟨h, (Option.some.inj e).symm⟩
      · rw [hH2 b h] at e; exact .inr ⟨h, e⟩
    have hok : HOk P w H s₁.heap := fun b u e => by
      rcases all b u e with ⟨h, rfl⟩ | ⟨_, h⟩
      · exact tabAt b h
      · obtain ⟨rfl, _, rfl⟩ := only b u h
        exact ⟨ha, by rw [List.length_map]; exact hl, vs, _, vals, ha⟩
    -- what is neither a list nor an empty table is not tracked
    have out : ∀ {b : Addr} {o : Obj}, s₁.heap.get? b = some o → (∀ z n, o.data ≠ .seq z n) → o.data ≠ .fields #[] → H b = none := fun {b o} e n1 n2 => by
      cases q : H b with
      | none => rfl
      | some u =>
        rcases all b u q with ⟨h, _⟩ | ⟨_, h⟩
        · rw [tabAt b h] at e; cases e; exact absurd rfl n2
        · obtain ⟨rfl, _, _⟩ := only b u h
          rw [ha] at e; cases e; exact absurd rfl (n1 _ _)
    have ns' : ∀ {b : Addr} {m : Str → Option Value}, s₁.heap.Ns b m → (hidT s₁.heap H).Ns b m := fun {b m} ⟨o, es, ep, e, dd, r⟩ => ⟨o, es, ep, hidT_get e (out e (fun z n q => by rw [dd] at q; cases q) fun q => by rw [dd] at q; cases q), dd, r⟩
    have kb : K.In (hidT s₁.heap H) := fun b o e => hidT_get (inK b o e) (by
      cases q : H b with
      | none => rfl
      | some u =>
        rcases all b u q with ⟨⟨t, m, rfl⟩, _⟩ | ⟨_, h⟩
        · rw [(ht t m).2.1] at e; cases e
        · obtain ⟨rfl, nk, _⟩ := only b u h; rw [nk] at e; cases e)
    have md : Mod K mg (hidT s₁.heap H) := ⟨kb, ns' hns, ⟨mb, ns' hb, hbb⟩, let ⟨mc, h1, h2⟩ := hlim; ⟨mc, ns' h1, h2⟩⟩
    have tb : ∀ t ∈ tabs, LamX.TabB (hidT s₁.heap H) mg t.1 t.2.1 := fun t m => by
      obtain ⟨t1, _, t3⟩ := ht t m
      obtain ⟨bm, ob, m1, m2, m3, m4, m5, m6⟩ := hbm
      have nG : ∀ {b : Addr} {o : Obj}, s₁.heap.get? b = some o → (∀ es ep, o.data ≠ .dict es ep) → b ≠ mainGlobals := fun {b o} e n z => by
        obtain ⟨o', es, ep, e', dd, _⟩ := hns
        rw [z, e'] at e; cases e; exact n _ _ dd
      refine ⟨?_, ⟨bm, ob, m1, m2, nG m3 (fun es ep z => by rw [m6] at z; cases z), fun z => ?_, hidT_get m3 (out m3 (fun z n q => by rw [m6] at q; cases q) fun q => by rw [m6] at q; cases q), m4, m5, m6⟩, fun z => nG t1 (fun es ep q => by cases q) z.symm⟩
      · obtain ⟨o, us, file, tf, flags, tg, inF, text, tt, e1, r1, r2, r3, rest⟩ := t3
        refine ⟨o, us, file, tf, flags, tg, inF, text, tt, hidT_get e1 (out e1 (fun z n q => by rw [r2] at q; cases q) fun q => ?_), r1, r2, r3, rest⟩
        rw [r2] at q; cases q; simp at r3
      · rw [z, t1] at m3; cases m3; cases m6
    have e0 : Env0 P w K mg (hidT s₁.heap H) callerA [] s₁ H := ⟨rfl, md, fun b o e => of_hidT e, Nat.le_of_eq (hidT_size _ _), trivial, fun b z => absurd (show b ∈ ([] : List Addr) from z) (by simp), hok, .of_eq hg⟩
    have rl0 : Rl ⟨K, w, Tbs.T⟩ G H (fun _ => none) := by
      refine ⟨sub, (fun a o e => nomatch e), fun t m => ?_, (fun b ps e => by obtain ⟨_, _, e2⟩ := only b _ e; cases e2), fun b ps e => ?_⟩
      · rw [show (⟨K, w, Tbs.T⟩ : KF).tabs = tabs.map (·.2) from hT] at m
        obtain ⟨u, hu, rfl⟩ := List.mem_map.mp m
        have hb' := hH1 u.2.1 ⟨u, hu, rfl⟩
        refine ⟨?_, rfl, #[], hb', ⟨trivial, fun pos cv z => by cases z⟩⟩
        cases q : G u.2.1 with
        | none => rfl
        | some z => exact absurd ⟨u, hu, (only _ _ q).1⟩ aNot
      · rcases all b _ e with ⟨⟨t, m, rfl⟩, _⟩ | ⟨_, h⟩
        · exact ⟨t.2.2, by rw [show (⟨K, w, Tbs.T⟩ : KF).tabs = tabs.map (·.2) from hT]; exact List.mem_map.mpr ⟨t, m, rfl⟩⟩
        · obtain ⟨_, _, e2⟩ := only b _ h; cases e2
    have sp : lfSp ⟨K, w, Tbs.T⟩ d [.ref a] H (fun v _ => v = .bl true) (fun _ _ _ => False) := by
      refine ⟨G, [.scr (ns.map D.int)], fun _ => none, fun d' _ => d' = .bl true, .cons (.scr hS (RpL.ofInts ns) (by rw [List.length_map]; exact hl)) .nil, rl0, hd _ fun _ => rfl, fun v H' G' m' d' _ _ rv e => ?_⟩
      subst e
      cases rv
      rfl
    refine codeAny_mono ((F _ kb (ns' hns) tb).run callerA [] s₁ H ⟨[.ref a], []⟩ [.ref a] [.ref a] _ _ room rfl e0 (hbind s₁ (.ref a)) (.cons rfl .nil) sp) fun r s' h => ?_
    cases r with
    | error e => exact False.elim h
    | ok fl => cases fl with
      | next => exact False.elim h
      | brk => exact False.elim h
      | cont => exact False.elim h
      | ret u =>
        obtain ⟨v, H', os, bare, un, hok', r', q⟩ := h
        obtain rfl : v = .bl true := q
        obtain rfl : u = Value.bool true := r'
        have kept : ∀ b o, (¬ ∃ t ∈ tabs, t.2.1 = b) → s₁.heap.get? b = some o → s'.heap.get? b = some o := fun b o nt e => by
          cases q : G b with
          | none => exact un.keep b o e ((hH2 b nt).trans q) (fun z => absurd (show b ∈ ([] : List Addr) from z) (by simp)) (by simp)
          | some u =>
            have qH := (hH2 b nt).trans q
            obtain ⟨rfl, _, rfl⟩ := only b u q
            obtain ⟨e1, _⟩ := hok b _ qH
            obtain ⟨e2, _⟩ := hok' b _ (un.frzs b _ _ qH)
            rw [e] at e1; cases e1
            exact e2
        have grew : ∀ t ∈ tabs, ∃ more : Array Value, s'.heap.get? t.2.1 = some { cls := .none, data := .fields more } := fun t m => by
          obtain ⟨more, z⟩ := un.tbls t.2.1 #[] (hH1 _ ⟨t, m, rfl⟩)
          exact ⟨_, hok' _ _ z⟩
        refine ⟨rfl, ⟨fun b o e => ?_, fun b o e => ?_⟩, os, bare⟩
        · by_cases h : ∃ t ∈ tabs, t.2.1 = b
          · obtain ⟨t, m, rfl⟩ := h
            obtain ⟨t1, _, t3⟩ := ht t m
            obtain ⟨more, z⟩ := grew t m
            rw [t1] at e; cases e
            exact .inr (.inl ⟨(t3.tab t1).isCodeTable, rfl, #[], more, rfl, by rw [Array.empty_append]; exact z⟩)
          · exact .inl (kept b o h e)
        · by_cases h : ∃ t ∈ tabs, t.2.1 = b
          · obtain ⟨t, m, rfl⟩ := h
            obtain ⟨more, z⟩ := grew t m
            exact ⟨_, z⟩
          · exact ⟨o, kept b o h e⟩
  cases hk : K.lookup a with
  | some o =>
    have e := inK a o hk
    rw [ha] at e
    cases e
    exact main (fun _ => none) (fun _ _ e => nomatch e) (.inr ⟨_, vs.toArray, _, hk, rfl, rfl, rfl, by rw [List.size_toArray, lenV]; exact hl, by simpa using vals⟩)
  | none =>
    refine main (fun b => if b = a then some (.frz { cls := .type "list", data := .seq vs.toArray } (.lst (ns.map V.int))) else none) (fun b u e => ?_) (.inl (.inr ⟨_, if_pos rfl⟩))
    by_cases hb : b = a
    · rw [if_pos hb] at e; cases e; exact ⟨hb, hk, rfl⟩
    · rw [if_neg hb] at e; cases e
theorem saidK_of {w : World} {K : PySem.W.Frag} {h : Heap} {mg : Str → Option Value} (X : K.In h) (G : h.Ns mainGlobals mg) (b : saidB K = true) : SaidK w K mg := by
  obtain ⟨b1, b2⟩ := He.ba b
  have gl : ∀ x ∈ (["Unknown", "LimitError", "LevelsError"] : List String), mg (Str.ofString x) = some (.ref (He.ga K (Str.ofString x))) := fun x hx => He.glo_ok X G (List.all_eq_true.mp b1 x hx)
  have at_ : ∀ p ∈ plainC, _ := fun p hp => List.all_eq_true.mp b2 p hp
  have is_ : ∀ p ∈ plainC, ∀ D, KF.cls ⟨K, w, Tbs.T⟩ p.1 D → D = He.ga K p.1 := fun p hp D e => cls_one e (cls_of (w := w) (He.ba (at_ p hp)).1)
  refine ⟨⟨_, gl "Unknown" (by simp), fun p hp D e => ?_⟩, ⟨_, gl "LimitError" (by simp), fun p hp D e => ?_⟩, ⟨_, gl "LevelsError" (by simp), fun p hp D e => ?_⟩, fun p hp D e => ?_, fun p hp D e q hq => ?_⟩ <;> (rw [is_ p hp D e]; obtain ⟨h1, h2, h3, h4, h5, h6⟩ : _ ∧ _ ∧ _ ∧ _ ∧ _ ∧ _ := (let a := He.ba (at_ p hp); let b := He.ba a.2; let c := He.ba b.2; let d := He.ba c.2; let e := He.ba d.2; ⟨a.1, b.1, c.1, d.1, e.1, e.2⟩))
  · exact He.exm_ok h2
  · exact He.exm_ok h3
  · exact He.exm_ok h4
  · exact excCB_ok h5
  · exact ⟨_, He.glo_ok X G (He.ba (at_ q hq)).1, of_decide_eq_true (List.all_eq_true.mp h6 q hq)⟩
end
/-- the tables of the defs that hold lambdas: of the code object, of the table, the name of what it tells -/
def tabsOf (K : PySem.W.Frag) (tf : List He.Defn) : List (Addr × Addr × Str) := tf.map fun p => ((He.cT K p).1, (He.cT K p).2, p.1 ++ ".<locals>." ++ "<lambda>")
@[reducible] def tbsOf (K : PySem.W.Frag) (tf : List He.Defn) : Tbs := ⟨(tabsOf K tf).map (·.2)⟩
theorem nodup_one {α β : Type} {f : α → β} : ∀ {l : List α}, (l.map f).Nodup → ∀ {a b : α}, a ∈ l → b ∈ l → f a = f b → a = b
  | [], _, a, b, ha, _, _ => by cases ha
  | c :: l, h, a, b, ha, hb, e => by
    rw [List.map_cons, List.nodup_cons] at h
    rcases List.mem_cons.mp ha with e1 | h1
    · rcases List.mem_cons.mp hb with e2 | h2
      · rw [e1, e2]
      · exact absurd (List.mem_map.mpr ⟨b, h2, by rw [← e, e1]⟩) h.1
    · rcases List.mem_cons.mp hb with e2 | h2
      · exact absurd (List.mem_map.mpr ⟨a, h1, by rw [e, e2]⟩) h.1
      · exact nodup_one h.2 h1 h2 e
section
variable {fa : List He.Fa} {fn : List He.DefD} {ts : List He.Tab} {tf : List He.Defn} {ex : PySem.W.Frag → Bool} {w : World} {h : Heap} {K : PySem.W.Frag}
theorem tabs_ok (X : K.In h) (c : He.SaysX fa fn ts tf ex w h K) : ∀ t ∈ tabsOf K tf, h.get? t.2.1 = some { cls := .none, data := .fields #[] } ∧ K.lookup t.2.1 = none ∧ PySem.W.CodeHd h t.1 t.2.1 := fun t ht => by
  obtain ⟨p, hp, rfl⟩ := List.mem_map.mp ht
  exact ⟨c.empty p hp, c.out p hp, PySem.W.codeHd_of_K X (c.hd p hp)⟩
theorem lamF_of {base : Heap} {mg : Str → Option Value} {x : Str} (ap : apartB tf K = true) (hx : ((x, none) : He.Defn) ∈ tf) (tb : ∀ t ∈ tabsOf K tf, LamX.TabB base mg t.1 t.2.1) : @LamF (tbsOf K tf) base mg (x ++ ".<locals>.") (He.cT K (x, none)).1 (He.cT K (x, none)).2 := by
  refine @LamF.mk (tbsOf K tf) _ _ _ _ _ (tb _ (List.mem_map.mpr ⟨_, hx, rfl⟩)) (List.mem_map.mpr ⟨_, List.mem_map.mpr ⟨_, hx, rfl⟩, rfl⟩) fun t ht e => ?_
  obtain ⟨u, hu, rfl⟩ := List.mem_map.mp ht
  obtain ⟨p, hp, rfl⟩ := List.mem_map.mp hu
  obtain rfl := nodup_one (f := fun p => (He.cT K p).2) (of_decide_eq_true ap) hp hx e
  rfl
/-- a def of the top that holds lambdas -/
theorem dfL_of [Tbs] {mg : Str → Option Value} (X : K.In h) (G : h.Ns mainGlobals mg) (c : He.SaysD fa fn K) {x : Str} {st : Stmt} {ps : List Str} (i j : Nat)
    (hb : ∀ (kV doc pm : Value) (an : Option Addr) (cdv ct : Value) (us : List Value), us.length = ps.length → bindArgs (PySem.W.fnOf x x (defArgs st) (defBody st) (defScope st) .none kV doc pm an cdv ct) ⟨us, []⟩ = pure (ps.zip us))
    (hi : fn[i]? = some (ddOf x st) := by rfl) (hj : fa[j]? = some (.glo x) := by rfl) :
    ∃ f fd, Df K mg x st ps f fd ∧ (∀ (s : Shared) (us : List Value), us.length = ps.length → BindsTo s fd ⟨us, []⟩ (ps.zip us)) ∧ fd.code = .ref (He.cT K (x, none)).1 := by
  obtain ⟨fd, F⟩ := c.def_ i hi
  have F' := fun_of_FunD F
  refine ⟨_, fd, ⟨F', He.glo_ok X G (c.fact j hj), FunD.bindsN F hb⟩, fun s us hl => FunD.bindsA F hb s us hl, ?_⟩
  obtain ⟨oc, od, kV, doc, pm, an, cdv, ct, osl, rfl, lk, hcd⟩ := F'.ex
  obtain ⟨c0, rfl⟩ := He.codeIn_ref hcd
  rw [show (He.cT K (x, none)).1 = c0 from He.codeOf_eq lk rfl]
end
/-- a law's end over a head by facts, with tables -/
theorem walkDT {l : PySem.W.OpenLaw} {n k : Nat} {q : Program} {loose : List Str} {XP : (Str → Option Value) → Heap → Prop} {YP : World → Heap → Prop} {dr : DefRec} {d : Tbs → DSp} {x : Str}
    (hn : l.most = some n) (hn2 : n ≤ sizeLine) (hdf : dr.params.defaults = []) (room : Room k callerA)
    (F : ∀ (w : World) (mg : Str → Option Value) (fa : Addr) (h : Heap), YP w h → h.Ns mainGlobals mg → mg dr.name = some (.ref fa) →
      ∃ (tabs : List (Addr × Addr × Str)) (T : Tbs) (K : PySem.W.Frag) (fd : FuncData), T.T = tabs.map (·.2) ∧ (∀ t ∈ tabs, h.get? t.2.1 = some { cls := .none, data := .fields #[] } ∧ K.lookup t.2.1 = none ∧ PySem.W.CodeHd h t.1 t.2.1) ∧ K.In h ∧ (∀ (s : Shared) (u : Value), BindsTo s fd ⟨[u], []⟩ [(x, u)]) ∧
        ∀ base : Heap, K.In base → base.Ns mainGlobals mg → (∀ t ∈ tabs, LamX.TabB base mg t.1 t.2.1) → @FnD T l.prog w K mg base k fa fd [x] (d T))
    (hd : ∀ (T : Tbs) (ns : List Int) (Q : DK), ns.length ≤ n → (∀ m, Q (.bl true) m) → d T [.scr (ns.map D.int)] (fun _ => none) Q) :
    PySem.W.WalkO q loose XP YP l.row.toRowW dr [] (fun f vs => PySem.call f vs) := by
  refine Att.attach_call hn hdf fun w s₀ s₁ mg mb fa o pm cd doc a vs ns G Y ho hod hcd hmg hobj hints hlen hg => ?_
  obtain ⟨tabs, T, K, fd, eT, hta, inK, hb, hF⟩ := F w mg fa _ Y G.T.g hmg
  exact lawDT tabs eT inK G.T.g G.T.b G.T.builtins G.T.nolimit hg hta G.T.bmain hobj hints (Nat.le_trans hlen hn2) room hF hb (fun Q hQ => hd T ns Q hlen hQ)
end Mn

set_option linter.all false
set_option maxHeartbeats 4000000
set_option autoImplicit false
set_option maxRecDepth 100000
namespace Mn
open PySem L2
variable [Tbs]
local macro_rules | `(tactic| walk_at "d") => `(tactic| (try simp only [dIsE, dCountB, dAppendX, dNewE, xSetX, xRetX, xDropX, dCX, xRaise, xTryRet, dTupLcX, xStR, xStL, dSplit, dJoin, sStr, dLam, aStr, xNext, xSeq, xAsg, xRet, xRetF, xDrop, xIf, xPar, xPar3, xMatch, mGo, xFrz, xPut, xAug, xFor, dVar, dC, dOp, dTest, dChain, dAndV, dOrV, dNotV, dAnd, dOr, dNot, dIf, dNil, dCons, dTup, dLst, dLstM, dCB, dIsi, dLc, dLcM, dYes, wipeD, dSlice, oSome, oNone, aSl_tup, aSl_lst, dNeg, dStar, dNewD, dTupVals, dSortSet, dSortSetI, dDictZ, sKeys, dFld, dMeth, dCallO, dGetC, dNewC, dDc, dStep, dIndexTD, dCountL, dCountS, dExtend, dAppend, dFrz, dLc2, dCountT, dIndexT, sqf_tup, sqf_lst, sqf_pair, sSeq, sSeq_tup, sSeq_lst, sRg1, sRg2, sZip2, sZip3, sZip4, sEnum, gV, gN, gC, gT, tupOf_tup, tupOf_pair, aAdd_int, aAdd_tup, aAdd_lst, aSub_int, aMul_int, aDiv_int, aMod_int, aPow_int, aCmp_int, aIx_tup, aIx_lst, aIx_scr, aIx_pair, aMax_int, aMin_int, aInt_bl, aInt_int, aLen_tup, aLen_lst, aLen_scr, aLen_pair, aTuple_lst, aTuple_tup, aIsB_bl, aNotB_bl, aEq_int, aNe_int, startD, List.map_cons, List.map_nil, List.length_cons, List.length_nil, List.cons_append, List.nil_append, List.replicate_zero, List.replicate_succ, List.append_nil, List.getElem?_cons_zero, List.getElem?_cons_succ, List.set_cons_zero, List.set_cons_succ, Option.some.injEq, exists_eq_left', exists_eq_left, exists_eq', D.int.injEq, D.bl.injEq, D.tup.injEq, D.lst.injEq, D.pair.injEq, D.ref.injEq, List.cons.injEq, Nat.sub_self, Nat.zero_add, Nat.add_sub_cancel, seqI_tup, seqI_lst, seqOf_tup, seqOf_lst, tyN_tup, tyN_lst, tyN_int, tyN_bl, tyN_str, tyN_non, isi_tt, at_0, at_1, at_2, at_3, Option.map_some, true_and, and_true, if_true, Bool.false_eq_true, if_false, Bool.not_true, Bool.not_false, ↓reduceIte, Nat.reduceAdd, Nat.reduceSub, exists_and_left, and_assoc]))
namespace C
def marks (c : Str) : List Bool := plainC.map fun q => decide (c = q.1)
theorem marks_ok : ∀ p ∈ plainC, (marks p.1).count true = 1 ∧ ∃ j : Nat, (marks p.1)[j]? = some true ∧ (∀ i, i < j → (marks p.1)[i]? = some false) ∧ (plainC.map (·.2))[j]? = some p.2 := by
  have key : (plainC.all fun p => (decide ((marks p.1).count true = 1)) && (List.range 15).any fun j => decide ((marks p.1)[j]? = some true) && (((List.range j).all fun i => decide ((marks p.1)[i]? = some false)) && decide ((plainC.map (·.2))[j]? = some p.2))) = true := by decide +kernel
  intro p hp
  have h := List.all_eq_true.mp key p hp
  rw [Bool.and_eq_true, List.any_eq_true] at h
  obtain ⟨h1, j, hj, h2⟩ := h
  rw [Bool.and_eq_true, Bool.and_eq_true] at h2
  exact ⟨of_decide_eq_true h1, j, of_decide_eq_true h2.1, fun i hi => of_decide_eq_true (List.all_eq_true.mp h2.2.1 i (List.mem_range.mpr hi)), of_decide_eq_true h2.2.2⟩
def t_law_said (c : Str) (a : Addr) : DS := (xSeq (xAsg (dLst (dCons (dIsE 1 a (decide (c = "SchemeError"))) (dCons (dIsE 1 a (decide (c = "RollupError"))) dNil))) (gV 2))
  (xSeq (xAsg (dOp aAdd (dVar 2) (dLst (dCons (dIsE 1 a (decide (c = "CellError"))) (dCons (dIsE 1 a (decide (c = "TableError"))) dNil)))) (gV 2))
  (xSeq (xAsg (dOp aAdd (dVar 2) (dLst (dCons (dIsE 1 a (decide (c = "StoredError"))) (dCons (dIsE 1 a (decide (c = "ReportError"))) dNil)))) (gV 2))
  (xSeq (xAsg (dOp aAdd (dVar 2) (dLst (dCons (dIsE 1 a (decide (c = "NumberError"))) dNil))) (gV 2))
  (xSeq (xAsg (dOp aAdd (dVar 2) (dLst (dCons (dIsE 1 a (decide (c = "AmountError"))) (dCons (dIsE 1 a (decide (c = "CubeError"))) dNil)))) (gV 2))
  (xSeq (xAsg (dOp aAdd (dVar 2) (dLst (dCons (dIsE 1 a (decide (c = "MatchError"))) dNil))) (gV 2))
  (xSeq (xAsg (dOp aAdd (dVar 2) (dLst (dCons (dIsE 1 a (decide (c = "PlaceError"))) (dCons (dIsE 1 a (decide (c = "TextError"))) dNil)))) (gV 2))
  (xSeq (xAsg (dOp aAdd (dVar 2) (dLst (dCons (dIsE 1 a (decide (c = "NothingDone"))) dNil))) (gV 2))
  (xSeq (xAsg (dOp aAdd (dVar 2) (dLst (dCons (dIsE 1 a (decide (c = "OrderError"))) (dCons (dIsE 1 a (decide (c = "SumsError"))) dNil)))) (gV 2))
  (xSeq (xAsg (dLst (dCons (dC (.str (Str.ofString "scheme"))) (dCons (dC (.str (Str.ofString "rollup"))) (dCons (dC (.str (Str.ofString "cell"))) (dCons (dC (.str (Str.ofString "table"))) (dCons (dC (.str (Str.ofString "stored"))) (dCons (dC (.str (Str.ofString "report"))) dNil))))))) (gV 3))
  (xSeq (xAsg (dOp aAdd (dVar 3) (dLst (dCons (dC (.str (Str.ofString "number"))) (dCons (dC (.str (Str.ofString "amount"))) (dCons (dC (.str (Str.ofString "cube"))) (dCons (dC (.str (Str.ofString "match"))) (dCons (dC (.str (Str.ofString "place"))) dNil))))))) (gV 3))
  (xSeq (xAsg (dOp aAdd (dVar 3) (dLst (dCons (dC (.str (Str.ofString "text"))) (dCons (dC (.str (Str.ofString "nothing"))) (dCons (dC (.str (Str.ofString "order"))) (dCons (dC (.str (Str.ofString "sums"))) dNil)))))) (gV 3))
  (xRet (dIf (dTest (dOp aEq (dCountB (dVar 2) (dC (.bl true))) (dC (.int 1)))) (dOp aIx (dVar 3) (dIndexL (dVar 2) (dC (.bl true)))) (dC (.str (Str.ofString "other")))))))))))))))))
theorem ht_law_said : ∀ p ∈ plainC, ∀ (De : DE) (m : Mu) (b : Addr), De.rt (.str p.2) m → t_law_said p.1 b De ((List.replicate 4 none).set 1 (some (.ref b))) m := by
  intro p hp De m b h
  obtain ⟨hc, j, h1, h2, h3⟩ := marks_ok p hp
  have e3 : ((plainC.map (·.2)).map D.str)[j]? = some (.str p.2) := by rw [List.getElem?_map, h3]; rfl
  unfold t_law_said
  walk_at "d"
  repeat (refine ⟨by decide, ?_⟩)
  refine ⟨rfl, marks p.1, rfl, ?_⟩
  rw [hc]
  rw [if_pos (by decide)]
  unfold dIndexL dVar dC
  refine ⟨_, rfl, rfl, (marks p.1).map D.bl, j, .bl true, rfl, ?_, ⟨rfl, rfl⟩, by rw [List.getElem?_map, h1]; rfl, rfl, fun i z' hi hz => ?_, (plainC.map (·.2)).map D.str, .str p.2, rfl, by rw [at_nat]; exact e3, h⟩
  · exact ⟨rfl, rfl⟩
  · rw [List.getElem?_map, h2 i hi] at hz
    cases hz
    rfl
end C
end Mn

set_option linter.all false
set_option maxHeartbeats 4000000
set_option autoImplicit false
set_option maxRecDepth 100000
namespace Mn
open PySem L2
variable [Tbs]
local macro_rules | `(tactic| walk_at "d") => `(tactic| (try simp only [dIsE, dCountB, dAppendX, dNewE, xSetX, xRetX, xDropX, dCX, xRaise, xTryRet, dTupLcX, xStR, xStL, dSplit, dJoin, sStr, dLam, aStr, xNext, xSeq, xAsg, xRet, xRetF, xDrop, xIf, xPar, xPar3, xMatch, mGo, xFrz, xPut, xAug, xFor, dVar, dC, dOp, dTest, dChain, dAndV, dOrV, dNotV, dAnd, dOr, dNot, dIf, dNil, dCons, dTup, dLst, dLstM, dCB, dIsi, dLc, dLcM, dYes, wipeD, dSlice, oSome, oNone, aSl_tup, aSl_lst, dNeg, dStar, dNewD, dTupVals, dSortSet, dSortSetI, dDictZ, sKeys, dFld, dMeth, dCallO, dGetC, dNewC, dDc, dStep, dIndexTD, dCountL, dCountS, dExtend, dAppend, dFrz, dLc2, dCountT, dIndexT, sqf_tup, sqf_lst, sqf_pair, sSeq, sSeq_tup, sSeq_lst, sRg1, sRg2, sZip2, sZip3, sZip4, sEnum, gV, gN, gC, gT, tupOf_tup, tupOf_pair, aAdd_int, aAdd_tup, aAdd_lst, aSub_int, aMul_int, aDiv_int, aMod_int, aPow_int, aCmp_int, aIx_tup, aIx_lst, aIx_scr, aIx_pair, aMax_int, aMin_int, aInt_bl, aInt_int, aLen_tup, aLen_lst, aLen_scr, aLen_pair, aTuple_lst, aTuple_tup, aIsB_bl, aNotB_bl, aEq_int, aNe_int, startD, List.map_cons, List.map_nil, List.length_cons, List.length_nil, List.cons_append, List.nil_append, List.replicate_zero, List.replicate_succ, List.append_nil, List.getElem?_cons_zero, List.getElem?_cons_succ, List.set_cons_zero, List.set_cons_succ, Option.some.injEq, exists_eq_left', exists_eq_left, exists_eq', D.int.injEq, D.bl.injEq, D.tup.injEq, D.lst.injEq, D.pair.injEq, D.ref.injEq, List.cons.injEq, Nat.sub_self, Nat.zero_add, Nat.add_sub_cancel, seqI_tup, seqI_lst, seqOf_tup, seqOf_lst, tyN_tup, tyN_lst, tyN_int, tyN_bl, tyN_str, tyN_non, isi_tt, at_0, at_1, at_2, at_3, Option.map_some, true_and, and_true, if_true, Bool.false_eq_true, if_false, Bool.not_true, Bool.not_false, ↓reduceIte, Nat.reduceAdd, Nat.reduceSub, exists_and_left, and_assoc]))
namespace C
open SX
def xdS : XD := ⟨"SchemeError", []⟩
def s_need_scheme : DSpX := fun ds m Q Ed => ∃ d, ds = [d] ∧ Kn m d ∧ (isSch d = true → Q .non m) ∧ (isSch d = false → Ed xdS m)
theorem l_need_scheme : ∀ ds m Q Ed, s_need_scheme ds m Q Ed → ds.length = 1 := by rintro ds m Q Ed ⟨z, rfl, _⟩; rfl
def t_need_scheme : DS := (xIf (dNot (dTest (dCB s_is_scheme (dCons (dVar 0) dNil)))) (xRaise "SchemeError") xNext)
theorem v_need_scheme : BodyX 1 t_need_scheme s_need_scheme := by
  rintro ds m Q Ed ⟨d, rfl, hk, h1, h2⟩
  unfold t_need_scheme
  walk_at "d"
  refine ⟨_, rfl, hk, ?_⟩
  simp only [exists_eq_left', D.bl.injEq]
  cases h : isSch d with
  | true => simp only [Bool.not_true, Bool.false_eq_true, if_false]; exact ⟨_, fun _ _ e => e, h1 h⟩
  | false => simp only [Bool.not_false, if_true]; exact endX_ex (h2 h)
end C
end Mn

set_option Elab.async false
set_option linter.all false
set_option maxRecDepth 100000
set_option maxHeartbeats 4000000
set_option autoImplicit false
namespace Mn
open PySem PySem.Spec PyProof.Rows L2
variable [Tbs]
/-! abs -/
end Mn

set_option linter.all false
set_option maxHeartbeats 4000000
set_option autoImplicit false
set_option maxRecDepth 100000
namespace Mn
open PySem L2
variable [Tbs]
local macro_rules | `(tactic| walk_at "d") => `(tactic| (try simp only [dIsE, dCountB, dAppendX, dNewE, xSetX, xRetX, xDropX, dCX, xRaise, xTryRet, dTupLcX, xStR, xStL, dSplit, dJoin, sStr, dLam, aStr, xNext, xSeq, xAsg, xRet, xRetF, xDrop, xIf, xPar, xPar3, xMatch, mGo, xFrz, xPut, xAug, xFor, dVar, dC, dOp, dTest, dChain, dAndV, dOrV, dNotV, dAnd, dOr, dNot, dIf, dNil, dCons, dTup, dLst, dLstM, dCB, dIsi, dLc, dLcM, dYes, wipeD, dSlice, oSome, oNone, aSl_tup, aSl_lst, dNeg, dStar, dNewD, dTupVals, dSortSet, dSortSetI, dDictZ, sKeys, dFld, dMeth, dCallO, dGetC, dNewC, dDc, dStep, dIndexTD, dCountL, dCountS, dExtend, dAppend, dFrz, dLc2, dCountT, dIndexT, sqf_tup, sqf_lst, sqf_pair, sSeq, sSeq_tup, sSeq_lst, sRg1, sRg2, sZip2, sZip3, sZip4, sEnum, gV, gN, gC, gT, tupOf_tup, tupOf_pair, aAdd_int, aAdd_tup, aAdd_lst, aSub_int, aMul_int, aDiv_int, aMod_int, aPow_int, aCmp_int, aIx_tup, aIx_lst, aIx_scr, aIx_pair, aMax_int, aMin_int, aInt_bl, aInt_int, aLen_tup, aLen_lst, aLen_scr, aLen_pair, aTuple_lst, aTuple_tup, aIsB_bl, aNotB_bl, aEq_int, aNe_int, startD, List.map_cons, List.map_nil, List.length_cons, List.length_nil, List.cons_append, List.nil_append, List.replicate_zero, List.replicate_succ, List.append_nil, List.getElem?_cons_zero, List.getElem?_cons_succ, List.set_cons_zero, List.set_cons_succ, Option.some.injEq, exists_eq_left', exists_eq_left, exists_eq', D.int.injEq, D.bl.injEq, D.tup.injEq, D.lst.injEq, D.pair.injEq, D.ref.injEq, List.cons.injEq, Nat.sub_self, Nat.zero_add, Nat.add_sub_cancel, seqI_tup, seqI_lst, seqOf_tup, seqOf_lst, tyN_tup, tyN_lst, tyN_int, tyN_bl, tyN_str, tyN_non, isi_tt, at_0, at_1, at_2, at_3, Option.map_some, true_and, and_true, if_true, Bool.false_eq_true, if_false, Bool.not_true, Bool.not_false, ↓reduceIte, Nat.reduceAdd, Nat.reduceSub, exists_and_left, and_assoc]))
namespace C
open SX
/-! texts of reports -/
end C
end Mn

set_option linter.all false
set_option maxHeartbeats 4000000
set_option autoImplicit false
set_option maxRecDepth 100000
namespace Mn
open PySem L2
variable [Tbs]
local macro_rules | `(tactic| walk_at "d") => `(tactic| (try simp only [xNext, xSeq, xAsg, xRet, xRetF, xDrop, xIf, xPar, xPar3, xFrz, xPut, xAug, xFor, dVar, dC, dOp, dTest, dChain, dAndV, dOrV, dNotV, dAnd, dOr, dNot, dIf, dNil, dCons, dTup, dLst, dLstM, dCB, dIsi, dLc, dLcM, dYes, wipeD, dSlice, oSome, oNone, aSl_tup, aSl_lst, dNeg, dStar, dNewD, dTupVals, dCountL, dExtend, dAppend, dFrz, dLc2, dCountT, dIndexT, sqf_tup, sqf_lst, sqf_pair, sSeq, sSeq_tup, sSeq_lst, sRg1, sRg2, sZip2, sZip3, sEnum, gV, gN, gC, gT, tupOf_tup, tupOf_pair, aAdd_int, aAdd_tup, aAdd_lst, aSub_int, aMul_int, aDiv_int, aMod_int, aPow_int, aCmp_int, aIx_tup, aIx_lst, aIx_scr, aIx_pair, aMax_int, aMin_int, aInt_bl, aInt_int, aLen_tup, aLen_lst, aLen_scr, aLen_pair, aTuple_lst, aTuple_tup, aEq_int, aNe_int, startD, List.map_cons, List.map_nil, List.length_cons, List.length_nil, List.cons_append, List.nil_append, List.replicate_zero, List.replicate_succ, List.append_nil, List.getElem?_cons_zero, List.getElem?_cons_succ, List.set_cons_zero, List.set_cons_succ, Option.some.injEq, exists_eq_left', exists_eq_left, exists_eq', D.int.injEq, D.bl.injEq, D.tup.injEq, D.lst.injEq, D.pair.injEq, D.ref.injEq, List.cons.injEq, Nat.sub_self, Nat.zero_add, Nat.add_sub_cancel, seqI_tup, seqI_lst, seqOf_tup, seqOf_lst, tyN_tup, tyN_lst, tyN_int, tyN_bl, tyN_str, tyN_non, isi_tt, at_0, at_1, at_2, at_3, Option.map_some, true_and, and_true, if_true, Bool.false_eq_true, if_false, Bool.not_true, Bool.not_false, ↓reduceIte, Nat.reduceAdd, Nat.reduceSub, exists_and_left, and_assoc]))
/-! the stored, drawn -/
def StoI (m0 : Mu) (p p2 : Addr) (s : Sch) (k n : Nat) : Nat → Ro → Mu → Prop := fun i rr m' =>
  (∃ x4 x5, rr = [some (.ref p), some (encS s), some (nD k), some (.ref p2), x4, x5]) ∧ Pen m' p (n + 5 * i) ∧
  (∃ st : List (List Nat), st.length = i ∧ (∀ r ∈ st, Roll s r) ∧ m' p2 = some (.lst (st.map tD))) ∧ ∀ b, b ≠ p → b ≠ p2 → m' b = m0 b
/-- the rollup is put behind -/
theorem StoI.put {m0 : Mu} {p p2 : Addr} {s : Sch} {k n i : Nat} (n2 : p2 ≠ p) (hi : i ≤ 60) {m' : Mu} {P : Ro → Mu → Prop} (hP : ∀ r m, StoI m0 p p2 s k n (i + 1) r m → P r m) {st : List (List Nat)} (hx : st.length = i) (hb : ∀ r ∈ st, Roll s r)
    (e2 : m' p2 = some (.lst (st.map tD))) (hfr : ∀ b, b ≠ p → b ≠ p2 → m' b = m0 b) {j : Nat} (hp : Pen m' p j) (hk : j ≤ n + 5 * (i + 1)) {r : List Nat} (hr : Roll s r) {x4 x5 : Option D} :
    ∃ ds, m' p2 = some (.lst ds) ∧ ds.length < sizeLine ∧ P [some (.ref p), some (encS s), some (nD k), some (.ref p2), x4, x5] (up m' p2 (.lst (ds ++ [tD r]))) := by
  refine ⟨_, e2, small' (k := 1000) (by rw [List.length_map]; omega), hP _ _ ⟨⟨_, _, rfl⟩, ?_, ⟨st ++ [r], by rw [List.length_append, List.length_singleton, hx], ?_, ?_⟩, ?_⟩⟩
  · obtain ⟨a, b, c, e, hh⟩ := hp
    exact ⟨a, b, c, by rw [up_ne n2.symm]; exact e, by omega⟩
  · intro y hy
    rcases List.mem_append.mp hy with hy | hy
    · exact hb y hy
    · rw [List.mem_singleton] at hy; subst hy; exact hr
  · rw [up_same, List.map_append]; rfl
  · intro b hb1 hb2
    rw [up_ne hb2]; exact hfr b hb1 hb2
/-! taken, by the law -/
/-! the parts, by the law -/
def TkP (t : List Nat) : Prop := (∃ x, t = [x]) ∨ ∃ i j, i ≠ j ∧ t = [i, j]
theorem TkV.p {n : Nat} {t : List Nat} (h : TkV n t) : TkP t := by
  rcases h with h | ⟨i, j, hij, _, h⟩
  · exact Or.inl ⟨_, h⟩
  · exact Or.inr ⟨i, j, by omega, h⟩
/-! the answer, by the law -/
end Mn

set_option linter.all false
set_option maxHeartbeats 4000000
set_option autoImplicit false
set_option maxRecDepth 100000
namespace Mn
open PySem L2
variable [Tbs]
local macro_rules | `(tactic| walk_at "d") => `(tactic| (try simp only [xNext, xSeq, xAsg, xRet, xRetF, xDrop, xIf, xPar, xPar3, xFrz, xPut, xAug, xFor, dVar, dC, dOp, dTest, dChain, dAndV, dOrV, dNotV, dAnd, dOr, dNot, dIf, dNil, dCons, dTup, dLst, dLstM, dCB, dIsi, dLc, dLcM, dYes, wipeD, dSlice, oSome, oNone, aSl_tup, aSl_lst, dNeg, dStar, dNewD, dTupVals, dCountL, dExtend, dAppend, dFrz, dLc2, dCountT, dIndexT, sqf_tup, sqf_lst, sqf_pair, sSeq, sSeq_tup, sSeq_lst, sRg1, sRg2, sZip2, sZip3, sEnum, gV, gN, gC, gT, tupOf_tup, tupOf_pair, aAdd_int, aAdd_tup, aAdd_lst, aSub_int, aMul_int, aDiv_int, aMod_int, aPow_int, aCmp_int, aIx_tup, aIx_lst, aIx_scr, aIx_pair, aMax_int, aMin_int, aInt_bl, aInt_int, aLen_tup, aLen_lst, aLen_scr, aLen_pair, aTuple_lst, aTuple_tup, aEq_int, aNe_int, startD, List.map_cons, List.map_nil, List.length_cons, List.length_nil, List.cons_append, List.nil_append, List.replicate_zero, List.replicate_succ, List.append_nil, List.getElem?_cons_zero, List.getElem?_cons_succ, List.set_cons_zero, List.set_cons_succ, Option.some.injEq, exists_eq_left', exists_eq_left, exists_eq', D.int.injEq, D.bl.injEq, D.tup.injEq, D.lst.injEq, D.pair.injEq, D.ref.injEq, List.cons.injEq, Nat.sub_self, Nat.zero_add, Nat.add_sub_cancel, seqI_tup, seqI_lst, seqOf_tup, seqOf_lst, tyN_tup, tyN_lst, tyN_int, tyN_bl, tyN_str, tyN_non, isi_tt, at_0, at_1, at_2, at_3, Option.map_some, true_and, and_true, if_true, Bool.false_eq_true, if_false, Bool.not_true, Bool.not_false, ↓reduceIte, Nat.reduceAdd, Nat.reduceSub, exists_and_left, and_assoc]))
end Mn

set_option linter.all false
set_option maxHeartbeats 4000000
set_option autoImplicit false
set_option maxRecDepth 100000
namespace Mn
open PySem L2
variable [Tbs]
local macro_rules | `(tactic| walk_at "d") => `(tactic| (try simp only [xNext, xSeq, xAsg, xRet, xRetF, xDrop, xIf, xPar, xPar3, xMatch, mGo, xFrz, xPut, xAug, xFor, dVar, dC, dOp, dTest, dChain, dAndV, dOrV, dNotV, dAnd, dOr, dNot, dIf, dNil, dCons, dTup, dLst, dLstM, dCB, dIsi, dLc, dLcM, dYes, wipeD, dSlice, oSome, oNone, aSl_tup, aSl_lst, dNeg, dStar, dNewD, dTupVals, dSortSet, dDc, dStep, dIndexTD, dCountL, dExtend, dAppend, dFrz, dLc2, dCountT, dIndexT, sqf_tup, sqf_lst, sqf_pair, sSeq, sSeq_tup, sSeq_lst, sRg1, sRg2, sZip2, sZip3, sZip4, sEnum, gV, gN, gC, gT, tupOf_tup, tupOf_pair, aAdd_int, aAdd_tup, aAdd_lst, aSub_int, aMul_int, aDiv_int, aMod_int, aPow_int, aCmp_int, aIx_tup, aIx_lst, aIx_scr, aIx_pair, aMax_int, aMin_int, aInt_bl, aInt_int, aLen_tup, aLen_lst, aLen_scr, aLen_pair, aTuple_lst, aTuple_tup, aIsB_bl, aNotB_bl, aEq_int, aNe_int, startD, List.map_cons, List.map_nil, List.length_cons, List.length_nil, List.cons_append, List.nil_append, List.replicate_zero, List.replicate_succ, List.append_nil, List.getElem?_cons_zero, List.getElem?_cons_succ, List.set_cons_zero, List.set_cons_succ, Option.some.injEq, exists_eq_left', exists_eq_left, exists_eq', D.int.injEq, D.bl.injEq, D.tup.injEq, D.lst.injEq, D.pair.injEq, D.ref.injEq, List.cons.injEq, Nat.sub_self, Nat.zero_add, Nat.add_sub_cancel, seqI_tup, seqI_lst, seqOf_tup, seqOf_lst, tyN_tup, tyN_lst, tyN_int, tyN_bl, tyN_str, tyN_non, isi_tt, at_0, at_1, at_2, at_3, Option.map_some, true_and, and_true, if_true, Bool.false_eq_true, if_false, Bool.not_true, Bool.not_false, ↓reduceIte, Nat.reduceAdd, Nat.reduceSub, exists_and_left, and_assoc]))
/-! how many amounts of the two tables are 1 -/
/-! the two tables of an answer -/
end Mn

set_option linter.all false
set_option maxHeartbeats 4000000
set_option autoImplicit false
set_option maxRecDepth 100000
namespace Mn
open PySem L2
variable [Tbs]
local macro_rules | `(tactic| walk_at "d") => `(tactic| (try simp only [xNext, xSeq, xAsg, xRet, xRetF, xDrop, xIf, xPar, xPar3, xMatch, mGo, xFrz, xPut, xAug, xFor, dVar, dC, dOp, dTest, dChain, dAndV, dOrV, dNotV, dAnd, dOr, dNot, dIf, dNil, dCons, dTup, dLst, dLstM, dCB, dIsi, dLc, dLcM, dYes, wipeD, dSlice, oSome, oNone, aSl_tup, aSl_lst, dNeg, dStar, dNewD, dTupVals, dSortSet, dDc, dStep, dIndexTD, dCountL, dExtend, dAppend, dFrz, dLc2, dCountT, dIndexT, sqf_tup, sqf_lst, sqf_pair, sSeq, sSeq_tup, sSeq_lst, sRg1, sRg2, sZip2, sZip3, sZip4, sEnum, gV, gN, gC, gT, tupOf_tup, tupOf_pair, aAdd_int, aAdd_tup, aAdd_lst, aSub_int, aMul_int, aDiv_int, aMod_int, aPow_int, aCmp_int, aIx_tup, aIx_lst, aIx_scr, aIx_pair, aMax_int, aMin_int, aInt_bl, aInt_int, aLen_tup, aLen_lst, aLen_scr, aLen_pair, aTuple_lst, aTuple_tup, aIsB_bl, aNotB_bl, aEq_int, aNe_int, startD, List.map_cons, List.map_nil, List.length_cons, List.length_nil, List.cons_append, List.nil_append, List.replicate_zero, List.replicate_succ, List.append_nil, List.getElem?_cons_zero, List.getElem?_cons_succ, List.set_cons_zero, List.set_cons_succ, Option.some.injEq, exists_eq_left', exists_eq_left, exists_eq', D.int.injEq, D.bl.injEq, D.tup.injEq, D.lst.injEq, D.pair.injEq, D.ref.injEq, List.cons.injEq, Nat.sub_self, Nat.zero_add, Nat.add_sub_cancel, seqI_tup, seqI_lst, seqOf_tup, seqOf_lst, tyN_tup, tyN_lst, tyN_int, tyN_bl, tyN_str, tyN_non, isi_tt, at_0, at_1, at_2, at_3, Option.map_some, true_and, and_true, if_true, Bool.false_eq_true, if_false, Bool.not_true, Bool.not_false, ↓reduceIte, Nat.reduceAdd, Nat.reduceSub, exists_and_left, and_assoc]))
/-! costs -/
/-! the best of choices -/
end Mn

set_option Elab.async false
set_option linter.all false
set_option maxRecDepth 100000
set_option maxHeartbeats 4000000
set_option autoImplicit false
namespace Mn
open PySem PySem.Spec PyProof.Rows L2
variable [Tbs]
/-! [.. for x in xs], where xs is a list that may change, but stands still meanwhile -/
def lcGoR (p : Addr) (all : List D) (g : DG) (tt : DB) (te : DT) (r : Ro) : List D → List D → Mu → (List D → Mu → Prop) → Prop
  | [], acc, m, Q => m p = some (.lst all) ∧ Q acc m
  | d :: ds, acc, m, Q => m p = some (.lst all) ∧ g d r fun r1 => tt r1 m fun b m1 => if b = true then te r1 m1 fun y m2 => lcGoR p all g tt te r ds (acc ++ [y]) m2 Q else lcGoR p all g tt te r ds acc m1 Q
def dLcR (to : DT) (vs : List Nat) (g : DG) (tt : DB) (te : DT) : DT := fun r m Q => to r m fun d m1 => ∃ p all, d = .ref p ∧ m1 p = some (.lst all) ∧ all.length ≤ sizeLine ∧ lcGoR p all g tt te (wipeD r vs) all [] m1 fun acc m2 => Q (.lst acc) m2
section
variable {X : Cx} {elt tg e : Expr} {ifs : List Expr} {scope : Scope} {own : List (Str × Nat)} {pos : Pos} {g : TG} {dg : DG} {tt : DB} {te to : DT}
end
end Mn

set_option linter.all false
set_option maxHeartbeats 4000000
set_option autoImplicit false
set_option maxRecDepth 100000
namespace Mn
open PySem L2
variable [Tbs]
local macro_rules | `(tactic| walk_at "d") => `(tactic| (try simp only [dIsE, dCountB, dAppendX, dNewE, xSetX, xRetX, xDropX, dCX, xRaise, xTryRet, dTupLcX, xStR, xStL, dSplit, dJoin, sStr, dLam, aStr, xNext, xSeq, xAsg, xRet, xRetF, xDrop, xIf, xPar, xPar3, xMatch, mGo, xFrz, xPut, xAug, xFor, dVar, dC, dOp, dTest, dChain, dAndV, dOrV, dNotV, dAnd, dOr, dNot, dIf, dNil, dCons, dTup, dLst, dLstM, dCB, dIsi, dLc, dLcM, dYes, wipeD, dSlice, oSome, oNone, aSl_tup, aSl_lst, dNeg, dStar, dNewD, dTupVals, dSortSet, dSortSetI, dDictZ, sKeys, dFld, dMeth, dCallO, dGetC, dNewC, dDc, dStep, dIndexTD, dCountL, dCountS, dExtend, dAppend, dFrz, dLc2, dCountT, dIndexT, sqf_tup, sqf_lst, sqf_pair, sSeq, sSeq_tup, sSeq_lst, sRg1, sRg2, sZip2, sZip3, sZip4, sEnum, gV, gN, gC, gT, tupOf_tup, tupOf_pair, aAdd_int, aAdd_tup, aAdd_lst, aSub_int, aMul_int, aDiv_int, aMod_int, aPow_int, aCmp_int, aIx_tup, aIx_lst, aIx_scr, aIx_pair, aMax_int, aMin_int, aInt_bl, aInt_int, aLen_tup, aLen_lst, aLen_scr, aLen_pair, aTuple_lst, aTuple_tup, aIsB_bl, aNotB_bl, aEq_int, aNe_int, startD, List.map_cons, List.map_nil, List.length_cons, List.length_nil, List.cons_append, List.nil_append, List.replicate_zero, List.replicate_succ, List.append_nil, List.getElem?_cons_zero, List.getElem?_cons_succ, List.set_cons_zero, List.set_cons_succ, Option.some.injEq, exists_eq_left', exists_eq_left, exists_eq', D.int.injEq, D.bl.injEq, D.tup.injEq, D.lst.injEq, D.pair.injEq, D.ref.injEq, List.cons.injEq, Nat.sub_self, Nat.zero_add, Nat.add_sub_cancel, seqI_tup, seqI_lst, seqOf_tup, seqOf_lst, tyN_tup, tyN_lst, tyN_int, tyN_bl, tyN_str, tyN_non, isi_tt, at_0, at_1, at_2, at_3, Option.map_some, true_and, and_true, if_true, Bool.false_eq_true, if_false, Bool.not_true, Bool.not_false, ↓reduceIte, Nat.reduceAdd, Nat.reduceSub, exists_and_left, and_assoc]))
namespace C
open SX
/-! cells and rollups, found by the law -/
def s_law_below : DSp := Mn.s_law_tuples
theorem l_law_below : ∀ ds m Q, s_law_below ds m Q → ds.length = 1 := Mn.l_law_tuples
def t_law_below : DS := (xSeq (xAsg (dLst (dCons (dTup dNil) dNil)) (gV 1))
  (xSeq (xFor (sSeq (dVar 0)) (gV 2) (xSeq (xAsg (dLstM dNil) (gV 3))
  (xSeq (xFor (sSeq (dVar 1)) (gV 4) (xDrop (dExtend (dVar 3) (dLc (sRg1 (dVar 2)) [5] (gV 5) dYes (dOp aAdd (dVar 4) (dTup (dCons (dVar 5) dNil)))))))
  (xAsg (dFrz 3) (gV 1)))))
  (xRet (dVar 1))))
theorem v_law_below : Body 6 t_law_below s_law_below := Mn.v_law_tuples
def s_law_cells : DSp := Mn.s_cells_of
/-! reports, made by the law -/
theorem prod_pos {s : Sch} {r : List Nat} (hs : SchV s) (hr : Roll s r) : 1 ≤ prodN (szs s r) := by
  have key : ∀ (l : List Nat) (a : Nat), 1 ≤ a → (∀ k ∈ l, 1 ≤ k) → 1 ≤ l.foldl (fun a n => a * n) a := by
    intro l
    induction l with
    | nil => intro a h _; exact h
    | cons x l ih => intro a h hl; exact ih _ (Nat.mul_pos h (hl x (by simp))) fun k hk => hl k (List.mem_cons_of_mem _ hk)
  exact key _ 1 (by decide) fun k hk => (szs_le hs hr k hk).1
theorem rep_nD (k c : Nat) : (List.replicate k [D.int (c : Int)]).flatten = (List.replicate k c).map nD := by
  induction k with
  | zero => rfl
  | succ k ih => rw [List.replicate_succ, List.flatten_cons, ih, List.replicate_succ]; rfl
end C
end Mn

set_option linter.all false
set_option maxHeartbeats 4000000
set_option autoImplicit false
set_option maxRecDepth 100000
namespace Mn
open PySem L2
variable [Tbs]
local macro_rules | `(tactic| walk_at "d") => `(tactic| (try simp only [dIsE, dCountB, dAppendX, dNewE, xSetX, xRetX, xDropX, dCX, xRaise, xTryRet, dTupLcX, xStR, xStL, dSplit, dJoin, sStr, dLam, aStr, xNext, xSeq, xAsg, xRet, xRetF, xDrop, xIf, xPar, xPar3, xMatch, mGo, xFrz, xPut, xAug, xFor, dVar, dC, dOp, dTest, dChain, dAndV, dOrV, dNotV, dAnd, dOr, dNot, dIf, dNil, dCons, dTup, dLst, dLstM, dCB, dIsi, dLc, dLcM, dYes, wipeD, dSlice, oSome, oNone, aSl_tup, aSl_lst, dNeg, dStar, dNewD, dTupVals, dSortSet, dSortSetI, dDictZ, sKeys, dFld, dMeth, dCallO, dGetC, dNewC, dDc, dStep, dIndexTD, dCountL, dCountS, dExtend, dAppend, dFrz, dLc2, dCountT, dIndexT, sqf_tup, sqf_lst, sqf_pair, sSeq, sSeq_tup, sSeq_lst, sRg1, sRg2, sZip2, sZip3, sZip4, sEnum, gV, gN, gC, gT, tupOf_tup, tupOf_pair, aAdd_int, aAdd_tup, aAdd_lst, aSub_int, aMul_int, aDiv_int, aMod_int, aPow_int, aCmp_int, aIx_tup, aIx_lst, aIx_scr, aIx_pair, aMax_int, aMin_int, aInt_bl, aInt_int, aLen_tup, aLen_lst, aLen_scr, aLen_pair, aTuple_lst, aTuple_tup, aIsB_bl, aNotB_bl, aEq_int, aNe_int, startD, List.map_cons, List.map_nil, List.length_cons, List.length_nil, List.cons_append, List.nil_append, List.replicate_zero, List.replicate_succ, List.append_nil, List.getElem?_cons_zero, List.getElem?_cons_succ, List.set_cons_zero, List.set_cons_succ, Option.some.injEq, exists_eq_left', exists_eq_left, exists_eq', D.int.injEq, D.bl.injEq, D.tup.injEq, D.lst.injEq, D.pair.injEq, D.ref.injEq, List.cons.injEq, Nat.sub_self, Nat.zero_add, Nat.add_sub_cancel, seqI_tup, seqI_lst, seqOf_tup, seqOf_lst, tyN_tup, tyN_lst, tyN_int, tyN_bl, tyN_str, tyN_non, isi_tt, at_0, at_1, at_2, at_3, Option.map_some, true_and, and_true, if_true, Bool.false_eq_true, if_false, Bool.not_true, Bool.not_false, ↓reduceIte, Nat.reduceAdd, Nat.reduceSub, exists_and_left, and_assoc]))
namespace C
open SX
/-! reports of any value -/
theorem isAm_ex {s : Sch} {r : List Nat} {d : D} (h : isAm s r d = true) : ∃ xs : List Int, d = iD xs ∧ xs.length = prodN (szs s r) := by
  cases d with
  | tup ds =>
    simp only [isAm, Bool.and_eq_true, decide_eq_true_eq] at h
    obtain ⟨h1, h2⟩ := h
    have key : ∀ ds : List D, ds.all isIntD = true → ∃ xs : List Int, ds = xs.map D.int := by
      intro ds
      induction ds with
      | nil => intro _; exact ⟨[], rfl⟩
      | cons d ds ih =>
        intro h
        rw [List.all_cons, Bool.and_eq_true] at h
        obtain ⟨xs, rfl⟩ := ih h.2
        cases d with
        | int i => exact ⟨i :: xs, rfl⟩
        | _ => exact absurd h.1 (by simp [isIntD])
    obtain ⟨xs, rfl⟩ := key ds h2
    exact ⟨xs, rfl, by rw [List.length_map] at h1; exact h1⟩
  | _ => simp [isAm] at h
theorem tD_inj {a b : List Nat} (h : tD a = tD b) : a = b := by
  simp only [tD, D.tup.injEq] at h
  exact (List.map_inj_right (fun a b h => by simp only [nD, D.int.injEq] at h; omega)).mp h
theorem iD_inj {a b : List Int} (h : iD a = iD b) : a = b := by
  simp only [iD, D.tup.injEq] at h
  exact (List.map_inj_right (fun a b h => by simpa only [D.int.injEq] using h)).mp h
/-! report_of -/
end C
end Mn

set_option linter.all false
set_option maxHeartbeats 4000000
set_option autoImplicit false
set_option maxRecDepth 100000
namespace Mn
open PySem L2
variable [Tbs]
local macro_rules | `(tactic| walk_at "d") => `(tactic| (try simp only [dIsE, dCountB, dAppendX, dNewE, xSetX, xRetX, xDropX, dCX, xRaise, xTryRet, dTupLcX, xStR, xStL, dSplit, dJoin, sStr, dLam, aStr, xNext, xSeq, xAsg, xRet, xRetF, xDrop, xIf, xPar, xPar3, xMatch, mGo, xFrz, xPut, xAug, xFor, dVar, dC, dOp, dTest, dChain, dAndV, dOrV, dNotV, dAnd, dOr, dNot, dIf, dNil, dCons, dTup, dLst, dLstM, dCB, dIsi, dLc, dLcM, dYes, wipeD, dSlice, oSome, oNone, aSl_tup, aSl_lst, dNeg, dStar, dNewD, dTupVals, dSortSet, dSortSetI, dDictZ, sKeys, dFld, dMeth, dCallO, dGetC, dNewC, dDc, dStep, dIndexTD, dCountL, dCountS, dExtend, dAppend, dFrz, dLc2, dCountT, dIndexT, sqf_tup, sqf_lst, sqf_pair, sSeq, sSeq_tup, sSeq_lst, sRg1, sRg2, sZip2, sZip3, sZip4, sEnum, gV, gN, gC, gT, tupOf_tup, tupOf_pair, aAdd_int, aAdd_tup, aAdd_lst, aSub_int, aMul_int, aDiv_int, aMod_int, aPow_int, aCmp_int, aIx_tup, aIx_lst, aIx_scr, aIx_pair, aMax_int, aMin_int, aInt_bl, aInt_int, aLen_tup, aLen_lst, aLen_scr, aLen_pair, aTuple_lst, aTuple_tup, aIsB_bl, aNotB_bl, aEq_int, aNe_int, startD, List.map_cons, List.map_nil, List.length_cons, List.length_nil, List.cons_append, List.nil_append, List.replicate_zero, List.replicate_succ, List.append_nil, List.getElem?_cons_zero, List.getElem?_cons_succ, List.set_cons_zero, List.set_cons_succ, Option.some.injEq, exists_eq_left', exists_eq_left, exists_eq', D.int.injEq, D.bl.injEq, D.tup.injEq, D.lst.injEq, D.pair.injEq, D.ref.injEq, List.cons.injEq, Nat.sub_self, Nat.zero_add, Nat.add_sub_cancel, seqI_tup, seqI_lst, seqOf_tup, seqOf_lst, tyN_tup, tyN_lst, tyN_int, tyN_bl, tyN_str, tyN_non, isi_tt, at_0, at_1, at_2, at_3, Option.map_some, true_and, and_true, if_true, Bool.false_eq_true, if_false, Bool.not_true, Bool.not_false, ↓reduceIte, Nat.reduceAdd, Nat.reduceSub, exists_and_left, and_assoc]))
namespace C
open SX
/-! read_report -/
end C
end Mn

set_option Elab.async false
set_option linter.all false
set_option maxRecDepth 100000
set_option maxHeartbeats 4000000
set_option autoImplicit false
namespace Mn
open PySem PySem.Spec PyProof.Rows L2
variable [Tbs]
/-! a, b = a list -/
def gTL (n : Nat) (gs : DGs) : DG := fun d r P => ∃ ds, d = .lst ds ∧ ds.length = n ∧ gs ds r P
end Mn

set_option linter.all false
set_option maxHeartbeats 4000000
set_option autoImplicit false
set_option maxRecDepth 100000
namespace Mn
open PySem L2
variable [Tbs]
local macro_rules | `(tactic| walk_at "d") => `(tactic| (try simp only [dIsE, dCountB, dAppendX, dNewE, xSetX, xRetX, xDropX, dCX, xRaise, xTryRet, dTupLcX, xStR, xStL, dSplit, dJoin, sStr, dLam, aStr, gTL, dLcR, xNext, xSeq, xAsg, xRet, xRetF, xDrop, xIf, xPar, xPar3, xMatch, mGo, xFrz, xPut, xAug, xFor, dVar, dC, dOp, dTest, dChain, dAndV, dOrV, dNotV, dAnd, dOr, dNot, dIf, dNil, dCons, dTup, dLst, dLstM, dCB, dIsi, dLc, dLcM, dYes, wipeD, dSlice, oSome, oNone, aSl_tup, aSl_lst, dNeg, dStar, dNewD, dTupVals, dSortSet, dSortSetI, dDictZ, sKeys, dFld, dMeth, dCallO, dGetC, dNewC, dDc, dStep, dIndexTD, dCountL, dCountS, dExtend, dAppend, dFrz, dLc2, dCountT, dIndexT, sqf_tup, sqf_lst, sqf_pair, sSeq, sSeq_tup, sSeq_lst, sRg1, sRg2, sZip2, sZip3, sZip4, sEnum, gV, gN, gC, gT, tupOf_tup, tupOf_pair, aAdd_int, aAdd_tup, aAdd_lst, aSub_int, aMul_int, aDiv_int, aMod_int, aPow_int, aCmp_int, aIx_tup, aIx_lst, aIx_scr, aIx_pair, aMax_int, aMin_int, aInt_bl, aInt_int, aLen_tup, aLen_lst, aLen_scr, aLen_pair, aTuple_lst, aTuple_tup, aIsB_bl, aNotB_bl, aEq_int, aNe_int, startD, List.map_cons, List.map_nil, List.length_cons, List.length_nil, List.cons_append, List.nil_append, List.replicate_zero, List.replicate_succ, List.append_nil, List.getElem?_cons_zero, List.getElem?_cons_succ, List.set_cons_zero, List.set_cons_succ, Option.some.injEq, exists_eq_left', exists_eq_left, exists_eq', D.int.injEq, D.bl.injEq, D.tup.injEq, D.lst.injEq, D.pair.injEq, D.ref.injEq, List.cons.injEq, Nat.sub_self, Nat.zero_add, Nat.add_sub_cancel, seqI_tup, seqI_lst, seqOf_tup, seqOf_lst, tyN_tup, tyN_lst, tyN_int, tyN_bl, tyN_str, tyN_non, isi_tt, at_0, at_1, at_2, at_3, Option.map_some, true_and, and_true, if_true, Bool.false_eq_true, if_false, Bool.not_true, Bool.not_false, ↓reduceIte, Nat.reduceAdd, Nat.reduceSub, exists_and_left, and_assoc]))
namespace C
open SX
/-! texts of reports, made and read by the law -/
theorem roll_of {s : Sch} {r : List Nat} (hl : r.length = s.length) (h : ∀ (i : Nat) (a : At) (l : Nat), s[i]? = some a → r[i]? = some l → l ≤ a.ss.length) : Roll s r := by
  show isRoll s (tD r) = true
  simp only [isRoll, tD, List.length_map, Bool.and_eq_true, decide_eq_true_eq]
  refine ⟨hl, ?_⟩
  rw [List.all_eq_true]
  intro b hb
  obtain ⟨i, hi⟩ := List.mem_iff_getElem?.mp hb
  rw [List.getElem?_zipWith, List.getElem?_map] at hi
  cases ha : s[i]? with
  | none => rw [ha] at hi; simp at hi
  | some a =>
    cases hr : r[i]? with
    | none => rw [ha, hr] at hi; simp at hi
    | some l =>
      rw [ha, hr] at hi
      simp only [Option.map_some, Option.some.injEq] at hi
      subst hi
      have := h i a l ha hr
      simp only [betw, nD, id, Bool.and_eq_true, decide_eq_true_eq]
      omega
end C
end Mn

set_option linter.all false
set_option maxHeartbeats 4000000
set_option autoImplicit false
set_option maxRecDepth 100000
namespace Mn
open PySem L2
variable [Tbs]
local macro_rules | `(tactic| walk_at "d") => `(tactic| (try simp only [dIsE, dCountB, dAppendX, dNewE, xSetX, xRetX, xDropX, dCX, xRaise, xTryRet, dTupLcX, xStR, xStL, dSplit, dJoin, sStr, dLam, aStr, gTL, dLcR, xNext, xSeq, xAsg, xRet, xRetF, xDrop, xIf, xPar, xPar3, xMatch, mGo, xFrz, xPut, xAug, xFor, dVar, dC, dOp, dTest, dChain, dAndV, dOrV, dNotV, dAnd, dOr, dNot, dIf, dNil, dCons, dTup, dLst, dLstM, dCB, dIsi, dLc, dLcM, dYes, wipeD, dSlice, oSome, oNone, aSl_tup, aSl_lst, dNeg, dStar, dNewD, dTupVals, dSortSet, dSortSetI, dDictZ, sKeys, dFld, dMeth, dCallO, dGetC, dNewC, dDc, dStep, dIndexTD, dCountL, dCountS, dExtend, dAppend, dFrz, dLc2, dCountT, dIndexT, sqf_tup, sqf_lst, sqf_pair, sSeq, sSeq_tup, sSeq_lst, sRg1, sRg2, sZip2, sZip3, sZip4, sEnum, gV, gN, gC, gT, tupOf_tup, tupOf_pair, aAdd_int, aAdd_tup, aAdd_lst, aSub_int, aMul_int, aDiv_int, aMod_int, aPow_int, aCmp_int, aIx_tup, aIx_lst, aIx_scr, aIx_pair, aMax_int, aMin_int, aInt_bl, aInt_int, aLen_tup, aLen_lst, aLen_scr, aLen_pair, aTuple_lst, aTuple_tup, aIsB_bl, aNotB_bl, aEq_int, aNe_int, startD, List.map_cons, List.map_nil, List.length_cons, List.length_nil, List.cons_append, List.nil_append, List.replicate_zero, List.replicate_succ, List.append_nil, List.getElem?_cons_zero, List.getElem?_cons_succ, List.set_cons_zero, List.set_cons_succ, Option.some.injEq, exists_eq_left', exists_eq_left, exists_eq', D.int.injEq, D.bl.injEq, D.tup.injEq, D.lst.injEq, D.pair.injEq, D.ref.injEq, List.cons.injEq, Nat.sub_self, Nat.zero_add, Nat.add_sub_cancel, seqI_tup, seqI_lst, seqOf_tup, seqOf_lst, tyN_tup, tyN_lst, tyN_int, tyN_bl, tyN_str, tyN_non, isi_tt, at_0, at_1, at_2, at_3, Option.map_some, true_and, and_true, if_true, Bool.false_eq_true, if_false, Bool.not_true, Bool.not_false, ↓reduceIte, Nat.reduceAdd, Nat.reduceSub, exists_and_left, and_assoc]))
namespace C
open SX
section
variable {s : Sch}
end
end C
end Mn

set_option Elab.async false
set_option linter.all false
set_option maxRecDepth 100000
set_option maxHeartbeats 4000000
set_option autoImplicit false
namespace Mn
open PySem PySem.Spec PyProof.Rows L2
variable [Tbs]
/-! a text some times -/
def repS (z : Str) (k : Nat) : Str := ⟨(List.replicate k z.cps).foldl (· ++ ·) #[]⟩
def aMulS : DR2 := fun x y m Q => ∃ (z : Str) (k : Int), x = .str z ∧ y = .int k ∧ 1 ≤ k ∧ k ≤ 1000 ∧ 1 ≤ z.length ∧ z.length ≤ 1000 ∧ Q (.str (repS z k.toNat)) m
section
variable {X : Cx} {K : KF}
end
end Mn

set_option Elab.async false
set_option linter.all false
set_option maxRecDepth 100000
set_option maxHeartbeats 4000000
set_option autoImplicit false
namespace Mn
open PySem PySem.Spec PyProof.Rows L2 GenW
variable [Tbs]
/-! defs of classes, that may raise, called with any number of arguments -/
def RnX (P : Program) (w : World) (K : PySem.W.Frag) (mg : Str → Option Value) (base : Heap) (k : Nat) (f : Addr) (d : DSpX) : Prop :=
  ∀ (A : Around) (outer : List Env) (s : Shared) (H : Hp) (us : List Value) (vs : List V) (Q : VK) (E : XK), Room k A → Env0 P w K mg base A outer s H → Vals vs us → lfSpX ⟨K, w, Tbs.T⟩ d vs H Q E → codeAny (model P w) A (.call (.ref f) ⟨us, []⟩) (CR (L2.CX P w) outer P w H s Q E) s
/-- what never raises -/
def dNX (t : DTX) : DT := fun r m Q => t r m Q fun _ _ => False
section
variable {P : Program} {w : World} {K : PySem.W.Frag} {mg : Str → Option Value} {base : Heap} {f : Addr} {fd : FuncData} {ps : List Str} {k : Nat} {d d' : DSpX}
theorem env0_in {A : Around} {outer : List Env} {s : Shared} {H : Hp} (e0 : Env0 P w K mg base A outer s H) : K.In s.heap := e0.mod.kin.keeps fun b o e => (e0.bs b o e).1
theorem RnX.mono {j : Nat} (F : RnX P w K mg base j f d) (h : j ≤ k) : RnX P w K mg base k f d := fun A outer s H us vs Q E room => F A outer s H us vs Q E (room.mono h)
theorem RnX.or (F : RnX P w K mg base k f d) (F' : RnX P w K mg base k f d') : RnX P w K mg base k f (fun ds m Q Ed => d ds m Q Ed ∨ d' ds m Q Ed) := fun A outer s H us vs Q E room e0 rv ⟨G, ds, m, Qd, Ed, r1, r2, q, w1, w2⟩ => q.elim (fun q => F A outer s H us vs Q E room e0 rv ⟨G, ds, m, Qd, Ed, r1, r2, q, w1, w2⟩) fun q => F' A outer s H us vs Q E room e0 rv ⟨G, ds, m, Qd, Ed, r1, r2, q, w1, w2⟩
theorem rnx_of (F : FnXF P w K mg base k f fd ps d) (b : Binds K fd ps []) : RnX P w K mg base k f d := fun A outer s H us vs Q E room e0 rv h => by
  have hl : us.length = ps.length := by rw [← rv.length]; exact F.len _ _ _ _ h
  have bz := b s us (env0_in e0) (by rw [List.append_nil]; exact hl)
  rw [List.append_nil] at bz
  exact F.run A outer s H ⟨us, []⟩ us vs Q E room e0 bz rv h
/-- defaults behind the written arguments -/
theorem rnx_dfl {ds0 : List Value} {dvs : List V} {dd : List D} (F : FnXF P w K mg base k f fd ps d) (b : Binds K fd ps ds0) (hv : Vals dvs ds0) (hd : ∀ G, RpL ⟨K, w, Tbs.T⟩ G dd dvs) : RnX P w K mg base k f (fun ds m Q Ed => d (ds ++ dd) m Q Ed) := fun A outer s H us vs Q E room e0 rv ⟨G, ds, m, Qd, Ed, r1, r2, q, w1, w2⟩ => by
  have h : lfSpX ⟨K, w, Tbs.T⟩ d (vs ++ dvs) H Q E := ⟨G, ds ++ dd, m, Qd, Ed, r1.app (hd G), r2, q, w1, w2⟩
  have r3 : Vals (vs ++ dvs) (us ++ ds0) := rv.append hv
  have hl : (us ++ ds0).length = ps.length := by rw [← r3.length]; exact F.len _ _ _ _ h
  exact F.run A outer s H ⟨us, []⟩ (us ++ ds0) (vs ++ dvs) Q E room e0 (b s us (env0_in e0) hl) r3 h
end
section
variable {X : Cx} {e : Expr} {es : List Expr} {tr : DA} {to : DT} {t : DTX} {o : Expr} {pos apos : Pos} {k : Nat}
theorem pd_ofX (h : PDX X e t) : PD X e (dNX t) := peM h fun s H Q ⟨G, r, m, Qd, hs, hr, q, w⟩ => ⟨G, r, m, Qd, _, hs, hr, q, w, fun _ _ _ _ _ _ _ _ _ z => z.elim⟩
/-- a call of a def, from what is known of its run -/
theorem run_RX {pins : List (Addr × Obj)} {σ : L2.St} {H : Hp} {s : Shared} {Q : VK} {us : List Value} {vs : List V} {f : Addr} {d : DSpX} (F : RnX X.prog X.w X.K X.mg X.base k f d) (room : Room k X.A)
    (I : Inv X pins σ H s) (rv : Vals vs us) (h : lfSpX X.kf d vs H Q (WE X.wx σ)) : wpAny (model X.prog X.w) X.A (call (.ref f) us) (EP X pins σ Q) X.xe s := by
  refine wpAny_call (codeAny_mono (F X.A X.stack s H us vs Q (WE X.wx σ) room I.env0 rv h) fun res s' hq => ?_)
  cases res with
  | error e => exact L2.passAt (takes_wx X) σ pins H s e s' I hq
  | ok fl => cases fl with
    | ret u => exact I.after hq
    | next => exact False.elim hq
    | brk => exact False.elim hq
    | cont => exact False.elim hq
/-! a new instance -/
structure ClIX (P : Program) (w : World) (K : PySem.W.Frag) (mg : Str → Option Value) (base : Heap) (c : Str) (k : Nat) (d : DSpX) : Prop where
  ex : ∃ C f, mg c = some (.ref C) ∧ KF.cls ⟨K, w, Tbs.T⟩ c C ∧ InsC K C ∧ Mk K C f ∧ RnX P w K mg base k f d
def lessE (Ed : EK) : EK := fun x m => ∃ m', (∀ a o, m' a = some o → m a = some o) ∧ Ed x m'
theorem WXX.less {K : KF} {G H : Hp} {m : Mu} {Ed : EK} {P : Value → Option Addr → Hp → Prop} (w : WXX K G H m Ed P) : WXX K G H m (lessE Ed) P := fun H' G' m' x cls d st rl rx ⟨m2, le, q⟩ => w H' G' m2 x cls d (st.less le) (rl.less le) rx q
def dMakeX (c : Str) (d : DSpX) (tr : DA) : DTX := fun r m Q Ed => tr r m fun ds m1 => ∀ a dx, m1 a = none → m1 dx = none → dx ≠ a → d (.ref a :: ds) (up (up m1 dx (.own a)) a (.ins c dx [])) (fun v m2 => v = .non ∧ Q (.ref a) m2) (lessE Ed)
theorem pdx_make {c : Str} {d : DSpX} {p : Pos} (CI : ClIX X.prog X.w X.K X.mg X.base c k d) (room : Room (k + 1) X.A) (hg : Gl X c) (ha : PDA X (e :: es) tr)
    (hdb : (c == ("__debug__" : Str)) = false := by decide) (he : starEach (e :: es) X.env = (false, eval e X.env) :: starEach es X.env := by rfl) (hpl : (backTo pos (starEach es X.env)).any (·.1) = false := by rfl) :
    PDX X (.Call (.Name c p) (e :: es) [] pos) (dMakeX c d tr) := by
  obtain ⟨C, f, hm, hC, ic, M, F⟩ := CI.ex
  refine ⟨fun pins s σ H Q I ⟨G, ro, m, Qd, Ed, hs, hr, q, w, wx⟩ => ?_⟩
  have h1 : lfA X.kf tr σ H fun vs H1 => ∃ G1 m1 ds, Stp G H m G1 H1 m1 ∧ Rl X.kf G1 H1 m1 ∧ RpL X.kf G1 ds vs ∧ ∀ a dx, m1 a = none → m1 dx = none → dx ≠ a → d (.ref a :: ds) (up (up m1 dx (.own a)) a (.ins c dx [])) (fun v m2 => v = .non ∧ Qd (.ref a) m2) (lessE Ed) :=
    ⟨G, ro, m, _, hs, hr, q, fun vs H1 G1 m1 ds s1 r1 h1 q1 => ⟨G1, m1, ds, s1, r1, h1, q1⟩⟩
  refine wpAny_Call_Name_kw (ld_glob I hg hm ?_ hdb)
  refine PySem.W.callWith_K (h₀ := X.base) I.ok.mod.kin M.kp (thn (PA.run ha pos pins s σ H _ I h1) fun us s1 ⟨vs, H1, I1, rv, G1, m1, ds, st, rl, rd, q1⟩ => ⟨I1.kIn, ?_⟩) he hpl
  have na := I1.hok.fresh (Nat.le_succ s1.heap.objs.size)
  have nd := I1.hok.fresh (Nat.le_refl s1.heap.objs.size)
  have ne : s1.heap.objs.size ≠ s1.heap.objs.size + 1 := Nat.ne_of_lt (Nat.lt_succ_self _)
  obtain ⟨r2, s2⟩ := rl.made hC ic na nd ne
  have I2 := Inv.made (C := C) I1
  have sp : lfSpX X.kf d (.ref (s1.heap.objs.size + 1) :: vs) (upd (upd H1 s1.heap.objs.size (.own (s1.heap.objs.size + 1))) (s1.heap.objs.size + 1) (.ins C s1.heap.objs.size [])) (fun v H2 => v = .non ∧ Q (.ref (s1.heap.objs.size + 1)) H2) (WE X.wx σ) :=
    ⟨G1, _, _, _, _, .cons (.ref _) rd, r2, q1 _ _ (rl.free na).2 (rl.free nd).2 ne, fun v H' G' m' d' s' r' h' ⟨e1, q'⟩ => by
      subst e1
      cases h'
      exact ⟨rfl, w _ _ _ _ _ ((st.trans s2).trans s') r' (.ref _) q'⟩, ((wx.after st).after s2).less⟩
  have r3 : Vals (V.ref (s1.heap.objs.size + 1) :: vs) (Value.ref (s1.heap.objs.size + 1) :: us) := .cons rfl rv
  refine wpAny_call (make_map (f := f) I1.kIn M.makes M.init (beq_iff_eq.mp M.fn) (codeAny_mono (F _ X.stack _ _ (Value.ref (s1.heap.objs.size + 1) :: us) _ _ (WE X.wx σ) (room.make C us []) (I2.env0.make C us []) r3 sp) fun res s' hq => ?_))
  cases res with
  | error e => exact L2.passAt (takes_wx X) σ pins _ _ e s' I2 hq
  | ok fl => cases fl with
    | ret u =>
      obtain ⟨v, H', I3, rv', ev, q3⟩ := I2.after hq
      subst ev
      exact ⟨rv', ⟨V.ref (s1.heap.objs.size + 1), H', I3, rfl, q3⟩⟩
    | next => exact False.elim hq
    | brk => exact False.elim hq
    | cont => exact False.elim hq
/-! the call of a method -/
structure ClMX (P : Program) (w : World) (K : PySem.W.Frag) (mg : Str → Option Value) (base : Heap) (c x : Str) (k : Nat) (d : DSpX) : Prop where
  ex : ∃ C f, KF.cls ⟨K, w, Tbs.T⟩ c C ∧ Meth K C x f ∧ RnX P w K mg base k f d
def dMethX (tab : List (Str × DSpX)) (x : Str) (to : DT) (tr : DA) : DTX := fun r m Q Ed => to r m fun o m1 => ∃ a c dx fs d, o = .ref a ∧ m1 a = some (.ins c dx fs) ∧ (c, d) ∈ tab ∧ fs.lookup x = none ∧ tr r m1 fun ds m2 => d (o :: ds) m2 Q Ed
theorem pdx_meth {tab : List (Str × DSpX)} {x : Str} {pl : Sem Bool} (ho : PD X o to) (hM : ∀ cd ∈ tab, ClMX X.prog X.w X.K X.mg X.base cd.1 x k cd.2) (room : Room k X.A) (ha : PDA X (e :: es) tr)
    (hst : starEach (e :: es) X.env = (false, eval e X.env) :: starEach es X.env := by rfl) (hpl : (backTo pos (starEach es X.env)).any (·.1) = false := by rfl)
    (ht : eval (.Call (.Attribute o x apos) (e :: es) [] pos) X.env = (do
      let y ← eval o X.env
      standAt apos.atName
      let (g, first) ← holding [y] (getMethod y x pl)
      callWith pos g first (backTo pos (starEach (e :: es) X.env)) (backToKw pos (keywordEach [] X.env))) := by rfl) :
    PDX X (.Call (.Attribute o x apos) (e :: es) [] pos) (dMethX tab x to tr) := by
  refine ⟨fun pins s σ H Q I ⟨G, ro, m, Qd, Ed, hs, hr, q, w, wx⟩ => ?_⟩
  have h1 : lf X.kf to σ H fun y H1 => ∃ G1 m1 d1, Stp G H m G1 H1 m1 ∧ Rl X.kf G1 H1 m1 ∧ Rp X.kf G1 d1 y ∧ ∃ a c dx fs d, d1 = .ref a ∧ m1 a = some (.ins c dx fs) ∧ (c, d) ∈ tab ∧ fs.lookup x = none ∧ tr ro m1 fun ds m2 => d (d1 :: ds) m2 Qd Ed :=
    ⟨G, ro, m, _, hs, hr, q, fun v H1 G1 m1 d s1 r1 h1 q1 => ⟨G1, m1, d, s1, r1, h1, q1⟩⟩
  refine PySem.W.methodCall_KW (pl := pl) (thn (PE.run ho pins s σ H _ I h1) fun u s1 ⟨y, H1, I1, ry, G1, m1, d1, st, rl, rd, a, c, dx, fs, d, e1, em, ht, hl, q1⟩ => ?_) ht
  subst e1
  cases rd
  obtain rfl : u = Value.ref a := ry
  obtain ⟨_, u, hu, C, vs, hC, ic, eu, rv⟩ := rl.mu a _ em
  subst eu
  obtain ⟨C', f, hC', me, F⟩ := (hM _ ht).ex
  obtain rfl := cls_one hC hC'
  refine getmeth_ok I1 hu ic.cl me (look_zip_none rv hl) ?_
  have h2 : lfA X.kf tr σ H1 fun vs H2 => lfSpX X.kf d (.ref a :: vs) H2 Q (WE X.wx σ) := ⟨G1, ro, m1, _, hs.same st.g, rl, q1, fun vs H2 G2 m2 ds s2 r2 h2 q2 => ⟨G2, .ref a :: ds, m2, Qd, Ed, .cons (.ref a) h2, r2, q2, (w.after st).after s2, (wx.after st).after s2⟩⟩
  exact PySem.W.callWith_K (first := [.ref a]) (h₀ := X.base) I.ok.mod.kin me.kp (thn (PA.run ha pos pins s1 σ H1 _ I1 h2) fun us s2 ⟨vs, H2, I2, r, q2⟩ => ⟨I2.kIn, run_RX (us := .ref a :: us) (vs := .ref a :: vs) F room I2 (.cons rfl r) q2⟩) hst hpl
end
end Mn

set_option Elab.async false
set_option linter.all false
set_option maxRecDepth 100000
set_option maxHeartbeats 4000000
set_option autoImplicit false
namespace Mn
open PySem PySem.Spec PyProof.Rows L2 GenW
variable [Tbs]
/-! defs with a rest parameter -/
theorem RpL.split {K : KF} {G : Hp} : ∀ {ds es : List D} {vs : List V}, RpL K G (ds ++ es) vs → ∃ v1 v2, vs = v1 ++ v2 ∧ RpL K G ds v1 ∧ RpL K G es v2
  | [], es, vs, h => ⟨[], vs, rfl, .nil, h⟩
  | d :: ds, es, _, .cons h r => by
    obtain ⟨v1, v2, rfl, h1, h2⟩ := RpL.split (ds := ds) r
    exact ⟨_ :: v1, v2, rfl, .cons h h1, h2⟩
section
variable {P : Program} {w : World} {K : PySem.W.Frag} {mg : Str → Option Value} {base : Heap} {f : Addr} {fd : FuncData} {k : Nat}
end
section
variable {X : Cx} {o : Expr} {to : DT} {pos apos : Pos} {k : Nat}
/-- o.x() -/
def dMeth0X (tab : List (Str × DSpX)) (x : Str) (to : DT) : DTX := fun r m Q Ed => to r m fun o m1 => ∃ a c dx fs d, o = .ref a ∧ m1 a = some (.ins c dx fs) ∧ (c, d) ∈ tab ∧ fs.lookup x = none ∧ d [o] m1 Q Ed
/-! properties, read -/
structure ClPX (P : Program) (w : World) (K : PySem.W.Frag) (mg : Str → Option Value) (base : Heap) (c x : Str) (k : Nat) (d : DSpX) : Prop where
  ex : ∃ C p g, KF.cls ⟨K, w, Tbs.T⟩ c C ∧ PropOf K C x p g ∧ RnX P w K mg base k g d
end
end Mn

set_option Elab.async false
set_option linter.all false
set_option maxRecDepth 100000
set_option maxHeartbeats 4000000
set_option autoImplicit false
namespace Mn
open PySem PySem.Spec PyProof.Rows L2
variable [Tbs]
/-! classes whose defs may raise, as the top leaves them -/
section
variable {P : Program} {w : World} {K : PySem.W.Frag} {mg : Str → Option Value} {base : Heap} {fa : List He.Fa} {fn : List He.DefD}
theorem funM_of (cc : He.SaysD fa fn K) {c x : Str} {st : Stmt} (i : Nat) (hi : fn[i]? = some (ddM c x st) := by rfl) : ∃ fd, Fun K x (c ++ "." ++ x) st (He.ma K (He.ga K c) x) fd := by
  obtain ⟨fd, F⟩ := cc.def_ i hi
  exact ⟨fd, fun_of_FunD F⟩
theorem funMD_of (cc : He.SaysD fa fn K) {c x : Str} {st : Stmt} {dfl : List He.Dv} (i : Nat) (hi : fn[i]? = some (ddMD c x st dfl) := by rfl) : ∃ fd, FunD K x (c ++ "." ++ x) (defArgs st) (defBody st) (defScope st) (dfl.map (He.Dv.v K)) [] (He.ma K (He.ga K c) x) fd := cc.def_ i hi
/-- THE RULE for a def of a class -/
theorem fnMXD {x qual : Str} {st : Stmt} {f : Addr} {fd : FuncData} {dvs : List V} {N ps : List Str} {k : Nat} {t : DS} {d : DSpX} (F : FunD K x qual (defArgs st) (defBody st) (defScope st) dvs [] f fd) (S : FnScope N ps (defScope st)) (hl : ∀ ds m Q Ed, d ds m Q Ed → ds.length = ps.length) (hb : BodyX N.length t d)
    (der : ∀ (f : Addr) (cdv : Value) (A : Around) (outer : List Env) (s : Shared) (H : Hp) (E : XK), Room k (A.deeper (envOfC qual (defScope st) s.heap.objs.size f cdv)) → PDSs (cxOf (L2.CX P w) P w K mg base N qual (defScope st) f cdv A outer s H E) (defBody st) t) :
    FnXF P w K mg base (k + 1) f fd ps d := by
  obtain ⟨oc, od, dV, kV, doc, pm, an, cdv, ct, osl, rfl, lk, hcd, _, _⟩ := F.ex
  refine gn_ofF lk hcd S (fun vs H Q E ⟨G, ds, m, Qd, Ed, rp, rl, q, w, _⟩ => by rw [← rp.len]; exact hl _ _ _ _ q) fun A outer s H vs Q E room h => ?_
  exact ⟨_, der f cdv A outer s H E room, lfS_startX hb (fun cls dd σ H' he => wx_of (L2.takes_of rfl rfl rfl rfl) he) h⟩
/-- a def of a class without defaults, called with all its arguments -/
theorem rnxM {x qual : Str} {st : Stmt} {f : Addr} {fd : FuncData} {N ps : List Str} {k : Nat} {t : DS} {d : DSpX} (F : Fun K x qual st f fd)
    (hbd : ∀ (kV doc pm : Value) (an : Option Addr) (cdv ct : Value) (us : List Value), us.length = ps.length → bindArgs (PySem.W.fnOf x qual (defArgs st) (defBody st) (defScope st) .none kV doc pm an cdv ct) ⟨us, []⟩ = pure (ps.zip us))
    (S : FnScope N ps (defScope st)) (hl : ∀ ds m Q Ed, d ds m Q Ed → ds.length = ps.length) (hb : BodyX N.length t d)
    (der : ∀ (f : Addr) (cdv : Value) (A : Around) (outer : List Env) (s : Shared) (H : Hp) (E : XK), Room k (A.deeper (envOfC qual (defScope st) s.heap.objs.size f cdv)) → PDSs (cxOf (L2.CX P w) P w K mg base N qual (defScope st) f cdv A outer s H E) (defBody st) t) :
    RnX P w K mg base (k + 1) f d := by
  obtain ⟨oc, od, kV, doc, pm, an, cdv, ct, osl, e, lk, hcd⟩ := F.ex
  have F' : FunD K x qual (defArgs st) (defBody st) (defScope st) [] [] f fd := ⟨⟨oc, od, .none, kV, doc, pm, an, cdv, ct, osl, e, lk, hcd, .inl ⟨rfl, rfl⟩, .inl rfl⟩, F.kp⟩
  exact rnx_of (fnMXD F' S hl hb der) (FunD.bindsN F' hbd)
theorem clMX_of {c x : Str} {k : Nat} {d : DSpX} (g : (He.Fa.glo c).ok K = true) (me : (He.Fa.meth c x).ok K = true) (R : RnX P w K mg base k (He.ma K (He.ga K c) x) d) : ClMX P w K mg base c x k d :=
  ⟨_, _, cls_of g, He.meth_ok me, R⟩
theorem clIX_of {h : Heap} {c : Str} {k : Nat} {d : DSpX} (X : K.In h) (G : h.Ns mainGlobals mg) (g : (He.Fa.glo c).ok K = true) (cl : (He.Fa.cls c).ok K = true) (mk : (He.Fa.mkr c).ok K = true) (ib : insB K (He.ga K c) = true)
    (R : RnX P w K mg base k (He.ma K (He.ga K c) "__init__") d) : ClIX P w K mg base c k d :=
  ⟨_, _, He.glo_ok X G g, cls_of g, insB_ok (He.cls_ok cl) ib, He.mkr_ok mk, R⟩
end
section
variable {P : Program} {w : World} {K : PySem.W.Frag} {mg : Str → Option Value} {base : Heap}
/-- a def with one default, None: called without it, or with it -/
theorem rnxD {x qual : Str} {st : Stmt} {f : Addr} {fd : FuncData} {N ps : List Str} {k : Nat} {t : DS} {d : DSpX} (F : FunD K x qual (defArgs st) (defBody st) (defScope st) [V.non] [] f fd)
    (h1 : ∀ (T : Addr) (kV doc pm : Value) (an : Option Addr) (cdv ct : Value) (us : List Value) (it : Value), us.length + 1 = ps.length → ∃ kk, bindArgs (PySem.W.fnOf x qual (defArgs st) (defBody st) (defScope st) (.ref T) kV doc pm an cdv ct) ⟨us, []⟩ = seqItems? (.ref T) >>= kk ∧ kk (some #[it]) = pure (ps.zip (us ++ [it])))
    (h2 : ∀ (T : Addr) (kV doc pm : Value) (an : Option Addr) (cdv ct : Value) (us : List Value) (it : Value), us.length = ps.length → ∃ kk, bindArgs (PySem.W.fnOf x qual (defArgs st) (defBody st) (defScope st) (.ref T) kV doc pm an cdv ct) ⟨us, []⟩ = seqItems? (.ref T) >>= kk ∧ kk (some #[it]) = pure (ps.zip us))
    (S : FnScope N ps (defScope st)) (hl : ∀ ds m Q Ed, d ds m Q Ed → ds.length = ps.length) (hb : BodyX N.length t d) (hp : 1 ≤ ps.length)
    (der : ∀ (f : Addr) (cdv : Value) (A : Around) (outer : List Env) (s : Shared) (H : Hp) (E : XK), Room k (A.deeper (envOfC qual (defScope st) s.heap.objs.size f cdv)) → PDSs (cxOf (L2.CX P w) P w K mg base N qual (defScope st) f cdv A outer s H E) (defBody st) t) :
    RnX P w K mg base (k + 1) f (fun ds m Q Ed => d (ds ++ [.non]) m Q Ed ∨ d ds m Q Ed) := by
  have FX := fnMXD F S hl hb der
  have one : ∀ {its : List Value}, its.length = 1 → ∃ it, its = [it] := fun {its} h => by
    match its, h with
    | [it], _ => exact ⟨it, rfl⟩
  obtain ⟨d1, v1, b1⟩ := FunD.binds1 (ps := ps) F (ps.length - 1) 0 (by simp) (by simp; omega) fun T kV doc pm an cdv ct us its hu hi => by
    obtain ⟨it, rfl⟩ := one hi
    obtain ⟨kk, e1, e2⟩ := h1 T kV doc pm an cdv ct us it (by omega)
    exact ⟨kk, e1, e2⟩
  obtain ⟨d2, v2, b2⟩ := FunD.binds1 (ps := ps) F ps.length 1 (by simp) (by simp) fun T kV doc pm an cdv ct us its hu hi => by
    obtain ⟨it, rfl⟩ := one hi
    obtain ⟨kk, e1, e2⟩ := h2 T kV doc pm an cdv ct us it hu
    exact ⟨kk, e1, by rw [e2]; simp⟩
  cases v2
  exact (rnx_dfl (dvs := [V.non]) (dd := [D.non]) FX b1 v1 fun G => .cons .non .nil).or (rnx_of FX b2)
end
/-- what a def with a rest parameter behind n others tells -/
def starX (n : Nat) (d : DSpX) : DSpX := fun ds m Q Ed => ∃ ws rest, ds = ws ++ rest ∧ ws.length = n ∧ rest.length ≤ sizeLine ∧ d (ws ++ [.tup rest]) m Q Ed
/-- .. with defaults -/
def dflX (dd : List D) (d : DSpX) : DSpX := fun ds m Q Ed => d (ds ++ dd) m Q Ed ∨ d ds m Q Ed
end Mn

set_option Elab.async false
set_option linter.all false
set_option maxRecDepth 100000
set_option maxHeartbeats 4000000
set_option autoImplicit false
namespace Mn
open PySem PySem.Spec PyProof.Rows L2
variable [Tbs]
/-! a tuple no times -/
section
variable {X : Cx} {K : KF}
end
end Mn

set_option linter.all false
set_option maxHeartbeats 4000000
set_option autoImplicit false
set_option maxRecDepth 100000
namespace Mn
open PySem L2
variable [Tbs]
local macro_rules | `(tactic| walk_at "d") => `(tactic| (try simp only [dIsE, dCountB, dAppendX, dNewE, xSetX, xRetX, xDropX, dCX, xRaise, xTryRet, dTupLcX, xStR, xStL, dSplit, dJoin, sStr, dLam, aStr, gTL, dLcR, aMulS, dMakeX, dMethX, dMeth0X, dNX, starX, dflX, xFld, fldPut, xNext, xSeq, xAsg, xRet, xRetF, xDrop, xIf, xPar, xPar3, xMatch, mGo, xFrz, xPut, xAug, xFor, dVar, dC, dOp, dTest, dChain, dAndV, dOrV, dNotV, dAnd, dOr, dNot, dIf, dNil, dCons, dTup, dLst, dLstM, dCB, dIsi, dLc, dLcM, dYes, wipeD, dSlice, oSome, oNone, aSl_tup, aSl_lst, dNeg, dStar, dNewD, dTupVals, dSortSet, dSortSetI, dDictZ, sKeys, dFld, dMeth, dCallO, dGetC, dNewC, dDc, dStep, dIndexTD, dCountL, dCountS, dExtend, dAppend, dFrz, dLc2, dCountT, dIndexT, sqf_tup, sqf_lst, sqf_pair, sSeq, sSeq_tup, sSeq_lst, sRg1, sRg2, sZip2, sZip3, sZip4, sEnum, gV, gN, gC, gT, tupOf_tup, tupOf_pair, aAdd_int, aAdd_tup, aAdd_lst, aSub_int, aMul_int, aDiv_int, aMod_int, aPow_int, aCmp_int, aIx_tup, aIx_lst, aIx_scr, aIx_pair, aMax_int, aMin_int, aInt_bl, aInt_int, aLen_tup, aLen_lst, aLen_scr, aLen_pair, aTuple_lst, aTuple_tup, aIsB_bl, aNotB_bl, aEq_int, aNe_int, startD, List.map_cons, List.map_nil, List.length_cons, List.length_nil, List.cons_append, List.nil_append, List.replicate_zero, List.replicate_succ, List.append_nil, List.getElem?_cons_zero, List.getElem?_cons_succ, List.set_cons_zero, List.set_cons_succ, Option.some.injEq, exists_eq_left', exists_eq_left, exists_eq', D.int.injEq, D.bl.injEq, D.tup.injEq, D.lst.injEq, D.pair.injEq, D.ref.injEq, List.cons.injEq, Nat.sub_self, Nat.zero_add, Nat.add_sub_cancel, seqI_tup, seqI_lst, seqOf_tup, seqOf_lst, tyN_tup, tyN_lst, tyN_int, tyN_bl, tyN_str, tyN_non, isi_tt, at_0, at_1, at_2, at_3, Option.map_some, true_and, and_true, if_true, Bool.false_eq_true, if_false, Bool.not_true, Bool.not_false, ↓reduceIte, Nat.reduceAdd, Nat.reduceSub, exists_and_left, and_assoc]))
namespace C
open SX
/-! stores and cubes that are made of what is right -/
end C
end Mn

set_option linter.all false
set_option maxHeartbeats 4000000
set_option autoImplicit false
set_option maxRecDepth 100000
namespace Mn
open PySem L2
variable [Tbs]
local macro_rules | `(tactic| walk_at "d") => `(tactic| (try simp only [dIsE, dCountB, dAppendX, dNewE, xSetX, xRetX, xDropX, dCX, xRaise, xTryRet, dTupLcX, xStR, xStL, dSplit, dJoin, sStr, dLam, aStr, gTL, dLcR, aMulS, dMakeX, dMethX, dMeth0X, dNX, starX, dflX, xFld, fldPut, xNext, xSeq, xAsg, xRet, xRetF, xDrop, xIf, xPar, xPar3, xMatch, mGo, xFrz, xPut, xAug, xFor, dVar, dC, dOp, dTest, dChain, dAndV, dOrV, dNotV, dAnd, dOr, dNot, dIf, dNil, dCons, dTup, dLst, dLstM, dCB, dIsi, dLc, dLcM, dYes, wipeD, dSlice, oSome, oNone, aSl_tup, aSl_lst, dNeg, dStar, dNewD, dTupVals, dSortSet, dSortSetI, dDictZ, sKeys, dFld, dMeth, dCallO, dGetC, dNewC, dDc, dStep, dIndexTD, dCountL, dCountS, dExtend, dAppend, dFrz, dLc2, dCountT, dIndexT, sqf_tup, sqf_lst, sqf_pair, sSeq, sSeq_tup, sSeq_lst, sRg1, sRg2, sZip2, sZip3, sZip4, sEnum, gV, gN, gC, gT, tupOf_tup, tupOf_pair, aAdd_int, aAdd_tup, aAdd_lst, aSub_int, aMul_int, aDiv_int, aMod_int, aPow_int, aCmp_int, aIx_tup, aIx_lst, aIx_scr, aIx_pair, aMax_int, aMin_int, aInt_bl, aInt_int, aLen_tup, aLen_lst, aLen_scr, aLen_pair, aTuple_lst, aTuple_tup, aIsB_bl, aNotB_bl, aEq_int, aNe_int, startD, List.map_cons, List.map_nil, List.length_cons, List.length_nil, List.cons_append, List.nil_append, List.replicate_zero, List.replicate_succ, List.append_nil, List.getElem?_cons_zero, List.getElem?_cons_succ, List.set_cons_zero, List.set_cons_succ, Option.some.injEq, exists_eq_left', exists_eq_left, exists_eq', D.int.injEq, D.bl.injEq, D.tup.injEq, D.lst.injEq, D.pair.injEq, D.ref.injEq, List.cons.injEq, Nat.sub_self, Nat.zero_add, Nat.add_sub_cancel, seqI_tup, seqI_lst, seqOf_tup, seqOf_lst, tyN_tup, tyN_lst, tyN_int, tyN_bl, tyN_str, tyN_non, isi_tt, at_0, at_1, at_2, at_3, Option.map_some, true_and, and_true, if_true, Bool.false_eq_true, if_false, Bool.not_true, Bool.not_false, ↓reduceIte, Nat.reduceAdd, Nat.reduceSub, exists_and_left, and_assoc]))
namespace C
open SX
/-! what report_text says of what is no report -/
def s_law_fine_cells : DSp := fun ds m Q => ∃ s : Sch, ds = [encS s] ∧ SchV s ∧ Q (.lst ((cellsN (s.map At.n)).map tD)) m
theorem l_law_fine_cells : ∀ ds m Q, s_law_fine_cells ds m Q → ds.length = 1 := by rintro ds m Q ⟨s, rfl, _⟩; rfl
def t_law_fine_cells : DS := (xRet (dCB s_law_below (dCons (dLc (sSeq (dVar 0)) [1] (gV 1) dYes (dOp aIx (dVar 1) (dC (.int 0)))) dNil)))
theorem v_law_fine_cells : Body 2 t_law_fine_cells s_law_fine_cells := by
  rintro ds m Q ⟨s, rfl, hs, q⟩
  have h3 := hs.2.1
  have e0 : encS s = .tup (s.map At.enc) := rfl
  unfold t_law_fine_cells
  walk_at "d"
  refine ⟨_, Or.inr e0, small (k := 1000) (by rw [List.length_map]; omega), ?_⟩
  refine lcGo_maps (enc := At.enc) (fun a : At => nD a.n) s [] _ (fun a ha K hK => ?_) ?_
  · unfold At.enc
    walk_at "d"
    exact hK
  · rw [List.nil_append]
    refine ⟨s.map At.n, by rw [List.map_map]; rfl, by rw [List.length_map]; exact h3, fun k hk => ?_, end_rt q⟩
    obtain ⟨a, ha, rfl⟩ := List.mem_map.mp hk
    exact (hs.2.2.1 a ha).2.1
theorem rep_tD' (k : Nat) : (List.replicate k [D.int 0]).flatten = List.replicate k (nD 0) := by
  induction k with
  | zero => rfl
  | succ k ih => rw [List.replicate_succ, List.flatten_cons, ih, List.replicate_succ]; rfl
theorem kn_lst {m : Mu} {ds : List D} (h : ∀ d ∈ ds, Kn m d) : Kn m (.lst ds) := by
  have e1 : refs (.lst ds) = refsL ds := by rw [refs]
  have e2 : refs (.tup ds) = refsL ds := by rw [refs]
  intro x hx
  rw [e1, ← e2] at hx
  exact kn_tup h x hx
end C
end Mn

set_option linter.all false
set_option maxHeartbeats 4000000
set_option autoImplicit false
set_option maxRecDepth 100000
namespace Mn
open PySem L2
variable [Tbs]
local macro_rules | `(tactic| walk_at "d") => `(tactic| (try simp only [dIsE, dCountB, dAppendX, dNewE, xSetX, xRetX, xDropX, dCX, xRaise, xTryRet, dTupLcX, xStR, xStL, dSplit, dJoin, sStr, dLam, aStr, gTL, dLcR, aMulS, dMakeX, dMethX, dMeth0X, dNX, starX, dflX, xFld, fldPut, xNext, xSeq, xAsg, xRet, xRetF, xDrop, xIf, xPar, xPar3, xMatch, mGo, xFrz, xPut, xAug, xFor, dVar, dC, dOp, dTest, dChain, dAndV, dOrV, dNotV, dAnd, dOr, dNot, dIf, dNil, dCons, dTup, dLst, dLstM, dCB, dIsi, dLc, dLcM, dYes, wipeD, dSlice, oSome, oNone, aSl_tup, aSl_lst, dNeg, dStar, dNewD, dTupVals, dSortSet, dSortSetI, dDictZ, sKeys, dFld, dMeth, dCallO, dGetC, dNewC, dDc, dStep, dIndexTD, dCountL, dCountS, dExtend, dAppend, dFrz, dLc2, dCountT, dIndexT, sqf_tup, sqf_lst, sqf_pair, sSeq, sSeq_tup, sSeq_lst, sRg1, sRg2, sZip2, sZip3, sZip4, sEnum, gV, gN, gC, gT, tupOf_tup, tupOf_pair, aAdd_int, aAdd_tup, aAdd_lst, aSub_int, aMul_int, aDiv_int, aMod_int, aPow_int, aCmp_int, aIx_tup, aIx_lst, aIx_scr, aIx_pair, aMax_int, aMin_int, aInt_bl, aInt_int, aLen_tup, aLen_lst, aLen_scr, aLen_pair, aTuple_lst, aTuple_tup, aIsB_bl, aNotB_bl, aEq_int, aNe_int, startD, List.map_cons, List.map_nil, List.length_cons, List.length_nil, List.cons_append, List.nil_append, List.replicate_zero, List.replicate_succ, List.append_nil, List.getElem?_cons_zero, List.getElem?_cons_succ, List.set_cons_zero, List.set_cons_succ, Option.some.injEq, exists_eq_left', exists_eq_left, exists_eq', D.int.injEq, D.bl.injEq, D.tup.injEq, D.lst.injEq, D.pair.injEq, D.ref.injEq, List.cons.injEq, Nat.sub_self, Nat.zero_add, Nat.add_sub_cancel, seqI_tup, seqI_lst, seqOf_tup, seqOf_lst, tyN_tup, tyN_lst, tyN_int, tyN_bl, tyN_str, tyN_non, isi_tt, at_0, at_1, at_2, at_3, Option.map_some, true_and, and_true, if_true, Bool.false_eq_true, if_false, Bool.not_true, Bool.not_false, ↓reduceIte, Nat.reduceAdd, Nat.reduceSub, exists_and_left, and_assoc]))
namespace C
open SX
theorem kn_t1 {m : Mu} {x : D} (h : Kn m x) : Kn m (.tup [x]) := kn_tup fun d hd => by rw [List.mem_singleton.mp hd]; exact h
end C
end Mn

set_option Elab.async false
set_option linter.all false
set_option maxRecDepth 100000
set_option maxHeartbeats 4000000
set_option autoImplicit false
namespace Mn
open PySem PySem.Spec PyProof.Rows L2 GenW
variable [Tbs]
/-! len, repr of an instance; an instance called; defs that may raise allowed where they do not -/
def noE : XK := fun _ _ _ => False
section
variable {X : Cx} {e : Expr} {es : List Expr} {te to : DT} {tr : DA} {o : Expr} {pos p : Pos} {k : Nat}
theorem own_run {pins : List (Addr × Obj)} {σ : L2.St} {H : Hp} {s : Shared} {Q : VK} {us : List Value} {vs : List V} {f : Addr} {d : DSpX} {R E : Value → Shared → Prop} (F : RnX X.prog X.w X.K X.mg X.base k f d) (room : Room (k + 1) X.A)
    (I : Inv X pins σ H s) (rv : Vals vs us) (h : lfSpX X.kf d vs H Q noE) (hR : ∀ v u H' s', Inv X pins σ H' s' → RelV v u → Q v H' → R u s') : wpAny (model X.prog X.w) X.A.in1 (call (.ref f) us) R E s := by
  refine wpAny_call (codeAny_mono (F X.A.in1 X.stack s H us vs Q noE room.in1 I.env0.in1 rv h) fun r s' hq => ?_)
  cases r with
  | error er => obtain ⟨a, B, H', cls, d, _, _, _, _, _, _, _, z⟩ := hq; exact z.elim
  | ok fl =>
    cases fl with
    | ret u =>
      obtain ⟨v, H', I3, rv, q3⟩ := I.after hq
      exact hR v u H' s' I3 rv q3
    | next => exact False.elim hq
    | brk => exact False.elim hq
    | cont => exact False.elim hq
/-- the run of a special def at one instance -/
def rOwn (X : Cx) (k : Nat) (x : Str) (B : V → Prop) : List V → Hp → VK → Prop := fun xs H Q => ∃ a C dx fs f d, xs = [.ref a] ∧ H a = some (.ins C dx fs) ∧ Meth X.K C x f ∧ RnX X.prog X.w X.K X.mg X.base k f d ∧ lfSpX X.kf d [.ref a] H (fun v H1 => B v ∧ Q v H1) noE
def isStrV : V → Prop := fun v => ∃ x : Str, v = .str x
theorem call_reprO (room : Room (k + 1) X.A) : CallR X (.builtin "repr") (rOwn X k "__repr__" isStrV) := by
  intro pins s σ H xs us Q I r ⟨a, C, dx, fs, f, d, e1, hu, me, F, sp⟩
  subst e1
  have rr := r
  cases r with
  | cons r0 r1 =>
    cases r1
    cases r0
    obtain ⟨mA, O, _, _, _, _⟩ := ins_get I.hok hu
    obtain ⟨od, J, _⟩ := O.look
    obtain ⟨mf, Ff⟩ := I.fr
    refine PySem.W.repr_K (Nat.lt_of_le_of_lt (Nat.le_add_right _ 64) room.in1.units) Ff I.ok.mod.kin J me.at_ me.fn (own_run F room I rr sp fun v u H' s' I' rv ⟨⟨x, e⟩, q⟩ => ?_)
    subst e
    obtain ⟨t, rfl⟩ := rv
    exact ⟨.str x, H', I', ⟨_, rfl⟩, q⟩
/-- B: what a builtin wants of the def's answer -/
def dSpO (B : D → Prop) (tab : List (Str × DSpX)) (to : DT) : DT := fun r m Q => to r m fun o m1 => ∃ a c dx fs d, o = .ref a ∧ m1 a = some (.ins c dx fs) ∧ (c, d) ∈ tab ∧ d [o] m1 (fun v m2 => B v ∧ Q v m2) fun _ _ => False
def ansStr : D → Prop := fun v => ∃ x : Str, v = .str x
def dReprO := dSpO ansStr
theorem spO_run {x : Str} {B : V → Prop} {BD : D → Prop} {tab : List (Str × DSpX)} (hB : ∀ {G : Hp} {d : D} {v : V}, Rp X.kf G d v → BD d → B v) (hM : ∀ cd ∈ tab, ClMX X.prog X.w X.K X.mg X.base cd.1 x k cd.2) {G H : Hp} {m : Mu} {o : D} {v : V} {Qd : DK} {Q : VK}
    (rl : Rl X.kf G H m) (rd : Rp X.kf G o v) (q : ∃ a c dx fs d, o = .ref a ∧ m a = some (.ins c dx fs) ∧ (c, d) ∈ tab ∧ d [o] m (fun v m2 => BD v ∧ Qd v m2) fun _ _ => False) (w : WV X.kf G H m Qd Q) : rOwn X k x B [v] H Q := by
  obtain ⟨a, c, dx, fs, d, e1, em, ht, q1⟩ := q
  subst e1
  cases rd
  obtain ⟨_, u, hu, C, vs, hC, ic, eu, rv⟩ := rl.mu a _ em
  subst eu
  obtain ⟨C', f, hC', me, F⟩ := (hM _ ht).ex
  obtain rfl := cls_one hC hC'
  exact ⟨a, _, _, _, f, d, rfl, hu, me, F, G, [.ref a], m, _, _, .cons (.ref a) .nil, rl, q1, fun v' H' G' m' d' st rl' rp ⟨hb, q'⟩ => ⟨hB rp hb, w _ _ _ _ _ st rl' rp q'⟩, fun _ _ _ _ _ _ _ _ _ z => z.elim⟩
theorem pd_reprO {x : Str} {tab : List (Str × DSpX)} (he : PD X e te) (hM : ∀ cd ∈ tab, ClMX X.prog X.w X.K X.mg X.base cd.1 "__repr__" k cd.2) (room : Room (k + 1) X.A) (hg : Gl X x) (hm : X.mg x = none) (hv : bootBuiltins x = some (.builtin "repr"))
    (hn : x ≠ "__name__" := by decide) (hdb : (x == ("__debug__" : Str)) = false := by decide) (hs : starEach [e] X.env = (false, eval e X.env) :: starEach [] X.env := by rfl) :
    PD X (.Call (.Name x p) [e] [] pos) (dReprO tab te) := by
  refine peM (pe_callB (call_reprO room) hg hm hv (pa_cons he pa_nil hs) hn hdb hs) fun s H Q ⟨G, ro, m, Qd, hs, hr, q, w⟩ => ?_
  refine ⟨G, ro, m, _, hs, hr, q, fun v H1 G1 m1 d s1 r1 h1 q1 => ?_⟩
  exact spO_run (fun rp ⟨x, e⟩ => by subst e; cases rp; exact ⟨x, rfl⟩) hM r1 h1 q1 (w.after s1)
/-! an instance called -/
structure ClOX (P : Program) (w : World) (K : PySem.W.Frag) (mg : Str → Option Value) (base : Heap) (c : Str) (k : Nat) (d : DSpX) : Prop where
  ex : ∃ C f, KF.cls ⟨K, w, Tbs.T⟩ c C ∧ StX.CallO K C f ∧ RnX P w K mg base k f d
def dCallX (tab : List (Str × DSpX)) (to : DT) (tr : DA) : DTX := fun r m Q Ed => to r m fun o m1 => ∃ a, o = .ref a ∧ tr r m1 fun ds m2 => ∃ c dx fs d, m2 a = some (.ins c dx fs) ∧ (c, d) ∈ tab ∧ d (o :: ds) m2 Q Ed
end
end Mn

set_option Elab.async false
set_option linter.all false
set_option maxRecDepth 100000
set_option maxHeartbeats 4000000
set_option autoImplicit false
namespace Mn
open PySem PySem.Spec PyProof.Rows L2 GenW
variable [Tbs]
/-! f'..' of texts and whole numbers -/
def dFmt (te : DT) : DT := fun r m Q => te r m fun x m1 => match x with
  | .str y => y.length ≤ sizeLine ∧ Q (.str y) m1
  | .int i => i.natAbs.log2 < 1920 ∧ Q (.str (numS i)) m1
  | _ => False
def dJs : List DT → Str → Ro → Mu → (Str → Mu → Prop) → Prop
  | [], acc, _, m, Q => Q acc m
  | t :: ts, acc, r, m, Q => t r m fun d m1 => ∃ y : Str, d = .str y ∧ (acc ++ y).length ≤ sizeLine ∧ dJs ts (acc ++ y) r m1 Q
def dFS (ts : List DT) : DT := fun r m Q => dJs ts Str.empty r m fun out m1 => Q (.str out) m1
section
variable {X : Cx} {e : Expr} {es : List Expr} {t : DT} {ts : List DT} {pos : Pos}
theorem pd_fmt (he : PD X e t) : PD X (.FormattedValue e (-1) none pos) (dFmt t) := by
  refine peM (pe_fmt he) fun s H Q ⟨G, ro, m, Qd, hs, hr, q, w⟩ => ?_
  refine ⟨G, ro, m, _, hs, hr, q, fun v H1 G1 m1 d s1 r1 h1 q1 => ?_⟩
  cases h1 with
  | str x => exact .inl ⟨x, rfl, q1.1, w _ _ _ _ _ s1 r1 (.str x) q1.2⟩
  | int i => exact .inr ⟨i, rfl, q1.1, w _ _ _ _ _ s1 r1 (.str _) q1.2⟩
  | _ => exact q1.elim
inductive PDJ (X : Cx) : List Expr → List DT → Prop where
  | nil : PDJ X [] []
  | cons {e : Expr} {t : DT} {es : List Expr} {ts : List DT} (h : PD X e t) (r : PDJ X es ts) : PDJ X (e :: es) (t :: ts)
theorem PDJ.pj (h : PDJ X es ts) : PJ X es (ts.map (lf X.kf)) := by
  induction h with
  | nil => exact .nil
  | cons h _ ih => exact .cons h ih
theorem js_run {K : KF} {σ : L2.St} {ro : Ro} {Q : Str → Hp → Prop} {Qd : Str → Mu → Prop} : ∀ (ts : List DT) (acc : Str) (G H : Hp) (m : Mu), RpS K G ro σ → Rl K G H m → dJs ts acc ro m Qd →
    (∀ out H1 G1 m1, Stp G H m G1 H1 m1 → Rl K G1 H1 m1 → Qd out m1 → Q out H1) → tJs (ts.map (lf K)) acc σ H Q
  | [], acc, G, H, m, hs, hr, q, w => w acc H G m Stp.refl hr q
  | t :: ts, acc, G, H, m, hs, hr, q, w => ⟨G, ro, m, _, hs, hr, q, fun v H1 G1 m1 d s1 r1 h1 ⟨y, e, hy, q1⟩ => by
    subst e
    cases h1
    exact ⟨y, rfl, hy, js_run ts (acc ++ y) G1 H1 m1 (hs.same s1.g) r1 q1 fun out H2 G2 m2 st r2 q2 => w out H2 G2 m2 (s1.trans st) r2 q2⟩⟩
theorem pd_fs {v1 v2 : Expr} {rest : List Expr} (h : PDJ X (v1 :: v2 :: rest) ts) : PD X (.JoinedStr (v1 :: v2 :: rest) pos) (dFS ts) := by
  refine peM (pe_joined h.pj) fun s H Q ⟨G, ro, m, Qd, hs, hr, q, w⟩ => ?_
  exact js_run ts Str.empty G H m hs hr q fun out H1 G1 m1 st r1 q1 => w _ _ _ _ _ st r1 (.str out) q1
end
end Mn

set_option linter.all false
set_option maxHeartbeats 4000000
set_option autoImplicit false
set_option maxRecDepth 100000
namespace Mn
open PySem L2
variable [Tbs]
local macro_rules | `(tactic| walk_at "d") => `(tactic| (try simp only [dIsE, dCountB, dAppendX, dNewE, xSetX, xRetX, xDropX, dCX, xRaise, xTryRet, dTupLcX, xStR, xStL, dSplit, dJoin, sStr, dLam, aStr, gTL, dLcR, aMulS, dMakeX, dMethX, dMeth0X, dNX, starX, dflX, xFld, fldPut, xNext, xSeq, xAsg, xRet, xRetF, xDrop, xIf, xPar, xPar3, xMatch, mGo, xFrz, xPut, xAug, xFor, dVar, dC, dOp, dTest, dChain, dAndV, dOrV, dNotV, dAnd, dOr, dNot, dIf, dNil, dCons, dTup, dLst, dLstM, dCB, dIsi, dLc, dLcM, dYes, wipeD, dSlice, oSome, oNone, aSl_tup, aSl_lst, dNeg, dStar, dNewD, dTupVals, dSortSet, dSortSetI, dDictZ, sKeys, dFld, dMeth, dCallO, dGetC, dNewC, dDc, dStep, dIndexTD, dCountL, dCountS, dExtend, dAppend, dFrz, dLc2, dCountT, dIndexT, sqf_tup, sqf_lst, sqf_pair, sSeq, sSeq_tup, sSeq_lst, sRg1, sRg2, sZip2, sZip3, sZip4, sEnum, gV, gN, gC, gT, tupOf_tup, tupOf_pair, aAdd_int, aAdd_tup, aAdd_lst, aSub_int, aMul_int, aDiv_int, aMod_int, aPow_int, aCmp_int, aIx_tup, aIx_lst, aIx_scr, aIx_pair, aMax_int, aMin_int, aInt_bl, aInt_int, aLen_tup, aLen_lst, aLen_scr, aLen_pair, aTuple_lst, aTuple_tup, aIsB_bl, aNotB_bl, aEq_int, aNe_int, startD, List.map_cons, List.map_nil, List.length_cons, List.length_nil, List.cons_append, List.nil_append, List.replicate_zero, List.replicate_succ, List.append_nil, List.getElem?_cons_zero, List.getElem?_cons_succ, List.set_cons_zero, List.set_cons_succ, Option.some.injEq, exists_eq_left', exists_eq_left, exists_eq', D.int.injEq, D.bl.injEq, D.tup.injEq, D.lst.injEq, D.pair.injEq, D.ref.injEq, List.cons.injEq, Nat.sub_self, Nat.zero_add, Nat.add_sub_cancel, seqI_tup, seqI_lst, seqOf_tup, seqOf_lst, tyN_tup, tyN_lst, tyN_int, tyN_bl, tyN_str, tyN_non, isi_tt, at_0, at_1, at_2, at_3, Option.map_some, true_and, and_true, if_true, Bool.false_eq_true, if_false, Bool.not_true, Bool.not_false, ↓reduceIte, Nat.reduceAdd, Nat.reduceSub, exists_and_left, and_assoc]))
namespace C
open SX
/-! cubes: made, asked -/
def xdTb : XD := ⟨"TableError", []⟩
def s_need_table : DSpX := fun ds m Q Ed => ∃ (s : Sch) (d : D), ds = [encS s, d] ∧ SchV s ∧ Kn m d ∧ (isAm s (finN s) d = true → Q .non m) ∧ (isAm s (finN s) d = false → Ed xdTb m)
theorem l_need_table : ∀ ds m Q Ed, s_need_table ds m Q Ed → ds.length = 2 := by rintro ds m Q Ed ⟨z, y, rfl, _⟩; rfl
def t_need_table : DS := (xIf (dNot (dTest (dCB s_is_table_of (dCons (dVar 0) (dCons (dVar 1) dNil))))) (xRaise "TableError") xNext)
theorem v_need_table : BodyX 2 t_need_table s_need_table := by
  rintro ds m Q Ed ⟨s, d, rfl, hs, hk, h1, h2⟩
  unfold t_need_table
  walk_at "d"
  refine ⟨s, d, rfl, hs, hk, ?_⟩
  simp only [exists_eq_left', D.bl.injEq]
  cases h : isAm s (finN s) d with
  | true => simp only [Bool.not_true, Bool.false_eq_true, if_false]; exact ⟨_, fun _ _ e => e, h1 h⟩
  | false => simp only [Bool.not_false, if_true]; exact endX_ex (h2 h)
def zerF (s : Sch) : List Int := List.replicate (prodN (s.map At.n)) 0
def s_no_table : DSp := fun ds m Q => ∃ s : Sch, ds = [encS s] ∧ SchV s ∧ Q (iD (zerF s)) m
theorem l_no_table : ∀ ds m Q, s_no_table ds m Q → ds.length = 1 := by rintro ds m Q ⟨s, rfl, _⟩; rfl
def t_no_table : DS := (xRet (dOp aMulA (dTup (dCons (dC (.int 0)) dNil)) (dCB s_size_of (dCons (dVar 0) (dCons (dCB s_finest (dCons (dVar 0) dNil)) dNil)))))
theorem rep_iF (k : Nat) : (List.replicate k [D.int 0]).flatten = (List.replicate k (0 : Int)).map D.int := by
  induction k with
  | zero => rfl
  | succ k ih => rw [List.replicate_succ, List.flatten_cons, ih, List.replicate_succ]; rfl
theorem v_no_table : Body 1 t_no_table s_no_table := by
  rintro ds m Q ⟨s, rfl, hs, q⟩
  have hq := end_rt (m0 := m) q
  have hr := fin_roll s
  have h1 := prod_pos hs hr; have h6 := szs_prod hs hr
  have ef := szs_fin s
  unfold t_no_table
  walk_at "d"
  refine ⟨by decide, s, rfl, hs, s, finN s, rfl, hs, hr, ?_⟩
  unfold nD
  refine ⟨by decide, by decide, by omega, by omega, ?_⟩
  rw [Int.toNat_natCast, rep_iF, ef]
  exact hq
/-- a cube with this table, over the earlier ones -/
def cubM (dx : Addr) (s : Sch) (t : List Int) (past : List (List Int)) : MO := .ins "Cube" dx [("own_scheme", encS s), ("kept", iD t), ("past", .tup (past.map iD))]
def s_Cube_init : DSpX := fun ds m Q Ed => ∃ (a dx : Addr) (d0 d : D), ds = [.ref a, d0, d] ∧ m a = some (.ins "Cube" dx []) ∧ Kn m d0 ∧ Kn m d ∧ (isSch d0 = false → Ed xdS m) ∧ ∀ s, d0 = encS s → SchV s →
  (d = .non → Q .non (up m a (cubM dx s (zerF s) []))) ∧ (d ≠ .non → isAm s (finN s) d = false → Ed xdTb m) ∧ (∀ t : List Int, d = iD t → t.length = prodN (s.map At.n) → Q .non (up m a (cubM dx s t [])))
theorem l_Cube_init : ∀ ds m Q Ed, s_Cube_init ds m Q Ed → ds.length = 3 := by rintro ds m Q Ed ⟨a, dx, d0, d, rfl, _⟩; rfl
def t_Cube_init : DS := (xSeq (xDropX (dCX s_need_scheme (dCons (dVar 1) dNil)))
  (xSeq (xIf (dTest (dOp aNotN (dVar 2) (dC .non))) (xDropX (dCX s_need_table (dCons (dVar 1) (dCons (dVar 2) dNil)))) xNext)
  (xSeq (xFld ["Cube"] "own_scheme" (dVar 0) (dVar 1))
  (xSeq (xFld ["Cube"] "kept" (dVar 0) (dIf (dTest (dOp aIsN (dVar 2) (dC .non))) (dCB s_no_table (dCons (dVar 1) dNil)) (dVar 2)))
  (xFld ["Cube"] "past" (dVar 0) (dTup dNil))))))
theorem aNotN_not {d : D} {m : Mu} {Q : DK} (h : d ≠ .non) (q : Q (.bl true) m) : aNotN d .non m Q := by
  refine ⟨rfl, ?_⟩
  cases d <;> first | exact absurd rfl h | exact q
theorem aIsN_not {d : D} {m : Mu} {Q : DK} (h : d ≠ .non) (q : Q (.bl false) m) : aIsN d .non m Q := by
  refine ⟨rfl, ?_⟩
  cases d <;> first | exact absurd rfl h | exact q
theorem v_Cube_init : BodyX 3 t_Cube_init s_Cube_init := by
  rintro ds m Q Ed ⟨a, dx, d0, d, rfl, hm, hk0, hk, h1, h2⟩
  unfold t_Cube_init
  walk_at "d"
  refine ⟨_, rfl, hk0, fun h => ?_, fun h => endX_ex (h1 h)⟩
  obtain ⟨s, rfl, hs⟩ := isSch_enc h
  obtain ⟨h3, h4, h5⟩ := h2 s rfl hs
  by_cases hd : d = .non
  · subst hd
    refine ⟨rfl, _, rfl, ?_⟩
    simp only [Bool.false_eq_true, if_false]
    walk_at "d"
    refine ⟨"Cube", dx, [], hm, List.mem_cons_self, by decide, ⟨rfl, _, rfl, ?_⟩⟩
    rw [if_pos rfl]
    refine ⟨s, rfl, hs, "Cube", dx, _, up_same, List.mem_cons_self, Nat.lt_of_le_of_lt (m := 1) (Nat.le_refl _) (by decide), by decide, "Cube", dx, _, up_same, List.mem_cons_self, Nat.lt_of_le_of_lt (m := 2) (Nat.le_refl _) (by decide), ?_⟩
    rw [up_up, up_up]
    exact ⟨_, fun _ _ e => e, h3 rfl⟩
  · refine aNotN_not hd ⟨_, rfl, ?_⟩
    rw [if_pos rfl]
    walk_at "d"
    refine ⟨s, d, rfl, hs, hk, fun h => ?_, fun h => endX_ex (h4 hd h)⟩
    obtain ⟨t, rfl, ht⟩ := isAm_ex h
    refine ⟨"Cube", dx, [], hm, List.mem_cons_self, by decide, ?_⟩
    refine aIsN_not (fun e => nomatch e) ⟨_, rfl, ?_⟩
    rw [if_neg (by decide)]
    refine ⟨"Cube", dx, _, up_same, List.mem_cons_self, Nat.lt_of_le_of_lt (m := 1) (Nat.le_refl _) (by decide), by decide, "Cube", dx, _, up_same, List.mem_cons_self, Nat.lt_of_le_of_lt (m := 2) (Nat.le_refl _) (by decide), ?_⟩
    rw [up_up, up_up]
    exact ⟨_, fun _ _ e => e, h5 t rfl (by rw [ht, szs_fin])⟩
/-! .. asked -/
theorem log_small {n : Nat} (h : n < 10 ^ 18) : n.log2 < 1920 := by
  rcases Nat.eq_zero_or_pos n with rfl | hn
  · decide
  · exact (Nat.log2_lt (by omega)).mpr (Nat.lt_of_lt_of_le h (by decide))
theorem numS_small {i : Int} (h : i.natAbs < 10 ^ 18) : (numS i).length ≤ 20 := (sm_int h).2.2.2.2
theorem catS_len (a b : Str) : (a ++ b).length = a.length + b.length := by
  show (a.cps ++ b.cps).size = a.cps.size + b.cps.size
  rw [Array.size_append]
/-- how many are not zero -/
def nzN (t : List Int) : Nat := (t.filter fun x => x != 0).length
def s_Cube_repr : DSpX := fun ds m Q _ => ∃ (a dx : Addr) (s : Sch) (t : List Int) (past : List (List Int)), ds = [.ref a] ∧ m a = some (cubM dx s t past) ∧ t.length ≤ 60 ∧ t.sum.natAbs < 10 ^ 18 ∧ Q (.str (Str.empty ++ ("Cube(" : Str) ++ numS (nzN t) ++ (" cells, total " : Str) ++ numS t.sum ++ (")" : Str))) m
theorem l_Cube_repr : ∀ ds m Q Ed, s_Cube_repr ds m Q Ed → ds.length = 1 := by rintro ds m Q Ed ⟨a, dx, s, t, past, rfl, _⟩; rfl
def t_Cube_repr : DS := (xRet (dFS [(dC (.str (Str.ofString "Cube("))), (dFmt (dCB aLen (dCons (dLc (sSeq (dFld ["Cube"] "kept" (dVar 0))) [1] (gV 1) (dTest (dOp aNe (dVar 1) (dC (.int 0)))) (dVar 1)) dNil))), (dC (.str (Str.ofString " cells, total "))), (dFmt (dCB aSum (dCons (dLc (sSeq (dFld ["Cube"] "kept" (dVar 0))) [1] (gV 1) dYes (dVar 1)) dNil))), (dC (.str (Str.ofString ")")))]))
theorem v_Cube_repr : BodyX 2 t_Cube_repr s_Cube_repr := by
  rintro ds m Q Ed ⟨a, dx, s, t, past, rfl, hm, hl, hn, q⟩
  unfold t_Cube_repr
  walk_at "d"
  unfold dFS dJs dJs dJs dJs dJs dJs dFmt
  walk_at "d"
  refine ⟨_, rfl, by decide, _, _, _, hm, List.mem_cons_self, _, rfl, ?_⟩
  unfold iD
  refine ⟨_, Or.inr rfl, small (k := 1000) (by rw [List.length_map]; omega), ?_⟩
  refine lcGo_filt (enc := D.int) (fun x => x != 0) (fun x => D.int x) t [] _ (fun x _ A B h => ?_) ?_
  · walk_at "d"
    by_cases h0 : x = 0
    · subst h0; simpa using h
    · simpa [h0] using h
  rw [List.nil_append, List.length_map]
  have hz : nzN t ≤ 60 := Nat.le_trans (List.length_filter_le _ _) hl
  have n1 : ((nzN t : Nat) : Int).natAbs < 10 ^ 18 := by omega
  have l1 := numS_small n1
  have l2 := numS_small hn
  have lc : (Str.ofString "Cube(").length = 5 := by decide
  have ld : (Str.ofString " cells, total ").length = 14 := by decide
  have le : (Str.ofString ")").length = 1 := by decide
  have l0 : Str.empty.length = 0 := rfl
  have sz : 100 ≤ sizeLine := small (k := 1000) (by decide)
  refine ⟨log_small n1, _, rfl, by rw [catS_len, catS_len]; show 0 + _ + (numS ((nzN t : Nat) : Int)).length ≤ _; omega, _, rfl, by rw [catS_len, catS_len, catS_len]; show 0 + _ + (numS ((nzN t : Nat) : Int)).length + _ ≤ _; omega, _, _, _, hm, List.mem_cons_self, _, rfl, ?_⟩
  refine ⟨_, Or.inr rfl, small (k := 1000) (by rw [List.length_map]; omega), ?_⟩
  refine lcGo_maps (enc := D.int) (fun x => D.int x) t [] _ (fun x _ K hK => ?_) ?_
  · walk_at "d"
    exact hK
  · refine ⟨_, t, rfl, rfl, log_small hn, _, rfl, ?_, _, rfl, ?_, endX_rt q⟩
    · rw [catS_len, catS_len, catS_len, catS_len]; show 0 + _ + (numS ((nzN t : Nat) : Int)).length + _ + _ ≤ _; omega
    · rw [catS_len, catS_len, catS_len, catS_len, catS_len]; show 0 + _ + (numS ((nzN t : Nat) : Int)).length + _ + _ + _ ≤ _; omega
end C
end Mn

set_option linter.all false
set_option maxHeartbeats 4000000
set_option autoImplicit false
set_option maxRecDepth 100000
namespace Mn
open PySem L2
variable [Tbs]
local macro_rules | `(tactic| walk_at "d") => `(tactic| (try simp only [dIsE, dCountB, dAppendX, dNewE, xSetX, xRetX, xDropX, dCX, xRaise, xTryRet, dTupLcX, xStR, xStL, dSplit, dJoin, sStr, dLam, aStr, gTL, dLcR, aMulS, dMakeX, dMethX, dMeth0X, dNX, starX, dflX, xFld, fldPut, xNext, xSeq, xAsg, xRet, xRetF, xDrop, xIf, xPar, xPar3, xMatch, mGo, xFrz, xPut, xAug, xFor, dVar, dC, dOp, dTest, dChain, dAndV, dOrV, dNotV, dAnd, dOr, dNot, dIf, dNil, dCons, dTup, dLst, dLstM, dCB, dIsi, dLc, dLcM, dYes, wipeD, dSlice, oSome, oNone, aSl_tup, aSl_lst, dNeg, dStar, dNewD, dTupVals, dSortSet, dSortSetI, dDictZ, sKeys, dFld, dMeth, dCallO, dGetC, dNewC, dDc, dStep, dIndexTD, dCountL, dCountS, dExtend, dAppend, dFrz, dLc2, dCountT, dIndexT, sqf_tup, sqf_lst, sqf_pair, sSeq, sSeq_tup, sSeq_lst, sRg1, sRg2, sZip2, sZip3, sZip4, sEnum, gV, gN, gC, gT, tupOf_tup, tupOf_pair, aAdd_int, aAdd_tup, aAdd_lst, aSub_int, aMul_int, aDiv_int, aMod_int, aPow_int, aCmp_int, aIx_tup, aIx_lst, aIx_scr, aIx_pair, aMax_int, aMin_int, aInt_bl, aInt_int, aLen_tup, aLen_lst, aLen_scr, aLen_pair, aTuple_lst, aTuple_tup, aIsB_bl, aNotB_bl, aEq_int, aNe_int, startD, List.map_cons, List.map_nil, List.length_cons, List.length_nil, List.cons_append, List.nil_append, List.replicate_zero, List.replicate_succ, List.append_nil, List.getElem?_cons_zero, List.getElem?_cons_succ, List.set_cons_zero, List.set_cons_succ, Option.some.injEq, exists_eq_left', exists_eq_left, exists_eq', D.int.injEq, D.bl.injEq, D.tup.injEq, D.lst.injEq, D.pair.injEq, D.ref.injEq, List.cons.injEq, Nat.sub_self, Nat.zero_add, Nat.add_sub_cancel, seqI_tup, seqI_lst, seqOf_tup, seqOf_lst, tyN_tup, tyN_lst, tyN_int, tyN_bl, tyN_str, tyN_non, isi_tt, at_0, at_1, at_2, at_3, Option.map_some, true_and, and_true, if_true, Bool.false_eq_true, if_false, Bool.not_true, Bool.not_false, ↓reduceIte, Nat.reduceAdd, Nat.reduceSub, exists_and_left, and_assoc]))
namespace C
open SX
/-! what the laws about cubes use -/
def s_law_table : DSp := fun ds m Q => ∃ (z : Int) (s : Sch) (b : Nat), ds = [.int z, encS s, nD b] ∧ SchV s ∧ 1 ≤ b ∧ b ≤ 1000 ∧ ∀ t : List Int, t.length = prodN (s.map At.n) → (∀ x ∈ t, -(b : Int) ≤ x ∧ x ≤ b) → Q (iD t) m
theorem l_law_table : ∀ ds m Q, s_law_table ds m Q → ds.length = 3 := by rintro ds m Q ⟨z, s, b, rfl, _⟩; rfl
def t_law_table : DS := (xSeq (xAsg (dCB aLen (dCons (dCB s_law_fine_cells (dCons (dVar 1) dNil)) dNil)) (gV 3))
  (xRet (dCB aTuple (dCons (dLc (sSeq (dCB s_law_draws (dCons (dVar 0) (dCons (dOp aMulL (dLst (dCons (dOp aAdd (dOp aMulA (dC (.int 2)) (dVar 2)) (dC (.int 1))) dNil)) (dVar 3)) dNil)))) [4] (gV 4) dYes (dOp aSub (dVar 4) (dVar 2))) dNil))))
theorem v_law_table : Body 5 t_law_table s_law_table := by
  rintro ds m Q ⟨z, s, b, rfl, hs, hb1, hb, q⟩
  have pz : 1 ≤ prodN (s.map At.n) := by rw [← szs_fin]; exact prod_pos hs (fin_roll s)
  have pl : prodN (s.map At.n) ≤ 60 := by rw [← szs_fin]; exact szs_prod hs (fin_roll s)
  unfold t_law_table
  walk_at "d"
  refine ⟨s, rfl, hs, ?_⟩
  walk_at "d"
  rw [List.length_map, cellsN_len]
  unfold nD
  obtain ⟨n, hn⟩ : ∃ n, n = prodN (s.map At.n) := ⟨_, rfl⟩
  rw [← hn] at pz pl q ⊢
  refine ⟨.inl ⟨by decide, by decide⟩, ?_⟩
  walk_at "d"
  refine ⟨small (k := 1000) (by decide), ?_⟩
  unfold aMulL
  refine ⟨_, n, rfl, rfl, by omega, small (k := 1000) (by simp; omega), ?_⟩
  rw [show (2 : Int) * (b : Int) + 1 = ((2 * b + 1 : Nat) : Int) by omega, rep_nD]
  refine ⟨z, _, rfl, by rw [List.length_replicate]; omega, fun c hc => by rw [List.eq_of_mem_replicate hc]; omega, fun us hus => ?_⟩
  have hul : us.length = n := by rw [hus.1, List.length_replicate]
  refine ⟨_, .inl rfl, small (k := 1000) (by rw [List.length_map]; omega), ?_⟩
  refine lcGo_maps (enc := nD) (fun u : Nat => D.int ((u : Int) - b)) us [] _ (fun u hu K hK => ?_) ?_
  · unfold nD
    walk_at "d"
    exact hK
  · rw [List.nil_append]
    have e : us.map (fun u : Nat => D.int ((u : Int) - b)) = (us.map fun u : Nat => (u : Int) - b).map D.int := by rw [List.map_map]; rfl
    rw [e]
    refine end_rt (q _ (by rw [List.length_map]; exact hul) fun x hx => ?_)
    obtain ⟨u, hu, rfl⟩ := List.mem_map.mp hx
    obtain ⟨i, hi, e2⟩ := List.mem_iff_getElem.mp hu
    have h1 : us[i]? = some u := by rw [List.getElem?_eq_getElem hi, e2]
    have h2 : (List.replicate n (2 * b + 1))[i]? = some (2 * b + 1) := by rw [List.getElem?_replicate, if_pos (by omega)]
    have := hus.2 i u _ h1 h2
    omega
end C
end Mn

set_option linter.all false
set_option maxHeartbeats 4000000
set_option autoImplicit false
set_option maxRecDepth 100000
namespace Mn
open PySem L2
variable [Tbs]
local macro_rules | `(tactic| walk_at "d") => `(tactic| (try simp only [dIsE, dCountB, dAppendX, dNewE, xSetX, xRetX, xDropX, dCX, xRaise, xTryRet, dTupLcX, xStR, xStL, dSplit, dJoin, sStr, dLam, aStr, gTL, dLcR, aMulS, dMakeX, dMethX, dMeth0X, dNX, starX, xFld, fldPut, xNext, xSeq, xAsg, xRet, xRetF, xDrop, xIf, xPar, xPar3, xMatch, mGo, xFrz, xPut, xAug, xFor, dVar, dC, dOp, dTest, dChain, dAndV, dOrV, dNotV, dAnd, dOr, dNot, dIf, dNil, dCons, dTup, dLst, dLstM, dCB, dIsi, dLc, dLcM, dYes, wipeD, dSlice, oSome, oNone, aSl_tup, aSl_lst, dNeg, dStar, dNewD, dTupVals, dSortSet, dSortSetI, dDictZ, sKeys, dFld, dMeth, dCallO, dGetC, dNewC, dDc, dStep, dIndexTD, dCountL, dCountS, dExtend, dAppend, dFrz, dLc2, dCountT, dIndexT, sqf_tup, sqf_lst, sqf_pair, sSeq, sSeq_tup, sSeq_lst, sRg1, sRg2, sZip2, sZip3, sZip4, sEnum, gV, gN, gC, gT, tupOf_tup, tupOf_pair, aAdd_int, aAdd_tup, aAdd_lst, aSub_int, aMul_int, aDiv_int, aMod_int, aPow_int, aCmp_int, aIx_tup, aIx_lst, aIx_scr, aIx_pair, aMax_int, aMin_int, aInt_bl, aInt_int, aLen_tup, aLen_lst, aLen_scr, aLen_pair, aTuple_lst, aTuple_tup, aIsB_bl, aNotB_bl, aEq_int, aNe_int, startD, List.map_cons, List.map_nil, List.length_cons, List.length_nil, List.cons_append, List.nil_append, List.replicate_zero, List.replicate_succ, List.append_nil, List.getElem?_cons_zero, List.getElem?_cons_succ, List.set_cons_zero, List.set_cons_succ, Option.some.injEq, exists_eq_left', exists_eq_left, exists_eq', D.int.injEq, D.bl.injEq, D.tup.injEq, D.lst.injEq, D.pair.injEq, D.ref.injEq, List.cons.injEq, Nat.sub_self, Nat.zero_add, Nat.add_sub_cancel, seqI_tup, seqI_lst, seqOf_tup, seqOf_lst, tyN_tup, tyN_lst, tyN_int, tyN_bl, tyN_str, tyN_non, isi_tt, at_0, at_1, at_2, at_3, Option.map_some, true_and, and_true, if_true, Bool.false_eq_true, if_false, Bool.not_true, Bool.not_false, ↓reduceIte, Nat.reduceAdd, Nat.reduceSub, exists_and_left, and_assoc]))
namespace C
open SX
theorem le_up {m : Mu} {a : Addr} {o : MO} (h : m a = none) : ∀ b u, m b = some u → up m a o b = some u := fun b u e => by
  rw [up_ne fun z => by rw [z, h] at e; cases e]; exact e
theorem made {s : Sch} {m : Mu} {ds : List D} {t : List Int} {R : Mu → Prop} {Ed : EK} {a dx : Addr} (hs : SchV s) (ha : m a = none) (hdx : m dx = none) (hne : dx ≠ a)
    (hd : (ds = [encS s] ∧ t = zerF s) ∨ (ds = [encS s, .non] ∧ t = zerF s) ∨ (ds = [encS s, iD t] ∧ t.length = prodN (s.map At.n))) (q : ∀ m2, m2 a = some (cubM dx s t []) → (∀ b o, m b = some o → m2 b = some o) → R m2) :
    dflX [.non] s_Cube_init (.ref a :: ds) (up (up m dx (.own a)) a (.ins "Cube" dx [])) (fun v m2 => v = .non ∧ R m2) Ed := by
  have le : ∀ o b u, m b = some u → up (up (up m dx (.own a)) a (.ins "Cube" dx [])) a o b = some u := fun o b u e => by
    have b1 : b ≠ a := fun z => by rw [z, ha] at e; cases e
    have b2 : b ≠ dx := fun z => by rw [z, hdx] at e; cases e
    rw [up_ne b1, up_ne b1, up_ne b2]; exact e
  have go : ∀ d : D, (d = .non ∧ t = zerF s) ∨ (d = iD t ∧ t.length = prodN (s.map At.n)) → s_Cube_init [.ref a, encS s, d] (up (up m dx (.own a)) a (.ins "Cube" dx [])) (fun v m2 => v = .non ∧ R m2) Ed := fun d hd => by
    refine ⟨a, dx, _, d, rfl, up_same, kn_encS _ _, ?_, (fun h => by rw [hs.ok] at h; cases h), fun s' e hs' => ?_⟩
    · rcases hd with ⟨rfl, _⟩ | ⟨rfl, _⟩
      · exact Kn.of rfl
      · exact kn_iD _ _
    · obtain rfl := encS_inj e
      refine ⟨fun e => ?_, fun h1 h2 => ?_, fun t' e ht' => ?_⟩
      · rcases hd with ⟨_, rfl⟩ | ⟨rfl, _⟩
        · exact ⟨rfl, q _ up_same (le _)⟩
        · cases e
      · rcases hd with ⟨rfl, _⟩ | ⟨rfl, hl⟩
        · exact absurd rfl h1
        · rw [isAm_ok (by rw [szs_fin]; exact hl)] at h2; cases h2
      · rcases hd with ⟨rfl, _⟩ | ⟨rfl, _⟩
        · cases e
        · have e2 := e
          rw [← iD_inj e2]
          exact ⟨rfl, q _ up_same (le _)⟩
  rcases hd with ⟨rfl, rfl⟩ | ⟨rfl, rfl⟩ | ⟨rfl, hl⟩
  · exact Or.inl (go .non (.inl ⟨rfl, rfl⟩))
  · exact Or.inr (go .non (.inl ⟨rfl, rfl⟩))
  · exact Or.inr (go (iD t) (.inr ⟨rfl, hl⟩))
end C
end Mn

set_option linter.all false
set_option maxHeartbeats 4000000
set_option autoImplicit false
set_option maxRecDepth 100000
namespace Mn
open PySem L2
variable [Tbs]
local macro_rules | `(tactic| walk_at "d") => `(tactic| (try simp only [dIsE, dCountB, dAppendX, dNewE, xSetX, xRetX, xDropX, dCX, xRaise, xTryRet, dTupLcX, xStR, xStL, dSplit, dJoin, sStr, dLam, aStr, gTL, dLcR, aMulS, dMakeX, dMethX, dMeth0X, dNX, starX, xFld, fldPut, xNext, xSeq, xAsg, xRet, xRetF, xDrop, xIf, xPar, xPar3, xMatch, mGo, xFrz, xPut, xAug, xFor, dVar, dC, dOp, dTest, dChain, dAndV, dOrV, dNotV, dAnd, dOr, dNot, dIf, dNil, dCons, dTup, dLst, dLstM, dCB, dIsi, dLc, dLcM, dYes, wipeD, dSlice, oSome, oNone, aSl_tup, aSl_lst, dNeg, dStar, dNewD, dTupVals, dSortSet, dSortSetI, dDictZ, sKeys, dFld, dMeth, dCallO, dGetC, dNewC, dDc, dStep, dIndexTD, dCountL, dCountS, dExtend, dAppend, dFrz, dLc2, dCountT, dIndexT, sqf_tup, sqf_lst, sqf_pair, sSeq, sSeq_tup, sSeq_lst, sRg1, sRg2, sZip2, sZip3, sZip4, sEnum, gV, gN, gC, gT, tupOf_tup, tupOf_pair, aAdd_int, aAdd_tup, aAdd_lst, aSub_int, aMul_int, aDiv_int, aMod_int, aPow_int, aCmp_int, aIx_tup, aIx_lst, aIx_scr, aIx_pair, aMax_int, aMin_int, aInt_bl, aInt_int, aLen_tup, aLen_lst, aLen_scr, aLen_pair, aTuple_lst, aTuple_tup, aIsB_bl, aNotB_bl, aEq_int, aNe_int, startD, List.map_cons, List.map_nil, List.length_cons, List.length_nil, List.cons_append, List.nil_append, List.replicate_zero, List.replicate_succ, List.append_nil, List.getElem?_cons_zero, List.getElem?_cons_succ, List.set_cons_zero, List.set_cons_succ, Option.some.injEq, exists_eq_left', exists_eq_left, exists_eq', D.int.injEq, D.bl.injEq, D.tup.injEq, D.lst.injEq, D.pair.injEq, D.ref.injEq, List.cons.injEq, Nat.sub_self, Nat.zero_add, Nat.add_sub_cancel, seqI_tup, seqI_lst, seqOf_tup, seqOf_lst, tyN_tup, tyN_lst, tyN_int, tyN_bl, tyN_str, tyN_non, isi_tt, at_0, at_1, at_2, at_3, Option.map_some, true_and, and_true, if_true, Bool.false_eq_true, if_false, Bool.not_true, Bool.not_false, ↓reduceIte, Nat.reduceAdd, Nat.reduceSub, exists_and_left, and_assoc]))
namespace C
open SX
/-! amounts put into a cube -/
def xdC : XD := ⟨"CellError", []⟩
def xdA : XD := ⟨"AmountError", []⟩
def s_need_cell : DSpX := fun ds m Q Ed => ∃ (s : Sch) (r : List Nat) (d : D), ds = [encS s, tD r, d] ∧ SchV s ∧ Roll s r ∧ Kn m d ∧ (isCell s r d = true → Q .non m) ∧ (isCell s r d = false → Ed xdC m)
theorem l_need_cell : ∀ ds m Q Ed, s_need_cell ds m Q Ed → ds.length = 3 := by rintro ds m Q Ed ⟨s, r, d, rfl, _⟩; rfl
def t_need_cell : DS := (xIf (dNot (dTest (dCB s_is_cell (dCons (dVar 0) (dCons (dVar 1) (dCons (dVar 2) dNil)))))) (xRaise "CellError") xNext)
theorem v_need_cell : BodyX 3 t_need_cell s_need_cell := by
  rintro ds m Q Ed ⟨s, r, d, rfl, hs, hr, hk, h1, h2⟩
  unfold t_need_cell
  walk_at "d"
  refine ⟨s, r, d, rfl, hs, hr, hk, ?_⟩
  simp only [exists_eq_left', D.bl.injEq]
  cases h : isCell s r d with
  | true => simp only [Bool.not_true, Bool.false_eq_true, if_false]; exact ⟨_, fun _ _ e => e, h1 h⟩
  | false => simp only [Bool.not_false, if_true]; exact endX_ex (h2 h)
def isAmt (d : D) : Bool := betw d (-1000000) 1000000
def s_need_amount : DSpX := fun ds m Q Ed => ∃ d : D, ds = [d] ∧ Kn m d ∧ (isAmt d = true → Q .non m) ∧ (isAmt d = false → Ed xdA m)
theorem l_need_amount : ∀ ds m Q Ed, s_need_amount ds m Q Ed → ds.length = 1 := by rintro ds m Q Ed ⟨d, rfl, _⟩; rfl
def t_need_amount : DS := (xIf (dNot (dTest (dCB s_is_between (dCons (dVar 0) (dCons (dOp aSub (dC (.int 0)) (dC (.int 1000000))) (dCons (dC (.int 1000000)) dNil)))))) (xRaise "AmountError") xNext)
theorem v_need_amount : BodyX 1 t_need_amount s_need_amount := by
  rintro ds m Q Ed ⟨d, rfl, hk, h1, h2⟩
  unfold t_need_amount
  walk_at "d"
  refine ⟨d, -1000000, 1000000, rfl, hk, ?_⟩
  simp only [exists_eq_left', D.bl.injEq]
  rw [show betw d (-1000000) 1000000 = isAmt d from rfl]
  cases h : isAmt d with
  | true => simp only [Bool.not_true, Bool.false_eq_true, if_false]; exact ⟨_, fun _ _ e => e, h1 h⟩
  | false => simp only [Bool.not_false, if_true]; exact endX_ex (h2 h)
def plc (s : Sch) (c : List Nat) : Nat := Mn.B.fstI (cellsOf s (finN s)) c
def s_place_in : DSp := fun ds m Q => ∃ (s : Sch) (c : List Nat), ds = [encS s, tD c] ∧ SchV s ∧ c ∈ cellsOf s (finN s) ∧ Q (nD (plc s c)) m
theorem l_place_in : ∀ ds m Q, s_place_in ds m Q → ds.length = 2 := by rintro ds m Q ⟨s, c, rfl, _⟩; rfl
def t_place_in : DS := (xRet (dIndexL (dCB s_cells_of (dCons (dVar 0) (dCons (dCB s_finest (dCons (dVar 0) dNil)) dNil))) (dVar 1)))
theorem v_place_in : Body 2 t_place_in s_place_in := by
  rintro ds m Q ⟨s, c, rfl, hs, hc, q⟩
  have hq := end_rt (m0 := m) q
  unfold t_place_in dIndexL
  walk_at "d"
  refine ⟨s, rfl, hs, s, finN s, rfl, hs, fin_roll s, rfl, ?_⟩
  obtain ⟨h1, h2, h3, h4, h5, h6⟩ := Mn.B.index_is m hc
  exact ⟨_, h1, h2, h3, _, _, h4, h5, h6, hq⟩
/-- a table with v more at place i -/
def moreL (t : List Int) (i : Nat) (v : Int) : List Int := t.take i ++ [t.getD i 0 + v] ++ t.drop (i + 1)
theorem more_len {t : List Int} {i : Nat} {v : Int} (h : i < t.length) : (moreL t i v).length = t.length := by
  unfold moreL
  simp only [List.length_append, List.length_take, List.length_drop, List.length_singleton]
  omega
def s_with_more : DSp := fun ds m Q => ∃ (t : List Int) (i : Nat) (v : Int), ds = [iD t, nD i, .int v] ∧ i < t.length ∧ t.length ≤ 60 ∧ Q (iD (moreL t i v)) m
theorem l_with_more : ∀ ds m Q, s_with_more ds m Q → ds.length = 3 := by rintro ds m Q ⟨t, i, v, rfl, _⟩; rfl
def t_with_more : DS := (xRet (dTup (dStar (dSlice (dVar 0) oNone (oSome (dVar 1))) (dCons (dOp aAdd (dOp aIx (dVar 0) (dVar 1)) (dVar 2)) (dStar (dSlice (dVar 0) (oSome (dOp aAdd (dVar 1) (dC (.int 1)))) oNone) dNil)))))
theorem v_with_more : Body 3 t_with_more s_with_more := by
  rintro ds m Q ⟨t, i, v, rfl, hi, hl, q⟩
  have hq := end_rt (m0 := m) q
  unfold t_with_more iD nD
  walk_at "d"
  refine ⟨.int (t.getD i 0), ?_, ?_⟩
  · unfold at_
    rw [if_pos (by omega), Int.toNat_natCast, List.getElem?_map, List.getElem?_eq_getElem hi, List.getD_eq_getElem?_getD, List.getElem?_eq_getElem hi]
    rfl
  · walk_at "d"
    have e1 : cutD (t.map D.int) none (some (i : Int)) = (t.take i).map D.int := by rw [cut_to _ i (by rw [List.length_map]; omega), List.map_take]
    have e2 : cutD (t.map D.int) (some ((i : Int) + 1)) none = (t.drop (i + 1)).map D.int := by rw [show (i : Int) + 1 = ((i + 1 : Nat) : Int) by omega, cut_from _ (i + 1) (by rw [List.length_map]; omega), List.map_drop]
    rw [e1, e2]
    have e3 : (t.take i).map D.int ++ D.int (t.getD i 0 + v) :: (t.drop (i + 1)).map D.int = (moreL t i v).map D.int := by
      unfold moreL
      rw [List.map_append, List.map_append, List.append_assoc]; rfl
    rw [e3, List.length_map, more_len hi]
    exact ⟨small (k := 1000) (by omega), hq⟩
def s_Cube_change : DSpX := fun ds m Q _ => ∃ (a dx : Addr) (s : Sch) (t u : List Int) (past : List (List Int)), ds = [.ref a, iD u] ∧ m a = some (cubM dx s t past) ∧ past.length ≤ 900 ∧ Q .non (up m a (cubM dx s u (past ++ [t])))
theorem l_Cube_change : ∀ ds m Q Ed, s_Cube_change ds m Q Ed → ds.length = 2 := by rintro ds m Q Ed ⟨a, dx, s, t, u, past, rfl, _⟩; rfl
def t_Cube_change : DS := (xSeq (xFld ["Cube"] "past" (dVar 0) (dTup (dStar (dFld ["Cube"] "past" (dVar 0)) (dCons (dFld ["Cube"] "kept" (dVar 0)) dNil))))
  (xFld ["Cube"] "kept" (dVar 0) (dVar 1)))
theorem v_Cube_change : BodyX 2 t_Cube_change s_Cube_change := by
  rintro ds m Q Ed ⟨a, dx, s, t, u, past, rfl, hm, hp, q⟩
  unfold t_Cube_change
  walk_at "d"
  refine ⟨_, _, _, hm, List.mem_cons_self, _, rfl, _, rfl, _, _, _, hm, List.mem_cons_self, _, rfl, small (k := 1000) (by rw [List.length_append, List.length_map]; simp only [List.length_cons, List.length_nil]; omega), _, _, _, hm, List.mem_cons_self, Nat.lt_of_le_of_lt (m := 3) (Nat.le_refl _) (by decide), _, _, _, up_same, List.mem_cons_self, Nat.lt_of_le_of_lt (m := 3) (Nat.le_refl _) (by decide), ?_⟩
  rw [up_up]
  have e : past.map iD ++ [iD t] = (past ++ [t]).map iD := by rw [List.map_append]; rfl
  rw [e]
  exact ⟨_, fun _ _ e => e, q⟩
theorem isAmt_ex {d : D} (h : isAmt d = true) : ∃ v : Int, d = .int v ∧ -1000000 ≤ v ∧ v ≤ 1000000 := by
  unfold isAmt betw at h
  cases d with
  | int i =>
    simp only [Bool.and_eq_true, decide_eq_true_eq] at h
    exact ⟨i, rfl, h.1, h.2⟩
  | _ => cases h
def s_Cube_put : DSpX := fun ds m Q Ed => ∃ (a dx : Addr) (s : Sch) (t : List Int) (past : List (List Int)) (d e : D), ds = [.ref a, d, e] ∧ m a = some (cubM dx s t past) ∧ SchV s ∧ t.length = prodN (s.map At.n) ∧ past.length ≤ 900 ∧ Kn m d ∧ Kn m e ∧
  (isCell s (finN s) d = false → Ed xdC m) ∧ (isCell s (finN s) d = true → isAmt e = false → Ed xdA m) ∧ ∀ (c : List Nat) (v : Int), d = tD c → c ∈ cellsOf s (finN s) → e = .int v → -1000000 ≤ v ∧ v ≤ 1000000 → Q .non (up m a (cubM dx s (moreL t (plc s c) v) (past ++ [t])))
theorem l_Cube_put : ∀ ds m Q Ed, s_Cube_put ds m Q Ed → ds.length = 3 := by rintro ds m Q Ed ⟨a, dx, s, t, past, d, e, rfl, _⟩; rfl
def t_Cube_put : DS := (xSeq (xDropX (dCX s_need_cell (dCons (dFld ["Cube"] "own_scheme" (dVar 0)) (dCons (dCB s_finest (dCons (dFld ["Cube"] "own_scheme" (dVar 0)) dNil)) (dCons (dVar 1) dNil)))))
  (xSeq (xDropX (dCX s_need_amount (dCons (dVar 2) dNil)))
  (xDropX (dMethX [("Cube", s_Cube_change)] "change" (dVar 0) (dCons (dCB s_with_more (dCons (dFld ["Cube"] "kept" (dVar 0)) (dCons (dCB s_place_in (dCons (dFld ["Cube"] "own_scheme" (dVar 0)) (dCons (dVar 1) dNil))) (dCons (dVar 2) dNil)))) dNil)))))
theorem v_Cube_put : BodyX 3 t_Cube_put s_Cube_put := by
  rintro ds m Q Ed ⟨a, dx, s, t, past, d, e, rfl, hm, hs, ht, hp, hk, hke, h1, h2, h3⟩
  have pl : prodN (s.map At.n) ≤ 60 := by rw [← szs_fin]; exact szs_prod hs (fin_roll s)
  unfold t_Cube_put
  walk_at "d"
  refine ⟨_, _, _, hm, List.mem_cons_self, _, rfl, _, _, _, hm, List.mem_cons_self, _, rfl, s, rfl, hs, s, finN s, d, rfl, hs, fin_roll s, hk, fun hc => ?_, fun h => endX_ex (h1 h)⟩
  refine ⟨e, rfl, hke, fun he => ?_, fun h => endX_ex (h2 hc h)⟩
  obtain ⟨ed, hcl⟩ := isCell_ex (fin_roll s) hc
  obtain ⟨v, rfl, hv⟩ := isAmt_ex he
  have hmem : natL d ∈ cellsOf s (finN s) := cell_iff.mpr hcl
  have hlt := Mn.B.fstI_lt hmem
  have hcl2 : (cellsOf s (finN s)).length = prodN (s.map At.n) := by unfold cellsOf; rw [cellsN_len, szs_fin]
  rw [ed]
  refine ⟨_, _, _, hm, s_Cube_change, List.mem_cons_self, rfl, _, _, _, hm, List.mem_cons_self, _, rfl, _, _, _, hm, List.mem_cons_self, _, rfl, s, natL d, rfl, hs, hmem, t, plc s (natL d), v, rfl, by unfold plc; omega, by omega, a, dx, s, t, _, past, rfl, hm, hp, ?_⟩
  exact ⟨_, fun _ _ e => e, h3 (natL d) v ed hmem rfl hv⟩
theorem isCell_last {p : Sch} {a : At} {ds : List D} {d : D} (h : ds.length = p.length) (hb : betw d 0 ((a.n : Int) - 1) = false) : isCell (p ++ [a]) (finN (p ++ [a])) (.tup (ds ++ [d])) = false := by
  unfold isCell
  simp only
  rw [szs_fin, List.map_append, List.zipWith_append (by rw [h, List.length_map])]
  simp [hb]
theorem isCell_len {s : Sch} {ds : List D} (h : ds.length ≠ s.length) : isCell s (finN s) (.tup ds) = false := by
  unfold isCell
  simp [h]
def s_law_no_cells : DSp := fun ds m Q => ∃ s : Sch, ds = [encS s] ∧ SchV s ∧ ∀ (l : List D) (m' : Mu), l.length ≤ 40 → (∀ d ∈ l, Kn m' d ∧ isCell s (finN s) d = false) → (∀ a o, m a = some o → m' a = some o) → Q (.lst l) m'
theorem l_law_no_cells : ∀ ds m Q, s_law_no_cells ds m Q → ds.length = 1 := by rintro ds m Q ⟨s, rfl, _⟩; rfl
def t_law_no_cells : DS := (xSeq (xPar 2 3 (dCons (dOp aMulA (dTup (dCons (dC (.int 0)) dNil)) (dCB aLen (dCons (dVar 0) dNil))) (dCons (dOp aIx (dOp aIx (dVar 0) (dNeg (dC (.int 1)))) (dC (.int 0))) dNil)))
  (xSeq (xAsg (dLst (dCons (dC .non) (dCons (dC (.int 0)) (dCons (dC (.bl true)) (dCons (dC (.str (Str.ofString ""))) (dCons (dTup dNil) (dCons (dLst dNil) (dCons dNewE (dCons (dCB aList (dCons (dVar 2) dNil)) (dCons (dOp aAdd (dVar 2) (dTup (dCons (dC (.int 0)) dNil))) dNil)))))))))) (gV 1))
  (xSeq (xAsg (dOp aAdd (dVar 1) (dLst (dCons (dOp aAdd (dSlice (dVar 2) (oSome (dC (.int 1))) oNone) (dTup (dCons (dVar 3) dNil))) (dCons (dOp aAdd (dSlice (dVar 2) (oSome (dC (.int 1))) oNone) (dTup (dCons (dNeg (dC (.int 1))) dNil))) (dCons (dTup (dCons (dVar 2) dNil)) dNil))))) (gV 1))
  (xSeq (xAsg (dOp aAdd (dVar 1) (dLst (dCons (dOp aAdd (dSlice (dVar 2) (oSome (dC (.int 1))) oNone) (dTup (dCons (dC (.bl false)) dNil))) (dCons (dOp aAdd (dSlice (dVar 2) (oSome (dC (.int 1))) oNone) (dTup (dCons (dC .non) dNil))) (dCons (dOp aAdd (dSlice (dVar 2) (oSome (dC (.int 1))) oNone) (dTup (dCons (dC (.str (Str.ofString "0"))) dNil))) dNil))))) (gV 1))
  (xSeq (xAsg (dOp aAdd (dVar 1) (dLst (dCons (dOp aAdd (dSlice (dVar 2) (oSome (dC (.int 1))) oNone) (dTup (dCons (dLst (dCons (dC (.int 0)) dNil)) dNil))) (dCons (dC (.str (Str.ofString "0"))) (dCons (dLst (dCons (dVar 2) dNil)) dNil))))) (gV 1))
  (xRet (dVar 1)))))))
theorem v_law_no_cells : Body 4 t_law_no_cells s_law_no_cells := by
  rintro ds m Q ⟨s, rfl, hs, q⟩
  have h1 := hs.1; have h3 := hs.2.1
  obtain ⟨p, a, rfl⟩ : ∃ p a, s = p ++ [a] := ⟨s.dropLast, s.getLast (by intro e; rw [e] at h1; simp at h1), (List.dropLast_concat_getLast _).symm⟩
  have hpl : p.length ≤ 2 := by rw [List.length_append] at h3; simp at h3; omega
  unfold t_law_no_cells encS
  walk_at "d"
  rw [List.length_map]
  refine ⟨by decide, by simp, by simp, by omega, by omega, ?_⟩
  rw [List.map_append]
  simp only [List.map_cons, List.map_nil]
  refine ⟨_, at_last _ _, ?_⟩
  unfold At.enc nD
  walk_at "d"
  simp only [List.length_map, Int.toNat_natCast]
  rw [rep_tD', List.length_append, List.length_singleton]
  have ez : cutD (List.replicate (p.length + 1) (nD 0)) (some 1) none = List.replicate p.length (nD 0) := by rw [cut_1]; rfl
  have sm : ∀ k : Nat, k ≤ 100 → k ≤ sizeLine := fun k hk => small (k := 1000) (by omega)
  simp only [ez]
  simp only [List.length_replicate]
  refine ⟨sm _ (by omega), sm _ (by omega), fun p1 hp1 => ⟨_, _, rfl, rfl, ?_⟩⟩
  iterate 24 refine ⟨sm _ (by omega), ?_⟩
  have kz : ∀ (n : Nat) (m : Mu) (d : D), refs d = [] → Kn m (.tup (List.replicate n (nD 0) ++ [d])) := fun n m d hd => kn_tup fun x hx => by
    rcases List.mem_append.mp hx with hx | hx
    · rw [List.eq_of_mem_replicate hx]; exact Kn.of rfl
    · rw [List.mem_singleton.mp hx]; exact Kn.of hd
  have kz0 : ∀ (n : Nat) (m : Mu), Kn m (.tup (List.replicate n (nD 0))) := fun n m => kn_tup fun x hx => by
    rw [List.eq_of_mem_replicate hx]; exact Kn.of rfl
  refine end_rtL (fun _ _ e => e) (q _ _ ?_ ?_ fun b o e => ?_)
  · simp only [List.length_cons, List.length_nil]; decide
  · iterate 6 refine List.forall_mem_cons.mpr ⟨⟨Kn.of rfl, by first | rfl | exact isCell_len (by rw [List.length_append]; simp)⟩, ?_⟩
    refine List.forall_mem_cons.mpr ⟨⟨fun x hx => ⟨p1, by simpa [refs] using hx, by simp [tyN, up]⟩, rfl⟩, ?_⟩
    refine List.forall_mem_cons.mpr ⟨⟨kn_lst fun x hx => (kz0 _ _).tup hx, rfl⟩, ?_⟩
    refine List.forall_mem_cons.mpr ⟨⟨kz _ _ _ rfl, isCell_len (by simp)⟩, ?_⟩
    refine List.forall_mem_cons.mpr ⟨⟨kz _ _ _ rfl, isCell_last (by simp) (by simp only [betw, Bool.and_eq_false_iff, decide_eq_false_iff_not]; omega)⟩, ?_⟩
    refine List.forall_mem_cons.mpr ⟨⟨kz _ _ _ rfl, isCell_last (by simp) (by simp [betw])⟩, ?_⟩
    refine List.forall_mem_cons.mpr ⟨⟨kn_tup fun x hx => by rw [List.mem_singleton.mp hx]; exact kz0 _ _, ?_⟩, ?_⟩
    · rcases (by omega : p.length = 0 ∨ 1 ≤ p.length) with h | h
      · rw [List.eq_nil_of_length_eq_zero h]; exact isCell_last (p := []) (ds := []) rfl rfl
      · exact isCell_len (by rw [List.length_append]; simp only [List.length_cons, List.length_nil]; omega)
    iterate 4 refine List.forall_mem_cons.mpr ⟨⟨kz _ _ _ rfl, isCell_last (by simp) rfl⟩, ?_⟩
    refine List.forall_mem_cons.mpr ⟨⟨Kn.of rfl, rfl⟩, ?_⟩
    refine List.forall_mem_cons.mpr ⟨⟨kn_lst fun x hx => by rw [List.mem_singleton.mp hx]; exact kz0 _ _, rfl⟩, fun _ h => nomatch h⟩
  · rw [up_ne fun z => by rw [z, hp1] at e; cases e]; exact e
end C
end Mn

set_option linter.all false
set_option maxHeartbeats 4000000
set_option autoImplicit false
set_option maxRecDepth 100000
namespace Mn
open PySem L2
variable [Tbs]
local macro_rules | `(tactic| walk_at "d") => `(tactic| (try simp only [dIsE, dCountB, dAppendX, dNewE, xSetX, xRetX, xDropX, dCX, xRaise, xTryRet, dTupLcX, xStR, xStL, dSplit, dJoin, sStr, dLam, aStr, gTL, dLcR, aMulS, dMakeX, dMethX, dCallX, dMeth0X, dNX, starX, xFld, fldPut, xNext, xSeq, xAsg, xRet, xRetF, xDrop, xIf, xPar, xPar3, xMatch, mGo, xFrz, xPut, xAug, xFor, dVar, dC, dOp, dTest, dChain, dAndV, dOrV, dNotV, dAnd, dOr, dNot, dIf, dNil, dCons, dTup, dLst, dLstM, dCB, dIsi, dLc, dLcM, dYes, wipeD, dSlice, oSome, oNone, aSl_tup, aSl_lst, dNeg, dStar, dNewD, dTupVals, dSortSet, dSortSetI, dDictZ, sKeys, dFld, dMeth, dCallO, dGetC, dNewC, dDc, dStep, dIndexTD, dCountL, dCountS, dExtend, dAppend, dFrz, dLc2, dCountT, dIndexT, sqf_tup, sqf_lst, sqf_pair, sSeq, sSeq_tup, sSeq_lst, sRg1, sRg2, sZip2, sZip3, sZip4, sEnum, gV, gN, gC, gT, tupOf_tup, tupOf_pair, aAdd_int, aAdd_tup, aAdd_lst, aSub_int, aMul_int, aDiv_int, aMod_int, aPow_int, aCmp_int, aIx_tup, aIx_lst, aIx_scr, aIx_pair, aMax_int, aMin_int, aInt_bl, aInt_int, aLen_tup, aLen_lst, aLen_scr, aLen_pair, aTuple_lst, aTuple_tup, aIsB_bl, aNotB_bl, aEq_int, aNe_int, startD, List.map_cons, List.map_nil, List.length_cons, List.length_nil, List.cons_append, List.nil_append, List.replicate_zero, List.replicate_succ, List.append_nil, List.getElem?_cons_zero, List.getElem?_cons_succ, List.set_cons_zero, List.set_cons_succ, Option.some.injEq, exists_eq_left', exists_eq_left, exists_eq', D.int.injEq, D.bl.injEq, D.tup.injEq, D.lst.injEq, D.pair.injEq, D.ref.injEq, List.cons.injEq, Nat.sub_self, Nat.zero_add, Nat.add_sub_cancel, seqI_tup, seqI_lst, seqOf_tup, seqOf_lst, tyN_tup, tyN_lst, tyN_int, tyN_bl, tyN_str, tyN_non, isi_tt, at_0, at_1, at_2, at_3, Option.map_some, true_and, and_true, if_true, Bool.false_eq_true, if_false, Bool.not_true, Bool.not_false, ↓reduceIte, Nat.reduceAdd, Nat.reduceSub, exists_and_left, and_assoc]))
namespace C
open SX
theorem sum_abs : ∀ (t : List Int) (b : Nat), (∀ x ∈ t, x.natAbs ≤ b) → t.sum.natAbs ≤ b * t.length
  | [], b, _ => by simp
  | x :: t, b, h => by
    have h1 := h x List.mem_cons_self
    have h2 := sum_abs t b fun y hy => h y (List.mem_cons_of_mem _ hy)
    rw [List.sum_cons, List.length_cons, Nat.mul_add, Nat.mul_one]
    omega
end C
end Mn

set_option Elab.async false
set_option linter.all false
set_option maxRecDepth 100000
set_option maxHeartbeats 4000000
set_option autoImplicit false
namespace Mn
open PySem PySem.Spec PyProof.Rows L2
variable [Tbs]
/-! sorted(d.keys()), the keys tuples of ints -/
section
variable {prog : Program} {w : World} {A : Around} {E : Value → Shared → Prop} {s : Shared} {T : String} {r d : Addr} {n : Nat} {P : Nat → Value → Prop} {OK : Heap → Prop}
end
section
variable {X : Cx} {o : Expr} {pos p apos cpos : Pos}
end
end Mn

set_option Elab.async false
set_option linter.all false
set_option maxRecDepth 100000
set_option maxHeartbeats 4000000
set_option autoImplicit false
namespace Mn
open PySem PySem.Spec PyProof.Rows L2 GenW
variable [Tbs]
/-! o[i], o an instance whose own __getitem__ may raise -/
structure ClGX (P : Program) (w : World) (K : PySem.W.Frag) (mg : Str → Option Value) (base : Heap) (c : Str) (k : Nat) (d : DSpX) : Prop where
  ex : ∃ C f, KF.cls ⟨K, w, Tbs.T⟩ c C ∧ Meth K C "__getitem__" f ∧ PySem.W.fnIn K f = true ∧ RnX P w K mg base k f d
section
variable {X : Cx} {o i : Expr} {to ti : DT} {pos : Pos} {k : Nat}
theorem own_runX {pins : List (Addr × Obj)} {σ : L2.St} {H : Hp} {s : Shared} {Q : VK} {us : List Value} {vs : List V} {f : Addr} {d : DSpX} (F : RnX X.prog X.w X.K X.mg X.base k f d) (room : Room (k + 1) X.A)
    (I : Inv X pins σ H s) (rv : Vals vs us) (h : lfSpX X.kf d vs H Q (WE X.wx σ)) : wpAny (model X.prog X.w) X.A.in1 (call (.ref f) us) (EP X pins σ Q) X.xe s := by
  refine wpAny_call (codeAny_mono (F X.A.in1 X.stack s H us vs Q (WE X.wx σ) room.in1 I.env0.in1 rv h) fun res s' hq => ?_)
  cases res with
  | error e => exact L2.passAt (takes_wx X) σ pins H s e s' I hq
  | ok fl => cases fl with
    | ret u => exact I.after hq
    | next => exact False.elim hq
    | brk => exact False.elim hq
    | cont => exact False.elim hq
def dGetO (tab : List (Str × DSpX)) (to ti : DT) : DTX := fun r m Q Ed => to r m fun o m1 => ti r m1 fun j m2 => ∃ a c dx fs d, o = .ref a ∧ m2 a = some (.ins c dx fs) ∧ (c, d) ∈ tab ∧ d [o, j] m2 Q Ed
theorem pdx_getO {tab : List (Str × DSpX)} (ho : PD X o to) (hi : PD X i ti) (hM : ∀ cd ∈ tab, ClGX X.prog X.w X.K X.mg X.base cd.1 k cd.2) (room : Room (k + 1) X.A)
    (hsl : ∀ (x : Addr) (j : Value), subscripted i true (.ref x) j = runValue (.builtin "lifetime.subscript" ⟨[.ref x, j], []⟩) := by exact fun _ _ => rfl) : PDX X (.Subscript o i pos) (dGetO tab to ti) := by
  refine ⟨fun pins s σ H Q I ⟨G, ro, m, Qd, Ed, hs, hr, q, w, wx⟩ => ?_⟩
  have h1 : lf X.kf to σ H fun y H1 => ∃ G1 m1 d1, Stp G H m G1 H1 m1 ∧ Rl X.kf G1 H1 m1 ∧ Rp X.kf G1 d1 y ∧ ti ro m1 fun j m2 => ∃ a c dx fs d, d1 = .ref a ∧ m2 a = some (.ins c dx fs) ∧ (c, d) ∈ tab ∧ d [d1, j] m2 Qd Ed :=
    ⟨G, ro, m, _, hs, hr, q, fun v H1 G1 m1 d s1 r1 h1 q1 => ⟨G1, m1, d, s1, r1, h1, q1⟩⟩
  refine Subscript_ (thn (PE.run ho pins s σ H _ I h1) fun u s1 ⟨y, H1, I1, ry, G1, m1, d1, st, rl, rd, q1⟩ => ?_)
  have h2 : lf X.kf ti σ H1 fun z H2 => ∃ G2 m2 d2, Stp G1 H1 m1 G2 H2 m2 ∧ Rl X.kf G2 H2 m2 ∧ Rp X.kf G2 d2 z ∧ ∃ a c dx fs d, d1 = .ref a ∧ m2 a = some (.ins c dx fs) ∧ (c, d) ∈ tab ∧ d [d1, d2] m2 Qd Ed :=
    ⟨G1, ro, m1, _, hs.same st.g, rl, q1, fun v H2 G2 m2 d s2 r2 h2 q2 => ⟨G2, m2, d, s2, r2, h2, q2⟩⟩
  refine thn (PE.run hi pins s1 σ H1 _ I1 h2) fun u2 s2 ⟨z, H2, I2, rz, G2, m2, d2, st2, rl2, rd2, a, c, dx, fs, d, e1, em, ht, q2⟩ => ?_
  subst e1
  cases rd
  obtain rfl : u = Value.ref a := ry
  obtain ⟨_, v, hv, C, vs, hC, ic, ev, rv⟩ := rl2.mu a _ em
  subst ev
  obtain ⟨C', f, hC', me, hfn, F⟩ := (hM _ ht).ex
  obtain rfl := cls_one hC hC'
  obtain ⟨mA, O, _, _, _, _⟩ := ins_get I2.hok hv
  obtain ⟨od, J, _⟩ := O.look
  obtain ⟨mf, Ff⟩ := I2.fr
  refine PySem.W.sub_K Ff I2.ok.mod.kin J me.at_ hfn me.fn (own_runX (vs := [.ref a, z]) F room I2 (.cons rfl (.cons rz .nil)) ?_) (hsl _ _)
  exact ⟨G2, [.ref a, d2], m2, Qd, Ed, .cons (.ref a) (.cons rd2 .nil), rl2, q2, (w.after st).after st2, (wx.after st).after st2⟩
/-! i in o, i not in o: the own __contains__ says a bool -/
def rInO (X : Cx) (k : Nat) (g : Bool → Bool) : R2 := fun x y H Q => ∃ a C dx fs f d, y = .ref a ∧ H a = some (.ins C dx fs) ∧ Meth X.K C "__contains__" f ∧ RnX X.prog X.w X.K X.mg X.base k f d ∧ lfSpX X.kf d [.ref a, x] H (fun v H1 => ∃ b : Bool, v = .bl b ∧ Q (.bl (g b)) H1) noE
theorem own_atQ {pins : List (Addr × Obj)} {σ : L2.St} {H : Hp} {s : Shared} {Q : VK} {us : List Value} {vs : List V} {f : Addr} {d : DSpX} {R E : Value → Shared → Prop} (F : RnX X.prog X.w X.K X.mg X.base k f d) (room : Room k X.A)
    (I : Inv X pins σ H s) (rv : Vals vs us) (h : lfSpX X.kf d vs H Q noE) (hR : ∀ v u H' s', Inv X pins σ H' s' → RelV v u → Q v H' → R u s') : wpAny (model X.prog X.w) X.A (call (.ref f) us) R E s := by
  refine wpAny_call (codeAny_mono (F X.A X.stack s H us vs Q noE room I.env0 rv h) fun r s' hq => ?_)
  cases r with
  | error er => obtain ⟨a, B, H', cls, d, _, _, _, _, _, _, _, z⟩ := hq; exact z.elim
  | ok fl =>
    cases fl with
    | ret u =>
      obtain ⟨v, H', I3, rv, q3⟩ := I.after hq
      exact hR v u H' s' I3 rv q3
    | next => exact False.elim hq
    | brk => exact False.elim hq
    | cont => exact False.elim hq
theorem op_inO (room : Room k X.A) : OpR X (compareOp .In) (rInO X k fun b => b) := by
  intro pins s σ H x y v u Q I rx ry ⟨a, C, dx, fs, f, d, e1, hu, me, F, sp⟩
  subst e1
  obtain rfl : u = Value.ref a := ry
  obtain ⟨mA, O, _, _, _, _⟩ := ins_get I.hok hu
  obtain ⟨od, J, _⟩ := O.look
  obtain ⟨mf, Ff⟩ := I.fr
  refine PySem.W.in_K Ff I.ok.mod.kin J me.at_ me.fn (own_atQ (vs := [.ref a, x]) F room I (.cons rfl (.cons rx .nil)) sp fun v' u' H' s' I' rv ⟨b, e, q⟩ => ?_)
  subst e
  obtain rfl : u' = Value.bool b := rv
  exact wpAny_truthy_bool ⟨.bl b, H', I', rfl, q⟩
theorem op_notInO (room : Room k X.A) : OpR X (compareOp .NotIn) (rInO X k fun b => !b) := by
  intro pins s σ H x y v u Q I rx ry ⟨a, C, dx, fs, f, d, e1, hu, me, F, sp⟩
  subst e1
  obtain rfl : u = Value.ref a := ry
  obtain ⟨mA, O, _, _, _, _⟩ := ins_get I.hok hu
  obtain ⟨od, J, _⟩ := O.look
  obtain ⟨mf, Ff⟩ := I.fr
  refine PySem.W.notIn_K Ff I.ok.mod.kin J me.at_ me.fn (own_atQ (vs := [.ref a, x]) F room I (.cons rfl (.cons rx .nil)) sp fun v' u' H' s' I' rv ⟨b, e, q⟩ => ?_)
  subst e
  obtain rfl : u' = Value.bool b := rv
  exact wpAny_truthy_bool ⟨.bl (!b), H', I', rfl, q⟩
def aInO (tab : List (Str × DSpX)) (g : Bool → Bool) : DR2 := fun x y m Q => ∃ a c dx fs d, y = .ref a ∧ m a = some (.ins c dx fs) ∧ (c, d) ∈ tab ∧ d [.ref a, x] m (fun v m2 => ∃ b : Bool, v = .bl b ∧ Q (.bl (g b)) m2) fun _ _ => False
theorem c2_inO {tab : List (Str × DSpX)} {g : Bool → Bool} (hM : ∀ cd ∈ tab, ClMX X.prog X.w X.K X.mg X.base cd.1 "__contains__" k cd.2) : C2 X.kf (rInO X k g) (aInO tab g) := by
  intro G H m x y dx' dy Q Qv r rx ry ⟨a, c, dx, fs, d, e1, em, ht, q⟩ w
  subst e1
  cases ry
  obtain ⟨_, v, hv, C, vs, hC, ic, ev, rv⟩ := r.mu a _ em
  subst ev
  obtain ⟨C', f, hC', me, F⟩ := (hM _ ht).ex
  obtain rfl := cls_one hC hC'
  exact ⟨a, _, _, _, f, d, rfl, hv, me, F, G, [.ref a, dx'], m, _, _, .cons (.ref a) (.cons rx .nil), r, q, fun v' H' G' m' d' st rl' rp ⟨b, e, q'⟩ => by
    subst e
    cases rp
    exact ⟨b, rfl, w _ _ _ _ _ st rl' (.bl _) q'⟩, fun _ _ _ _ _ _ _ _ _ z => z.elim⟩
end
end Mn

set_option linter.all false
set_option maxHeartbeats 4000000
set_option autoImplicit false
set_option maxRecDepth 100000
namespace Mn
open PySem L2
variable [Tbs]
local macro_rules | `(tactic| walk_at "d") => `(tactic| (try simp only [dIsE, dCountB, dAppendX, dNewE, xSetX, xRetX, xDropX, dCX, xRaise, xTryRet, dTupLcX, xStR, xStL, dSplit, dJoin, sStr, dLam, aStr, gTL, dLcR, aMulS, dMakeX, dMethX, dGetO, dCallX, dMeth0X, dNX, starX, xFld, fldPut, xNext, xSeq, xAsg, xRet, xRetF, xDrop, xIf, xPar, xPar3, xMatch, mGo, xFrz, xPut, xAug, xFor, dVar, dC, dOp, dTest, dChain, dAndV, dOrV, dNotV, dAnd, dOr, dNot, dIf, dNil, dCons, dTup, dLst, dLstM, dCB, dIsi, dLc, dLcM, dYes, wipeD, dSlice, oSome, oNone, aSl_tup, aSl_lst, dNeg, dStar, dNewD, dTupVals, dSortSet, dSortSetI, dDictZ, sKeys, dFld, dMeth, dCallO, dGetC, dNewC, dDc, dStep, dIndexTD, dCountL, dCountS, dExtend, dAppend, dFrz, dLc2, dCountT, dIndexT, sqf_tup, sqf_lst, sqf_pair, sSeq, sSeq_tup, sSeq_lst, sRg1, sRg2, sZip2, sZip3, sZip4, sEnum, gV, gN, gC, gT, tupOf_tup, tupOf_pair, aAdd_int, aAdd_tup, aAdd_lst, aSub_int, aMul_int, aDiv_int, aMod_int, aPow_int, aCmp_int, aIx_tup, aIx_lst, aIx_scr, aIx_pair, aMax_int, aMin_int, aInt_bl, aInt_int, aLen_tup, aLen_lst, aLen_scr, aLen_pair, aTuple_lst, aTuple_tup, aIsB_bl, aNotB_bl, aEq_int, aNe_int, startD, List.map_cons, List.map_nil, List.length_cons, List.length_nil, List.cons_append, List.nil_append, List.replicate_zero, List.replicate_succ, List.append_nil, List.getElem?_cons_zero, List.getElem?_cons_succ, List.set_cons_zero, List.set_cons_succ, Option.some.injEq, exists_eq_left', exists_eq_left, exists_eq', D.int.injEq, D.bl.injEq, D.tup.injEq, D.lst.injEq, D.pair.injEq, D.ref.injEq, List.cons.injEq, Nat.sub_self, Nat.zero_add, Nat.add_sub_cancel, seqI_tup, seqI_lst, seqOf_tup, seqOf_lst, tyN_tup, tyN_lst, tyN_int, tyN_bl, tyN_str, tyN_non, isi_tt, at_0, at_1, at_2, at_3, Option.map_some, true_and, and_true, if_true, Bool.false_eq_true, if_false, Bool.not_true, Bool.not_false, ↓reduceIte, Nat.reduceAdd, Nat.reduceSub, exists_and_left, and_assoc]))
namespace C
open SX
/-! sums of a table, added up by the law -/
end C
end Mn

set_option linter.all false
set_option maxHeartbeats 4000000
set_option autoImplicit false
set_option maxRecDepth 100000
namespace Mn
open PySem L2
variable [Tbs]
local macro_rules | `(tactic| walk_at "d") => `(tactic| (try simp only [dIsE, dCountB, dAppendX, dNewE, xSetX, xRetX, xDropX, dCX, xRaise, xTryRet, dTupLcX, xStR, xStL, dSplit, dJoin, sStr, dLam, aStr, gTL, dLcR, aMulS, dMakeX, dMethX, dGetO, dCallX, dMeth0X, dNX, starX, xFld, fldPut, xNext, xSeq, xAsg, xRet, xRetF, xDrop, xIf, xPar, xPar3, xMatch, mGo, xFrz, xPut, xAug, xFor, dVar, dC, dOp, dTest, dChain, dAndV, dOrV, dNotV, dAnd, dOr, dNot, dIf, dNil, dCons, dTup, dLst, dLstM, dCB, dIsi, dLc, dLcM, dYes, wipeD, dSlice, oSome, oNone, aSl_tup, aSl_lst, dNeg, dStar, dNewD, dTupVals, dSortSet, dSortSetI, dDictZ, sKeys, dFld, dMeth, dCallO, dGetC, dNewC, dDc, dStep, dIndexTD, dCountL, dCountS, dExtend, dAppend, dFrz, dLc2, dCountT, dIndexT, sqf_tup, sqf_lst, sqf_pair, sSeq, sSeq_tup, sSeq_lst, sRg1, sRg2, sZip2, sZip3, sZip4, sEnum, gV, gN, gC, gT, tupOf_tup, tupOf_pair, aAdd_int, aAdd_tup, aAdd_lst, aSub_int, aMul_int, aDiv_int, aMod_int, aPow_int, aCmp_int, aIx_tup, aIx_lst, aIx_scr, aIx_pair, aMax_int, aMin_int, aInt_bl, aInt_int, aLen_tup, aLen_lst, aLen_scr, aLen_pair, aTuple_lst, aTuple_tup, aIsB_bl, aNotB_bl, aEq_int, aNe_int, startD, List.map_cons, List.map_nil, List.length_cons, List.length_nil, List.cons_append, List.nil_append, List.replicate_zero, List.replicate_succ, List.append_nil, List.getElem?_cons_zero, List.getElem?_cons_succ, List.set_cons_zero, List.set_cons_succ, Option.some.injEq, exists_eq_left', exists_eq_left, exists_eq', D.int.injEq, D.bl.injEq, D.tup.injEq, D.lst.injEq, D.pair.injEq, D.ref.injEq, List.cons.injEq, Nat.sub_self, Nat.zero_add, Nat.add_sub_cancel, seqI_tup, seqI_lst, seqOf_tup, seqOf_lst, tyN_tup, tyN_lst, tyN_int, tyN_bl, tyN_str, tyN_non, isi_tt, at_0, at_1, at_2, at_3, Option.map_some, true_and, and_true, if_true, Bool.false_eq_true, if_false, Bool.not_true, Bool.not_false, ↓reduceIte, Nat.reduceAdd, Nat.reduceSub, exists_and_left, and_assoc]))
namespace C
open SX
theorem kn_ins {m : Mu} {a dx : Addr} {s : Sch} {t : List Int} {past : List (List Int)} (h : m a = some (cubM dx s t past)) : Kn m (.ref a) := fun x hx => ⟨a, by simpa [refs] using hx, by simp [tyN, h, cubM]⟩
theorem fin_first {s : Sch} (hs : SchV s) : finN s ∈ cellsOf s (finN s) ∧ plc s (finN s) = 0 := by
  have h7 := cellsN_head (ns := s.map At.n) fun k hk => by
    obtain ⟨b, hb, rfl⟩ := List.mem_map.mp hk
    exact (hs.2.2.1 b hb).1
  have h8 : (cellsOf s (finN s))[0]? = some (finN s) := by
    unfold cellsOf
    rw [szs_fin]
    rw [List.length_map] at h7
    exact h7
  exact ⟨List.mem_of_getElem? h8, by unfold plc; exact Mn.B.fstI_nd (by unfold cellsOf; exact cellsN_nodup _) h8⟩
def xdRo : XD := ⟨"RollupError", []⟩
def s_need_rollup : DSpX := fun ds m Q Ed => ∃ (s : Sch) (d : D), ds = [encS s, d] ∧ SchV s ∧ Kn m d ∧ (isRoll s d = true → Q .non m) ∧ (isRoll s d = false → Ed xdRo m)
theorem l_need_rollup : ∀ ds m Q Ed, s_need_rollup ds m Q Ed → ds.length = 2 := by rintro ds m Q Ed ⟨s, d, rfl, _⟩; rfl
def t_need_rollup : DS := (xIf (dNot (dTest (dCB s_is_rollup (dCons (dVar 0) (dCons (dVar 1) dNil))))) (xRaise "RollupError") xNext)
theorem v_need_rollup : BodyX 2 t_need_rollup s_need_rollup := by
  rintro ds m Q Ed ⟨s, d, rfl, hs, hk, h1, h2⟩
  unfold t_need_rollup
  walk_at "d"
  refine ⟨s, d, rfl, hs.2.1, hk, ?_⟩
  simp only [exists_eq_left', D.bl.injEq]
  cases h : isRoll s d with
  | true => simp only [Bool.not_true, Bool.false_eq_true, if_false]; exact ⟨_, fun _ _ e => e, h1 h⟩
  | false => simp only [Bool.not_false, if_true]; exact endX_ex (h2 h)
def s_Cube_getitem : DSpX := fun ds m Q Ed => ∃ (a dx : Addr) (s : Sch) (t : List Int) (past : List (List Int)) (d : D), ds = [.ref a, d] ∧ m a = some (cubM dx s t past) ∧ SchV s ∧ Kn m d ∧ (isRoll s d = false → Ed xdRo m) ∧ ∀ r, d = tD r → Roll s r → Q (iD (rolN s (finN s) t r)) m
theorem l_Cube_getitem : ∀ ds m Q Ed, s_Cube_getitem ds m Q Ed → ds.length = 2 := by rintro ds m Q Ed ⟨a, dx, s, t, past, d, rfl, _⟩; rfl
def t_Cube_getitem : DS := (xSeq (xDropX (dCX s_need_rollup (dCons (dFld ["Cube"] "own_scheme" (dVar 0)) (dCons (dVar 1) dNil))))
  (xRet (dCB s_sums_of (dCons (dFld ["Cube"] "own_scheme" (dVar 0)) (dCons (dFld ["Cube"] "kept" (dVar 0)) (dCons (dVar 1) dNil))))))

-- Cube.__eq__: attribute own_scheme
theorem v_Cube_getitem : BodyX 2 t_Cube_getitem s_Cube_getitem := by
  rintro ds m Q Ed ⟨a, dx, s, t, past, d, rfl, hm, hs, hk, h1, h2⟩
  unfold t_Cube_getitem
  walk_at "d"
  refine ⟨_, _, _, hm, List.mem_cons_self, _, rfl, s, d, rfl, hs, hk, fun h => ?_, fun h => endX_ex (h1 h)⟩
  obtain ⟨e, hr⟩ := isRoll_ex h
  refine ⟨_, _, _, hm, List.mem_cons_self, _, rfl, _, _, _, hm, List.mem_cons_self, _, rfl, s, t, natL d, by rw [← e], hs, hr, endX_rt (h2 _ e hr)⟩
end C
end Mn

set_option Elab.async false
set_option linter.all false
set_option maxRecDepth 100000
set_option maxHeartbeats 4000000
set_option autoImplicit false
namespace Mn
open PySem PySem.Spec PyProof.Rows L2
variable [Tbs]
/-! xs[::-1], xs a list -/
section
variable {X : Cx}
end
end Mn

set_option linter.all false
set_option maxHeartbeats 4000000
set_option autoImplicit false
set_option maxRecDepth 100000
namespace Mn
open PySem L2
variable [Tbs]
local macro_rules | `(tactic| walk_at "d") => `(tactic| (try simp only [dIsE, dCountB, dAppendX, dNewE, xSetX, xRetX, xDropX, dCX, xRaise, xTryRet, dTupLcX, xStR, xStL, dSplit, dJoin, sStr, dLam, aStr, gTL, dLcR, aMulS, dMakeX, dMethX, dGetO, dCallX, dMeth0X, dNX, starX, xFld, fldPut, xNext, xSeq, xAsg, xRet, xRetF, xDrop, xIf, xPar, xPar3, xMatch, mGo, xFrz, xPut, xAug, xFor, dVar, dC, dOp, dTest, dChain, dAndV, dOrV, dNotV, dAnd, dOr, dNot, dIf, dNil, dCons, dTup, dLst, dLstM, dCB, dIsi, dLc, dLcM, dYes, wipeD, dSlice, oSome, oNone, aSl_tup, aSl_lst, dNeg, dStar, dNewD, dTupVals, dSortSet, dSortSetI, dDictZ, sKeys, dFld, dMeth, dCallO, dGetC, dNewC, dDc, dStep, dIndexTD, dCountL, dCountS, dExtend, dAppend, dFrz, dLc2, dCountT, dIndexT, sqf_tup, sqf_lst, sqf_pair, sSeq, sSeq_tup, sSeq_lst, sRg1, sRg2, sZip2, sZip3, sZip4, sEnum, gV, gN, gC, gT, tupOf_tup, tupOf_pair, aAdd_int, aAdd_tup, aAdd_lst, aSub_int, aMul_int, aDiv_int, aMod_int, aPow_int, aCmp_int, aIx_tup, aIx_lst, aIx_scr, aIx_pair, aMax_int, aMin_int, aInt_bl, aInt_int, aLen_tup, aLen_lst, aLen_scr, aLen_pair, aTuple_lst, aTuple_tup, aIsB_bl, aNotB_bl, aEq_int, aNe_int, startD, List.map_cons, List.map_nil, List.length_cons, List.length_nil, List.cons_append, List.nil_append, List.replicate_zero, List.replicate_succ, List.append_nil, List.getElem?_cons_zero, List.getElem?_cons_succ, List.set_cons_zero, List.set_cons_succ, Option.some.injEq, exists_eq_left', exists_eq_left, exists_eq', D.int.injEq, D.bl.injEq, D.tup.injEq, D.lst.injEq, D.pair.injEq, D.ref.injEq, List.cons.injEq, Nat.sub_self, Nat.zero_add, Nat.add_sub_cancel, seqI_tup, seqI_lst, seqOf_tup, seqOf_lst, tyN_tup, tyN_lst, tyN_int, tyN_bl, tyN_str, tyN_non, isi_tt, at_0, at_1, at_2, at_3, Option.map_some, true_and, and_true, if_true, Bool.false_eq_true, if_false, Bool.not_true, Bool.not_false, ↓reduceIte, Nat.reduceAdd, Nat.reduceSub, exists_and_left, and_assoc]))
namespace C
open SX
/-! cubes: tables assigned, taken back, tried -/
def s_Cube_assign_table : DSpX := fun ds m Q Ed => ∃ (a dx : Addr) (s : Sch) (t : List Int) (past : List (List Int)) (d : D), ds = [.ref a, d] ∧ m a = some (cubM dx s t past) ∧ SchV s ∧ past.length ≤ 900 ∧ Kn m d ∧ (isAm s (finN s) d = false → Ed xdTb m) ∧ ∀ u : List Int, d = iD u → u.length = prodN (s.map At.n) → Q .non (up m a (cubM dx s u (past ++ [t])))
theorem l_Cube_assign_table : ∀ ds m Q Ed, s_Cube_assign_table ds m Q Ed → ds.length = 2 := by rintro ds m Q Ed ⟨a, dx, s, t, past, d, rfl, _⟩; rfl
def t_Cube_assign_table : DS := (xSeq (xDropX (dCX s_need_table (dCons (dFld ["Cube"] "own_scheme" (dVar 0)) (dCons (dVar 1) dNil))))
  (xDropX (dMethX [("Cube", s_Cube_change)] "change" (dVar 0) (dCons (dVar 1) dNil))))
theorem v_Cube_assign_table : BodyX 2 t_Cube_assign_table s_Cube_assign_table := by
  rintro ds m Q Ed ⟨a, dx, s, t, past, d, rfl, hm, hs, hp, hk, h1, h2⟩
  unfold t_Cube_assign_table
  walk_at "d"
  refine ⟨_, _, _, hm, List.mem_cons_self, _, rfl, s, d, rfl, hs, hk, fun h => ?_, fun h => endX_ex (h1 h)⟩
  obtain ⟨u, rfl, hu⟩ := isAm_ex h
  refine ⟨_, _, _, hm, s_Cube_change, List.mem_cons_self, rfl, a, dx, s, t, u, past, rfl, hm, hp, ?_⟩
  exact ⟨_, fun _ _ e => e, h2 u rfl (by rw [hu, szs_fin])⟩
end C
end Mn

set_option Elab.async false
set_option linter.all false
set_option maxRecDepth 100000
set_option maxHeartbeats 4000000
set_option autoImplicit false
namespace Mn
open PySem PySem.Spec PyProof.Rows L2 GenW
variable [Tbs]
/-! static methods and class methods, read off the class's name -/
structure ClSM (P : Program) (w : World) (K : PySem.W.Frag) (mg : Str → Option Value) (base : Heap) (c x : Str) (k : Nat) (d : DSpX) : Prop where
  ex : ∃ C p f, mg c = some (.ref C) ∧ ClX.CRead K C (.type "type") ∧ PySem.W.findCls K (.ref C) (.type "type") x = some (.get (.builtin "staticmethod.__get__") (.ref p) .none (.ref C)) ∧ (∃ rest, PySem.W.recIn K p "staticmethod" = some (.ref f :: rest)) ∧ PySem.W.keepIn K (.ref f) = true ∧ RnX P w K mg base k f d
structure ClCM (P : Program) (w : World) (K : PySem.W.Frag) (mg : Str → Option Value) (base : Heap) (c x : Str) (k : Nat) (d : Addr → DSpX) : Prop where
  ex : ∃ C p f, mg c = some (.ref C) ∧ ClX.CRead K C (.type "type") ∧ ClX.CMet K C (.type "type") x p f ∧ RnX P w K mg base k f (d C)
def dCM (d : Addr → DSpX) (tr : DA) : DTX := fun r m Q Ed => tr r m fun ds m1 => ∀ C, d C (.ref C :: ds) m1 Q Ed
def dMakeV (c : Str) (d : DSpX) (to : DT) (ca : Addr) (tr : DA) : DTX := fun r m Q Ed => to r m fun x m0 => x = .ref ca ∧ tr r m0 fun ds m1 => ∀ a dx, m1 a = none → m1 dx = none → dx ≠ a → d (.ref a :: ds) (up (up m1 dx (.own a)) a (.ins c dx [])) (fun v m2 => v = .non ∧ Q (.ref a) m2) (lessE Ed)
section
variable {X : Cx} {e : Expr} {es : List Expr} {tr : DA} {to : DT} {o : Expr} {p pos apos : Pos} {k : Nat}
end
end Mn

set_option Elab.async false
set_option linter.all false
set_option maxRecDepth 100000
set_option maxHeartbeats 4000000
set_option autoImplicit false
namespace PySem.W
open PySem PySem.Calls PyProof.Rows
section
variable {prog : Program} {w : World} {A : Around} {E : Value → Shared → Prop} {s : Shared} {K : Frag} {x C L f : Addr} {h₀ : Heap} {m : Str → Option Value} {ox : Obj} {od : Option Obj} {T : String}
end
end PySem.W
namespace Mn
open PySem PySem.Spec PyProof.Rows L2 GenW
variable [Tbs]
/-! own operators -/
def isTyV : Value → Bool
  | .type _ => true
  | _ => false
theorem mro_tys : (tyNs.all fun T => (fastBuiltinMro T).any fun l => l.all isTyV) = true := by decide +kernel
theorem sub_ty {K : PySem.W.Frag} {T : String} (hT : T ∈ tyNs) (C : Addr) : PySem.W.subIn K (.type T) (.ref C) = some false := by
  have h := List.all_eq_true.mp mro_tys T hT
  cases e : fastBuiltinMro T with
  | none => rw [e] at h; cases h
  | some l =>
    rw [e] at h
    show (fastBuiltinMro T).map _ = _
    rw [e]
    have : l.contains (Value.ref C) = false := by
      rw [Bool.eq_false_iff]
      intro z
      have hm := List.contains_iff_mem.mp z
      have := List.all_eq_true.mp (show l.all isTyV = true from h) _ hm
      cases this
    show some (l.contains (Value.ref C)) = _
    rw [this]
section
variable {X : Cx}
/-- a built-in thing's type, on the heap -/
theorem ty_looks {pins : List (Addr × Obj)} {σ : L2.St} {G H : Hp} {m : Mu} {s : Shared} {d : D} {v : V} {u : Value} {t : String} (I : Inv X pins σ H s) (r : Rl X.kf G H m) (h : Rp X.kf G d v) (rv : RelV v u) (e : tyN d m = some t) (ne : t ≠ "object") :
    t ∈ tyNs ∧ PySem.W.Looks (model X.prog X.w) s.heap (typeOf u) (.type t) := by
  have heap : ∀ {a : Addr} {o : Obj} {T : String}, s.heap.get? a = some o → o.cls = .type T → PySem.W.Looks (model X.prog X.w) s.heap (typeOf (.ref a)) (.type T) := fun {a o T} ho hc => by
    have z : PySem.W.Looks (model X.prog X.w) s.heap (typeOf (.ref a)) o.cls := (PySem.W.Looks.ld ho).andThen .now
    rw [hc] at z
    exact z
  have lst : ∀ {a : Addr} {vs : List V}, SqL X.K H a vs → PySem.W.Looks (model X.prog X.w) s.heap (typeOf (.ref a)) (.type "list") := fun {a vs} hq => by
    obtain ⟨its, _, pl, _⟩ := I.list hq
    obtain ⟨o, ho, hc, _⟩ := pl.isList
    exact heap ho hc
  have dct : ∀ {a : Addr} {xs : List (NestedKey × Addr × V)}, (H a = some (.ext (dictAt X.w a xs)) ∨ ∃ o, H a = some (.frz o (.ext (dictAt X.w a xs)))) → PySem.W.Looks (model X.prog X.w) s.heap (typeOf (.ref a)) (.type "dict") := fun {a xs} hq => by
    obtain ⟨vs, _, o, es, ep, ho, hx, hd, he⟩ : dictAt X.w a xs s.heap := by
      rcases hq with hq | ⟨o, hq⟩
      · exact (I.hok a _ hq).1
      · exact (I.hok a _ hq).2.1
    exact heap ho hx.1
  cases h with
  | non => cases e; cases rv; exact ⟨by decide, .of_pure rfl⟩
  | bl b => cases e; cases rv; exact ⟨by decide, .of_pure rfl⟩
  | int i => cases e; obtain ⟨t, rfl⟩ := rv; exact ⟨by decide, .of_pure rfl⟩
  | str x => cases e; obtain ⟨t, rfl⟩ := rv; exact ⟨by decide, .of_pure rfl⟩
  | tup hq hr z =>
    cases e
    cases rv
    obtain ⟨its, _, ht, _⟩ := I.tuple (hq.sq r.sub X.K)
    obtain ⟨o, ho, hc, _⟩ := ht
    exact ⟨by decide, heap ho hc⟩
  | pair hq hr z => cases e
  | dct h1 => cases e; cases rv; exact ⟨by decide, dct (.inr ⟨_, r.sub _ _ h1⟩)⟩
  | lst hq hr z => cases e; cases rv; exact ⟨by decide, lst (SqL.of (r.sub _ _ hq))⟩
  | scr hq hr z => cases e; cases rv; exact ⟨by decide, lst (r.sub.seq hq)⟩
  | ref a =>
    cases rv
    simp only [tyN] at e
    cases em : m a with
    | none => rw [em] at e; cases e
    | some o =>
      rw [em] at e
      obtain ⟨_, w, hw, ru⟩ := r.mu a _ em
      cases o with
      | lst es =>
        cases e
        obtain ⟨vs, e1, _⟩ := ru
        subst e1
        exact ⟨by decide, lst (SqL.of hw)⟩
      | dN kvs =>
        cases e
        obtain ⟨xs, e1, _⟩ := ru
        subst e1
        exact ⟨by decide, dct (.inl hw)⟩
      | dE =>
        cases e
        have e1 : w = .dT [] := ru
        subst e1
        obtain ⟨_, _, xs, _, o, es, ep, ho, hx, _⟩ := dt_of I.hok hw
        exact ⟨by decide, heap ho hx.1⟩
      | ins c dx fs => cases e; exact absurd rfl ne
      | own y => cases e
theorem ins_inst {pins : List (Addr × Obj)} {σ : L2.St} {G H : Hp} {m : Mu} {s : Shared} {a dx : Addr} {c : Str} {fs : List (Str × D)} (I : Inv X pins σ H s) (r : Rl X.kf G H m) (e : m a = some (.ins c dx fs)) : ∃ C, X.kf.cls c C ∧ ∃ vs, H a = some (.ins C dx ((fs.map (·.1)).zip vs)) ∧ ∃ ox od, PySem.W.InstAt s.heap a ox C od := by
  obtain ⟨_, v, hv, C, vs, hC, ic, ev, rv⟩ := r.mu a _ e
  subst ev
  obtain ⟨mA, O, _, _, _, _⟩ := ins_get I.hok hv
  obtain ⟨od, J, _⟩ := O.look
  exact ⟨C, hC, vs, hv, _, od, J⟩
end
/-- what may stand to the right -/
def rhsOk (c : Str) (y : D) (m : Mu) : Prop := (∃ t, tyN y m = some t ∧ t ≠ "object") ∨ ∃ b dx fs, y = .ref b ∧ m b = some (.ins c dx fs)
structure ClBX (P : Program) (w : World) (K : PySem.W.Frag) (mg : Str → Option Value) (base : Heap) (c : Str) (nm : String) (k : Nat) (d : DSpX) : Prop where
  ex : ∃ C f, KF.cls ⟨K, w, Tbs.T⟩ c C ∧ Meth K C (PySem.dunder nm) f ∧ PySem.W.selfFirst K C = true ∧ PySem.W.findIn K (.ref C) (dunderR nm) = some none ∧ RnX P w K mg base k f d
def dBinX (tab : List (Str × DSpX)) (ta tb : DT) : DTX := fun r m Q Ed => ta r m fun x m1 => tb r m1 fun y m2 => ∃ a c dx fs d, x = .ref a ∧ m2 a = some (.ins c dx fs) ∧ (c, d) ∈ tab ∧ rhsOk c y m2 ∧ d [x, y] m2 Q Ed
section
variable {X : Cx} {a b : Expr} {ta tb : DT} {pos : Pos} {k : Nat}
end
end Mn

set_option Elab.async false
set_option linter.all false
set_option maxRecDepth 100000
set_option maxHeartbeats 4000000
set_option autoImplicit false
namespace PySem.W
open PySem PySem.Calls PyProof.Rows
theorem bind_ne (self : Value) : bindSpecial (.builtin "object.__ne__") self = pure (.builtin "object.__ne__", [self]) := by first | rfl | kernel_rfl
section
variable {prog : Program} {w : World} {A : Around} {E : Value → Shared → Prop} {s : Shared} {K : Frag} {x C L f : Addr} {h₀ : Heap} {m : Str → Option Value} {ox : Obj} {od : Option Obj} {b tb : Value}
/-- x != b by the own __eq__ -/
theorem ne_K {Q : Value → Shared → Prop} (hu : A.units + 1 < cLine) (F : Fr h₀ L s.heap m) (X₀ : K.In h₀) (I : InstAt s.heap x ox C od) (hb : Looks (model prog w) s.heap (typeOf b) tb) (hn : notFirst K C tb = true)
    (hne : findIn K (.ref C) "__ne__" = some (some (.builtin "object.__ne__"))) (hm : mroIn K C (.type "object") = some true) (hs : findIn K (.ref C) "__eq__" = some (some (.ref f))) (hf : isFn K (.ref f) = true)
    (h : wpAny (model prog w) A.in1 (call (.ref f) [.ref x, b]) (fun v s' => ∃ r, v = .bool r ∧ Q (.bool (!r)) s') E s) : wpAny (model prog w) A (richCompare .NotEq (.ref x) b) Q E s := by
  have X := X₀.keeps F.keep
  have body : ∀ {R : Fin → Shared → Prop}, (∀ r s', Q (.bool (!r)) s' → R (.done (.ret (.bool (!r)))) s') → wpAny (model prog w) A.in1 (Builtin.«object.__ne__» ⟨[.ref x, b], []⟩) R E s := fun {R} hR => by
    unfold Builtin.«object.__ne__»
    have hu1 : A.in1.units < cLine := hu
    repeat (first
      | with_reducible refine wpAny_cRoomFor hu1 ?_
      | (refine wpAny_bind (m := callSpecialIfBound? (.ref x) (Str.ofString "__eq__") [b])
          (ifBound_K X I hs hf (wpAny_mono h (fun r s' hr => by
            obtain ⟨q, rfl, hq⟩ := hr
            have hq := hR _ _ hq
            repeat (first | exact hq | exact wpAny_pure hq | exact wpAny_truthy_bool hq | (refine wpAny_bind (m := truthy (.bool _)) (wpAny_truthy_bool ?_)) | wp_step)) fun _ _ e => e)))
      | wp_step)
  have one : wpAny (model prog w) A (tryCompare (.ref x) "__ne__" b) (fun r s' => ∃ v, r = some v ∧ Q v s') E s := by
    unfold tryCompare
    simp only [callSpecialIfBound?, bindSpecialIfBound?]
    refine wpAny_bind (wpAny_holding (wpAny_bind (wpAny_bind (wpAny_bind (I.type.here ((looks_findIn X hne).here ?_))))))
    simp only [bind_ne]
    refine wpAny_bind (wpAny_askSetting (wpAny_ite ?_))
    have fin : wpAny (model prog w) A (call (.builtin "object.__ne__") ([.ref x] ++ [b]) >>= fun v => pure (some v)) (fun r s' => wpAny (model prog w) A (match r with
        | some .notImplemented | none => pure none
        | some v => pure (some v)) (fun r s' => ∃ v, r = some v ∧ Q v s') E s') E s := by
      refine wpAny_bind (wpAny_call (codeAny_call_builtin (by first | rfl | kernel_rfl | decide +kernel) PySem.F.cmpEntry_ne
        (check_slot PySem.F.cmpKind_ne PySem.F.cmpSplit_ne ((I.type (M := model prog w)).andThen (f := fun t => isSubtype t (.type "object")) (looks_subIn X (t := .ref C) hm)) (PySem.F.cmpArgs_ne _ _) (body fun r s' hq => ?_))))
      exact wpAny_pure (wpAny_pure ⟨_, rfl, hq⟩)
    split
    · exact wpAny_bind (wpAny_pure (wpAny_pure fin))
    · exact wpAny_tryCatch (wpAny_bind (wpAny_pure (wpAny_pure fin)))
  unfold richCompare
  simp only [oneThing_ref]
  refine wpAny_holding (wpAny_bind (wpAny_cRoomFor (Nat.lt_of_succ_lt hu) ?_))
  refine wpAny_bind (I.type.here (wpAny_bind (hb.here ?_)))
  split
  · rename_i q
    have e : subIn K tb (.ref C) = some false := by
      rcases Bool.or_eq_true_iff.mp hn with e | e
      · rw [beq_iff_eq.mp e] at q; simp at q
      · exact beq_iff_eq.mp e
    refine wpAny_bind ((looks_subIn X e).here ?_)
    simp only [Bool.false_eq_true, if_false]
    refine wpAny_bind (wpAny_mono one (fun r s' z => ?_) fun _ _ e => e)
    obtain ⟨v, rfl, hq⟩ := z
    exact wpAny_pure hq
  · refine wpAny_bind (wpAny_pure ?_)
    simp only [Bool.false_eq_true, if_false]
    refine wpAny_bind (wpAny_mono one (fun r s' z => ?_) fun _ _ e => e)
    obtain ⟨v, rfl, hq⟩ := z
    exact wpAny_pure hq
end
end PySem.W
namespace Mn
open PySem PySem.Spec PyProof.Rows L2 GenW
variable [Tbs]
/-! ==, != by an own __eq__ -/
structure ClEX (P : Program) (w : World) (K : PySem.W.Frag) (mg : Str → Option Value) (base : Heap) (c : Str) (k : Nat) (d : DSpX) : Prop where
  ex : ∃ C f, KF.cls ⟨K, w, Tbs.T⟩ c C ∧ Meth K C "__eq__" f ∧ PySem.W.findIn K (.ref C) "__ne__" = some (some (.builtin "object.__ne__")) ∧ PySem.W.mroIn K C (.type "object") = some true ∧ RnX P w K mg base k f d
section
variable {X : Cx} {k : Nat}
/-- the right side y of the instance at a, on the abstract heap -/
def rEqO (X : Cx) (k : Nat) (g : Bool → Bool) : R2 := fun x y H Q => ∃ G m a c dx fs d dy, x = .ref a ∧ Rl X.kf G H m ∧ m a = some (.ins c dx fs) ∧ ClEX X.prog X.w X.K X.mg X.base c k d ∧ Rp X.kf G dy y ∧ rhsOk c dy m ∧
  lfSpX X.kf d [.ref a, y] H (fun v H1 => ∃ b : Bool, v = .bl b ∧ Q (.bl (g b)) H1) noE
theorem notFirst_of {K : PySem.W.Frag} {C : Addr} {tb : Value} (h : tb = .ref C ∨ PySem.W.subIn K tb (.ref C) = some false) : PySem.W.notFirst K C tb = true := by
  unfold PySem.W.notFirst
  rcases h with h | h
  · rw [h]; simp
  · rw [h]; simp
theorem rhs_looks {pins : List (Addr × Obj)} {σ : L2.St} {G H : Hp} {m : Mu} {s : Shared} {c : Str} {C : Addr} {dy : D} {y : V} {u : Value} (I : Inv X pins σ H s) (rl : Rl X.kf G H m) (rd : Rp X.kf G dy y) (ry : RelV y u) (hC : X.kf.cls c C) (h : rhsOk c dy m) :
    ∃ tb, PySem.W.Looks (model X.prog X.w) s.heap (typeOf u) tb ∧ PySem.W.notFirst X.K C tb = true := by
  rcases h with ⟨t, et, net⟩ | ⟨b2, dy2, gs, e2, em2⟩
  · obtain ⟨ht2, L⟩ := ty_looks I rl rd ry et net
    exact ⟨_, L, notFirst_of (.inr (sub_ty ht2 _))⟩
  · subst e2
    cases rd
    obtain rfl : u = Value.ref b2 := ry
    obtain ⟨C2, hC2, vs2, hv2, ox2, od2, J2⟩ := ins_inst I rl em2
    obtain rfl := cls_one hC hC2
    exact ⟨_, J2.type, notFirst_of (.inl rfl)⟩
theorem op_eqO (room : Room k X.A) : OpR X (compareOp .Eq) (rEqO X k fun b => b) := by
  intro pins s σ H x y v u Q I rx ry ⟨G, m, a, c, dx, fs, d, dy, e1, rl, em, CE, rd, hrh, sp⟩
  subst e1
  obtain rfl : v = Value.ref a := rx
  obtain ⟨C, hC, vs, hv, ox, od, J⟩ := ins_inst I rl em
  obtain ⟨C', f, hC', me, hne, hmr, F⟩ := CE.ex
  obtain rfl := cls_one hC hC'
  obtain ⟨mf, Ff⟩ := I.fr
  obtain ⟨tb, L, nf⟩ := rhs_looks I rl rd ry hC hrh
  show wpAny _ _ (richCompare .Eq (.ref a) u) _ _ _
  refine PySem.W.cmp_K (op := .Eq) room.units0 Ff I.ok.mod.kin J L nf me.at_ me.fn (own_atQ (vs := [.ref a, y]) F room I (.cons rfl (.cons ry .nil)) sp fun v' u' H' s' I' rv ⟨b, e, q⟩ => ?_)
  subst e
  obtain rfl : u' = Value.bool b := rv
  exact ⟨.bl b, H', I', rfl, q⟩
theorem own_in1 {pins : List (Addr × Obj)} {σ : L2.St} {H : Hp} {s : Shared} {Q : VK} {us : List Value} {vs : List V} {f : Addr} {d : DSpX} {R E : Value → Shared → Prop} (F : RnX X.prog X.w X.K X.mg X.base k f d) (room : Room (k + 1) X.A)
    (I : Inv X pins σ H s) (rv : Vals vs us) (h : lfSpX X.kf d vs H Q noE) (hR : ∀ v u H' s', Inv X pins σ H' s' → RelV v u → Q v H' → R u s') : wpAny (model X.prog X.w) X.A.in1 (call (.ref f) us) R E s := by
  refine wpAny_call (codeAny_mono (F X.A.in1 X.stack s H us vs Q noE room.in1 I.env0.in1 rv h) fun r s' hq => ?_)
  cases r with
  | error er => obtain ⟨a, B, H', cls, d, _, _, _, _, _, _, _, z⟩ := hq; exact z.elim
  | ok fl =>
    cases fl with
    | ret u =>
      obtain ⟨v, H', I3, rv, q3⟩ := I.after hq
      exact hR v u H' s' I3 rv q3
    | next => exact False.elim hq
    | brk => exact False.elim hq
    | cont => exact False.elim hq
theorem op_neO (room : Room (k + 1) X.A) : OpR X (compareOp .NotEq) (rEqO X k fun b => !b) := by
  intro pins s σ H x y v u Q I rx ry ⟨G, m, a, c, dx, fs, d, dy, e1, rl, em, CE, rd, hrh, sp⟩
  subst e1
  obtain rfl : v = Value.ref a := rx
  obtain ⟨C, hC, vs, hv, ox, od, J⟩ := ins_inst I rl em
  obtain ⟨C', f, hC', me, hne, hmr, F⟩ := CE.ex
  obtain rfl := cls_one hC hC'
  obtain ⟨mf, Ff⟩ := I.fr
  obtain ⟨tb, L, nf⟩ := rhs_looks I rl rd ry hC hrh
  show wpAny _ _ (richCompare .NotEq (.ref a) u) _ _ _
  refine PySem.W.ne_K (by have := room.un; omega) Ff I.ok.mod.kin J L nf hne hmr me.at_ me.fn (own_in1 (vs := [.ref a, y]) F room I (.cons rfl (.cons ry .nil)) sp fun v' u' H' s' I' rv ⟨b, e, q⟩ => ?_)
  subst e
  obtain rfl : u' = Value.bool b := rv
  exact ⟨b, rfl, .bl (!b), H', I', rfl, q⟩
def aEqO (tab : List (Str × DSpX)) (g : Bool → Bool) : DR2 := fun x y m Q => ∃ a c dx fs d, x = .ref a ∧ m a = some (.ins c dx fs) ∧ (c, d) ∈ tab ∧ rhsOk c y m ∧ d [.ref a, y] m (fun v m2 => ∃ b : Bool, v = .bl b ∧ Q (.bl (g b)) m2) fun _ _ => False
theorem c2_eqO {tab : List (Str × DSpX)} {g : Bool → Bool} (hM : ∀ cd ∈ tab, ClEX X.prog X.w X.K X.mg X.base cd.1 k cd.2) : C2 X.kf (rEqO X k g) (aEqO tab g) := by
  intro G H m x y dx' dy Q Qv r rx ry ⟨a, c, dx, fs, d, e1, em, ht, hrh, q⟩ w
  subst e1
  cases rx
  exact ⟨G, m, a, c, dx, fs, d, dy, rfl, r, em, hM _ ht, ry, hrh, G, [.ref a, dy], m, _, _, .cons (.ref a) (.cons ry .nil), r, q, fun v' H' G' m' d' st rl' rp ⟨b, e, q'⟩ => by
    subst e
    cases rp
    exact ⟨b, rfl, w _ _ _ _ _ st rl' (.bl _) q'⟩, fun _ _ _ _ _ _ _ _ _ z => z.elim⟩
end
/-! isinstance of own classes -/
structure IsC (w : World) (K : PySem.W.Frag) (mg : Str → Option Value) (c : Str) (tab : List (Str × Bool)) : Prop where
  ex : ∃ C, mg c = some (.ref C) ∧ KF.cls ⟨K, w, Tbs.T⟩ c C ∧ clsB K C = true ∧ ∀ p ∈ tab, ∀ C', KF.cls ⟨K, w, Tbs.T⟩ p.1 C' → PySem.W.kitOne K (.ref C') (.ref C) = some p.2
theorem kit_own {K : PySem.W.Frag} {C : Addr} {T : String} (hT : T ∈ tyNs) (h : clsB K C = true) : PySem.W.kitOne K (.type T) (.ref C) = some false := by
  unfold PySem.W.kitOne PySem.W.kitCls
  unfold clsB at h
  rw [if_neg (by simp)]
  simp only [h, if_true]
  exact sub_ty hT C
def isC (tab : List (Str × Bool)) (d : D) (m : Mu) (P : Bool → Prop) : Prop := (∃ t, tyN d m = some t ∧ t ≠ "object" ∧ P false) ∨ ∃ a c dx fs b, d = .ref a ∧ m a = some (.ins c dx fs) ∧ (c, b) ∈ tab ∧ P b
def dIsC (tab : List (Str × Bool)) (ta : DT) : DT := fun r m Q => ta r m fun d m1 => isC tab d m1 fun b => Q (.bl b) m1
theorem ty_isT {K : KF} {G H : Hp} {m : Mu} {d : D} {v : V} {t : String} (r : Rl K G H m) (h : Rp K G d v) (e : tyN d m = some t) (ne : t ≠ "object") : TyD K H v (.type t) ∧ t ∈ tyNs := by
  cases h with
  | non => cases e; exact ⟨.x (.base .non), by decide⟩
  | bl b => cases e; exact ⟨.x (.base (.bl b)), by decide⟩
  | int i => cases e; exact ⟨.x (.base (.int i)), by decide⟩
  | str x => cases e; exact ⟨.x (.base (.str x)), by decide⟩
  | tup hq hr z => cases e; obtain ⟨o, _, hq⟩ := hq; exact ⟨.x (.fTuple (r.sub _ _ hq)), by decide⟩
  | pair hq hr z => cases e
  | dct h1 => cases e; exact ⟨.d (.inr ⟨_, r.sub _ _ h1⟩), by decide⟩
  | lst hq hr z => cases e; exact ⟨.x (.base (.lst (r.sub _ _ hq))), by decide⟩
  | scr hq hr z =>
    cases e
    rcases r.sub.seq hq with (h | ⟨o, h⟩) | ⟨o, its, n, h1, h2, _⟩
    · exact ⟨.x (.base (.lst h)), by decide⟩
    · exact ⟨.x (.base (.frz h)), by decide⟩
    · exact ⟨.x (.kList h1 h2), by decide⟩
  | ref a =>
    simp only [tyN] at e
    cases em : m a with
    | none => rw [em] at e; cases e
    | some o =>
      rw [em] at e
      obtain ⟨_, u, hu, ru⟩ := r.mu a _ em
      cases o with
      | lst es =>
        cases e
        obtain ⟨vs, e1, _⟩ := ru
        subst e1
        exact ⟨.x (.base (.lst hu)), by decide⟩
      | dN kvs =>
        cases e
        obtain ⟨xs, e1, _⟩ := ru
        subst e1
        exact ⟨.d (.inl hu), by decide⟩
      | dE =>
        cases e
        have e1 : u = .dT [] := ru
        subst e1
        exact ⟨.x (.base (.dT hu)), by decide⟩
      | ins c dx fs => cases e; exact absurd rfl ne
      | own y => cases e
section
variable {X : Cx} {a : Expr} {ta : DT} {pos p p2 : Pos}
theorem pd_isC {c : Str} {tab : List (Str × Bool)} (ha : PD X a ta) (hg : Gl X "isinstance") (hm : X.mg "isinstance" = none) (hg2 : Gl X c) (C : IsC X.w X.K X.mg c tab) (hdb : (c == ("__debug__" : Str)) = false := by decide)
    (hs : starEach [a, .Name c p2] X.env = (false, eval a X.env) :: starEach [.Name c p2] X.env := by rfl) :
    PD X (.Call (.Name "isinstance" p) [a, .Name c p2] [] pos) (dIsC tab ta) := by
  obtain ⟨Ca, hmC, hcl, hB, hT⟩ := C.ex
  refine peM (pe_callB call_isiD hg hm (by decide +kernel) (pa_cons ha (pa_cons (pe_glob (v := .ref Ca) hg2 hmC rfl hdb) pa_nil) hs) (by decide) (by decide) hs) fun s H Q ⟨G, ro, m, Qd, hs, hr, q, w⟩ => ?_
  refine ⟨G, ro, m, _, hs, hr, q, fun v H1 G1 m1 d s1 r1 h1 q1 => ?_⟩
  rcases q1 with ⟨t, e, ne, q1⟩ | ⟨a2, c2, dx, fs, b, e, em, ht, q1⟩
  · obtain ⟨h2, h3⟩ := ty_isT r1 h1 e ne
    exact ⟨v, .ref Ca, .type t, .ref Ca, false, rfl, .own Ca, h2, kit_own h3 hB, w _ _ _ _ _ s1 r1 (.bl _) q1⟩
  · subst e
    cases h1
    obtain ⟨_, u, hu, C', vs, hC', ic, eu, rv⟩ := r1.mu a2 _ em
    subst eu
    exact ⟨.ref a2, .ref Ca, .ref C', .ref Ca, b, rfl, .own Ca, .x (.base (.ins hu ic.cl ic.ha ic.hn ic.htk ic.hm)), hT _ ht C' hC', w _ _ _ _ _ s1 r1 (.bl _) q1⟩
end
end Mn

set_option linter.all false
set_option maxHeartbeats 4000000
set_option autoImplicit false
set_option maxRecDepth 100000
namespace Mn
open PySem L2
variable [Tbs]
local macro_rules | `(tactic| walk_at "d") => `(tactic| (try simp only [dIsE, dCountB, dAppendX, dNewE, xSetX, xRetX, xDropX, dCX, xRaise, xTryRet, dTupLcX, xStR, xStL, dSplit, dJoin, sStr, dLam, aStr, gTL, dLcR, aMulS, dMakeX, dMethX, dBinX, dCM, dMakeV, dIsC, dGetO, dCallX, dMeth0X, dNX, starX, xFld, fldPut, xNext, xSeq, xAsg, xRet, xRetF, xDrop, xIf, xPar, xPar3, xMatch, mGo, xFrz, xPut, xAug, xFor, dVar, dC, dOp, dTest, dChain, dAndV, dOrV, dNotV, dAnd, dOr, dNot, dIf, dNil, dCons, dTup, dLst, dLstM, dCB, dIsi, dLc, dLcM, dYes, wipeD, dSlice, oSome, oNone, aSl_tup, aSl_lst, dNeg, dStar, dNewD, dTupVals, dSortSet, dSortSetI, dDictZ, sKeys, dFld, dMeth, dCallO, dGetC, dNewC, dDc, dStep, dIndexTD, dCountL, dCountS, dExtend, dAppend, dFrz, dLc2, dCountT, dIndexT, sqf_tup, sqf_lst, sqf_pair, sSeq, sSeq_tup, sSeq_lst, sRg1, sRg2, sZip2, sZip3, sZip4, sEnum, gV, gN, gC, gT, tupOf_tup, tupOf_pair, aAdd_int, aAdd_tup, aAdd_lst, aSub_int, aMul_int, aDiv_int, aMod_int, aPow_int, aCmp_int, aIx_tup, aIx_lst, aIx_scr, aIx_pair, aMax_int, aMin_int, aInt_bl, aInt_int, aLen_tup, aLen_lst, aLen_scr, aLen_pair, aTuple_lst, aTuple_tup, aIsB_bl, aNotB_bl, aEq_int, aNe_int, startD, List.map_cons, List.map_nil, List.length_cons, List.length_nil, List.cons_append, List.nil_append, List.replicate_zero, List.replicate_succ, List.append_nil, List.getElem?_cons_zero, List.getElem?_cons_succ, List.set_cons_zero, List.set_cons_succ, Option.some.injEq, exists_eq_left', exists_eq_left, exists_eq', D.int.injEq, D.bl.injEq, D.tup.injEq, D.lst.injEq, D.pair.injEq, D.ref.injEq, List.cons.injEq, Nat.sub_self, Nat.zero_add, Nat.add_sub_cancel, seqI_tup, seqI_lst, seqOf_tup, seqOf_lst, tyN_tup, tyN_lst, tyN_int, tyN_bl, tyN_str, tyN_non, isi_tt, at_0, at_1, at_2, at_3, Option.map_some, true_and, and_true, if_true, Bool.false_eq_true, if_false, Bool.not_true, Bool.not_false, ↓reduceIte, Nat.reduceAdd, Nat.reduceSub, exists_and_left, and_assoc]))
namespace C
open SX
/-! cubes: added, multiplied, compared -/
instance instDecAt : DecidableEq At := fun a b => decidable_of_iff (a.n = b.n ∧ a.ss = b.ss) (by cases a; cases b; simp)
theorem cm_encS (s : Sch) : Cm (encS s) 4 := cm_tup fun d hd => by obtain ⟨a, _, rfl⟩ := List.mem_map.mp hd; exact cm_enc a
theorem eqv_enc (a b : At) : PyData.eqv (py a.enc) (py b.enc) = decide (a = b) := by
  have h := eqv_tDs a.ss b.ss
  obtain ⟨n, ss⟩ := a
  obtain ⟨k, ts⟩ := b
  show (decide ((n : Int) = (k : Int)) && (PyData.eqvAll (pyL (ss.map tD)) (pyL (ts.map tD)) && true)) = _
  rw [h]
  by_cases h1 : n = k
  · subst h1
    by_cases h2 : ss = ts
    · subst h2; simp
    · simp [h2]
  · have : ¬ (n : Int) = (k : Int) := by omega
    simp [h1, this]
theorem eqv_encs : ∀ (s t : Sch), PyData.eqvAll (pyL (s.map At.enc)) (pyL (t.map At.enc)) = decide (s = t)
  | [], [] => rfl
  | [], _ :: _ => by simp [pyL, PyData.eqvAll]
  | _ :: _, [] => by simp [pyL, PyData.eqvAll]
  | x :: xs, y :: ys => by
    have ih := eqv_encs xs ys
    simp only [List.map_cons, pyL, PyData.eqvAll, ih, eqv_enc]
    by_cases h : x = y
    · subst h; simp
    · simp [h]
theorem eqv_encS (s t : Sch) (m : Mu) : PyData.eqv (pyM (encS s) m) (pyM (encS t) m) = decide (s = t) := by
  rw [(pyM_of (cm_encS s).1 m).1, (pyM_of (cm_encS t).1 m).1]
  exact eqv_encs s t
theorem aEq_encS {s t : Sch} {m : Mu} {Q : DK} (q : Q (.bl (decide (s = t))) m) : aEq (encS s) (encS t) m Q := ⟨(cm_encS s).ok (by decide) m, (cm_encS t).ok (by decide) m, by rw [eqv_encS]; exact q⟩
/-- no cube -/
def NoCu (m : Mu) (d : D) : Prop := ∃ t, tyN d m = some t ∧ t ≠ "object"
end C
end Mn

set_option linter.all false
set_option maxHeartbeats 4000000
set_option autoImplicit false
set_option maxRecDepth 100000
namespace Mn
open PySem L2
variable [Tbs]
local macro_rules | `(tactic| walk_at "d") => `(tactic| (try simp only [dIsE, dCountB, dAppendX, dNewE, xSetX, xRetX, xDropX, dCX, xRaise, xTryRet, dTupLcX, xStR, xStL, dSplit, dJoin, sStr, dLam, aStr, gTL, dLcR, aMulS, dMakeX, dMethX, dBinX, dCM, dMakeV, dIsC, dGetO, dCallX, dMeth0X, dNX, starX, xFld, fldPut, xNext, xSeq, xAsg, xRet, xRetF, xDrop, xIf, xPar, xPar3, xMatch, mGo, xFrz, xPut, xAug, xFor, dVar, dC, dOp, dTest, dChain, dAndV, dOrV, dNotV, dAnd, dOr, dNot, dIf, dNil, dCons, dTup, dLst, dLstM, dCB, dIsi, dLc, dLcM, dYes, wipeD, dSlice, oSome, oNone, aSl_tup, aSl_lst, dNeg, dStar, dNewD, dTupVals, dSortSet, dSortSetI, dDictZ, sKeys, dFld, dMeth, dCallO, dGetC, dNewC, dDc, dStep, dIndexTD, dCountL, dCountS, dExtend, dAppend, dFrz, dLc2, dCountT, dIndexT, sqf_tup, sqf_lst, sqf_pair, sSeq, sSeq_tup, sSeq_lst, sRg1, sRg2, sZip2, sZip3, sZip4, sEnum, gV, gN, gC, gT, tupOf_tup, tupOf_pair, aAdd_int, aAdd_tup, aAdd_lst, aSub_int, aMul_int, aDiv_int, aMod_int, aPow_int, aCmp_int, aIx_tup, aIx_lst, aIx_scr, aIx_pair, aMax_int, aMin_int, aInt_bl, aInt_int, aLen_tup, aLen_lst, aLen_scr, aLen_pair, aTuple_lst, aTuple_tup, aIsB_bl, aNotB_bl, aEq_int, aNe_int, startD, List.map_cons, List.map_nil, List.length_cons, List.length_nil, List.cons_append, List.nil_append, List.replicate_zero, List.replicate_succ, List.append_nil, List.getElem?_cons_zero, List.getElem?_cons_succ, List.set_cons_zero, List.set_cons_succ, Option.some.injEq, exists_eq_left', exists_eq_left, exists_eq', D.int.injEq, D.bl.injEq, D.tup.injEq, D.lst.injEq, D.pair.injEq, D.ref.injEq, List.cons.injEq, Nat.sub_self, Nat.zero_add, Nat.add_sub_cancel, seqI_tup, seqI_lst, seqOf_tup, seqOf_lst, tyN_tup, tyN_lst, tyN_int, tyN_bl, tyN_str, tyN_non, isi_tt, at_0, at_1, at_2, at_3, Option.map_some, true_and, and_true, if_true, Bool.false_eq_true, if_false, Bool.not_true, Bool.not_false, ↓reduceIte, Nat.reduceAdd, Nat.reduceSub, exists_and_left, and_assoc]))
namespace C
open SX
/-! cubes: ==, in -/
def s_Cube_eq : DSpX := fun ds m Q _ => ∃ (a dx : Addr) (s : Sch) (t : List Int) (past : List (List Int)) (d : D), ds = [.ref a, d] ∧ m a = some (cubM dx s t past) ∧
  ((NoCu m d ∧ Q (.bl false) m) ∨ ∃ (b dy : Addr) (s2 : Sch) (u : List Int) (p2 : List (List Int)), d = .ref b ∧ m b = some (cubM dy s2 u p2) ∧ Q (.bl (decide (s = s2) && decide (t = u))) m)
theorem l_Cube_eq : ∀ ds m Q Ed, s_Cube_eq ds m Q Ed → ds.length = 2 := by rintro ds m Q Ed ⟨a, dx, s, t, past, d, rfl, _⟩; rfl
def t_Cube_eq : DS := (xRet (dAndV (dIsC [("Cube", true)] (dVar 1)) (dAndV (dOp aEq (dFld ["Cube"] "own_scheme" (dVar 0)) (dFld ["Cube"] "own_scheme" (dVar 1))) (dOp aEq (dFld ["Cube"] "kept" (dVar 0)) (dFld ["Cube"] "kept" (dVar 1))))))
theorem v_Cube_eq : BodyX 2 t_Cube_eq s_Cube_eq := by
  rintro ds m Q Ed ⟨a, dx, s, t, past, d, rfl, hm, h⟩
  unfold t_Cube_eq
  walk_at "d"
  rcases h with ⟨⟨ty, e, ne⟩, h⟩ | ⟨b, dy, s2, u, p2, rfl, hb, h⟩
  · refine .inl ⟨ty, e, ne, ?_⟩
    simp only [Bool.false_eq_true, if_false]
    exact endX_rt h
  · refine .inr ⟨b, _, _, _, true, rfl, hb, List.mem_cons_self, ?_⟩
    simp only [if_true]
    refine ⟨_, _, _, hm, List.mem_cons_self, _, rfl, b, rfl, _, _, _, hb, List.mem_cons_self, _, rfl, ?_⟩
    refine aEq_encS ⟨_, rfl, ?_⟩
    by_cases hs : s = s2
    · simp only [hs, decide_true, if_true]
      refine ⟨_, _, _, hm, List.mem_cons_self, _, rfl, b, rfl, _, _, _, hb, List.mem_cons_self, _, rfl, ?_⟩
      refine aEq_iD ?_
      subst hs
      rw [decide_eq_true rfl, Bool.true_and] at h
      exact endX_rt h
    · simp only [hs, decide_false, Bool.false_eq_true, if_false]
      rw [decide_eq_false hs, Bool.false_and] at h
      exact endX_rt h
def s_Cube_contains : DSpX := fun ds m Q _ => ∃ (a dx : Addr) (s : Sch) (t : List Int) (past : List (List Int)) (d : D), ds = [.ref a, d] ∧ m a = some (cubM dx s t past) ∧ SchV s ∧ t.length = prodN (s.map At.n) ∧ Kn m d ∧
  (isCell s (finN s) d = false → Q (.bl false) m) ∧ ∀ c, d = tD c → c ∈ cellsOf s (finN s) → Q (.bl (!decide (t.getD (plc s c) 0 = 0))) m
theorem l_Cube_contains : ∀ ds m Q Ed, s_Cube_contains ds m Q Ed → ds.length = 2 := by rintro ds m Q Ed ⟨a, dx, s, t, past, d, rfl, _⟩; rfl
def t_Cube_contains : DS := (xSeq (xIf (dNot (dTest (dCB s_is_cell (dCons (dFld ["Cube"] "own_scheme" (dVar 0)) (dCons (dCB s_finest (dCons (dFld ["Cube"] "own_scheme" (dVar 0)) dNil)) (dCons (dVar 1) dNil)))))) (xRet (dC (.bl false))) xNext)
  (xRet (dOp aNe (dOp aIx (dFld ["Cube"] "kept" (dVar 0)) (dCB s_place_in (dCons (dFld ["Cube"] "own_scheme" (dVar 0)) (dCons (dVar 1) dNil)))) (dC (.int 0)))))
theorem v_Cube_contains : BodyX 2 t_Cube_contains s_Cube_contains := by
  rintro ds m Q Ed ⟨a, dx, s, t, past, d, rfl, hm, hs, ht, hk, h1, h2⟩
  unfold t_Cube_contains
  walk_at "d"
  refine ⟨_, _, _, hm, List.mem_cons_self, _, rfl, _, _, _, hm, List.mem_cons_self, _, rfl, s, rfl, hs, s, finN s, d, rfl, hs, fin_roll s, hk, ?_⟩
  simp only [exists_eq_left', D.bl.injEq]
  cases h : isCell s (finN s) d with
  | false =>
    simp only [Bool.not_false, if_true]
    walk_at "d"
    exact endX_rt (h1 h)
  | true =>
    obtain ⟨ed, hcl⟩ := isCell_ex (fin_roll s) h
    have hmem : natL d ∈ cellsOf s (finN s) := cell_iff.mpr hcl
    have hlt := Mn.B.fstI_lt hmem
    have hcl2 : (cellsOf s (finN s)).length = prodN (s.map At.n) := by unfold cellsOf; rw [cellsN_len, szs_fin]
    have hp : plc s (natL d) < t.length := by unfold plc; omega
    simp only [Bool.not_true, Bool.false_eq_true, if_false]
    refine ⟨_, _, _, hm, List.mem_cons_self, _, rfl, _, _, _, hm, List.mem_cons_self, _, rfl, s, natL d, by rw [← ed], hs, hmem, ?_⟩
    have gu : at_ (t.map D.int) (plc s (natL d) : Int) = some (.int (t.getD (plc s (natL d)) 0)) := by
      unfold at_
      rw [if_pos (by omega), Int.toNat_natCast, List.getElem?_map, List.getElem?_eq_getElem hp, List.getD_eq_getElem?_getD, List.getElem?_eq_getElem hp]
      rfl
    unfold iD nD
    walk_at "d"
    refine ⟨_, gu, ?_⟩
    walk_at "d"
    exact endX_rt (h2 _ ed hmem)
end C
end Mn

set_option Elab.async false
set_option linter.all false
set_option maxRecDepth 100000
set_option maxHeartbeats 4000000
set_option autoImplicit false
namespace GQ
open PySem PySem.SeqAt
open AutoSeq1 (wpAny_loadPart')
open MeetsSeq MeetsSeq2 MeetsSeq3 SeqRoads2
section
variable {prog : Program} {w : World} {A : Around} {R : Result → Shared → Prop}
end
section
variable {prog : Program} {w : World} {A : Around} {E : Value → Shared → Prop} {s : Shared}
end
end GQ
namespace Mn
open PySem PySem.Spec PyProof.Rows L2
variable [Tbs]
section
variable {X : Cx}
/-- a tuple, compared with the empty one -/
def aEqN : DR2 := fun x y m Q => ∃ ds, x = .tup ds ∧ y = .tup [] ∧ Q (.bl ds.isEmpty) m
end
end Mn

set_option linter.all false
set_option maxHeartbeats 4000000
set_option autoImplicit false
set_option maxRecDepth 100000
namespace Mn
open PySem L2
variable [Tbs]
local macro_rules | `(tactic| walk_at "d") => `(tactic| (try simp only [dIsE, dCountB, dAppendX, dNewE, xSetX, xRetX, xDropX, dCX, xRaise, xTryRet, dTupLcX, xStR, xStL, dSplit, dJoin, sStr, dLam, aStr, gTL, dLcR, aMulS, dMakeX, dMethX, aEqN, dBinX, dCM, dMakeV, dIsC, dGetO, dCallX, dMeth0X, dNX, starX, xFld, fldPut, xNext, xSeq, xAsg, xRet, xRetF, xDrop, xIf, xPar, xPar3, xMatch, mGo, xFrz, xPut, xAug, xFor, dVar, dC, dOp, dTest, dChain, dAndV, dOrV, dNotV, dAnd, dOr, dNot, dIf, dNil, dCons, dTup, dLst, dLstM, dCB, dIsi, dLc, dLcM, dYes, wipeD, dSlice, oSome, oNone, aSl_tup, aSl_lst, dNeg, dStar, dNewD, dTupVals, dSortSet, dSortSetI, dDictZ, sKeys, dFld, dMeth, dCallO, dGetC, dNewC, dDc, dStep, dIndexTD, dCountL, dCountS, dExtend, dAppend, dFrz, dLc2, dCountT, dIndexT, sqf_tup, sqf_lst, sqf_pair, sSeq, sSeq_tup, sSeq_lst, sRg1, sRg2, sZip2, sZip3, sZip4, sEnum, gV, gN, gC, gT, tupOf_tup, tupOf_pair, aAdd_int, aAdd_tup, aAdd_lst, aSub_int, aMul_int, aDiv_int, aMod_int, aPow_int, aCmp_int, aIx_tup, aIx_lst, aIx_scr, aIx_pair, aMax_int, aMin_int, aInt_bl, aInt_int, aLen_tup, aLen_lst, aLen_scr, aLen_pair, aTuple_lst, aTuple_tup, aIsB_bl, aNotB_bl, aEq_int, aNe_int, startD, List.map_cons, List.map_nil, List.length_cons, List.length_nil, List.cons_append, List.nil_append, List.replicate_zero, List.replicate_succ, List.append_nil, List.getElem?_cons_zero, List.getElem?_cons_succ, List.set_cons_zero, List.set_cons_succ, Option.some.injEq, exists_eq_left', exists_eq_left, exists_eq', D.int.injEq, D.bl.injEq, D.tup.injEq, D.lst.injEq, D.pair.injEq, D.ref.injEq, List.cons.injEq, Nat.sub_self, Nat.zero_add, Nat.add_sub_cancel, seqI_tup, seqI_lst, seqOf_tup, seqOf_lst, tyN_tup, tyN_lst, tyN_int, tyN_bl, tyN_str, tyN_non, isi_tt, at_0, at_1, at_2, at_3, Option.map_some, true_and, and_true, if_true, Bool.false_eq_true, if_false, Bool.not_true, Bool.not_false, ↓reduceIte, Nat.reduceAdd, Nat.reduceSub, exists_and_left, and_assoc]))
namespace C
open SX
/-! cubes: single, summed -/
/-- these are cubes -/
def CusX (m : Mu) (es : List D) (cs : List (Sch × List Int)) : Prop := es.length = cs.length ∧ ∀ (i : Nat) (e : D) (p : Sch × List Int), es[i]? = some e → cs[i]? = some p → ∃ b dy past, e = .ref b ∧ m b = some (cubM dy p.1 p.2 past) ∧ SchV p.1 ∧ p.2.length = prodN (p.1.map At.n)
theorem CusX.mem {m : Mu} {es : List D} {cs : List (Sch × List Int)} (h : CusX m es cs) {e : D} (he : e ∈ es) : ∃ p, p ∈ cs ∧ ∃ b dy past, e = .ref b ∧ m b = some (cubM dy p.1 p.2 past) := by
  obtain ⟨i, hi, rfl⟩ := List.mem_iff_getElem.mp he
  have hi2 : i < cs.length := by rw [← h.1]; exact hi
  obtain ⟨b, dy, past, e1, e2, _⟩ := h.2 i es[i] cs[i] (List.getElem?_eq_getElem hi) (List.getElem?_eq_getElem hi2)
  exact ⟨_, List.getElem_mem hi2, b, dy, past, e1, e2⟩
end C
end Mn

set_option linter.all false
set_option maxHeartbeats 4000000
set_option autoImplicit false
set_option maxRecDepth 100000
namespace Mn
open PySem L2
variable [Tbs]
local macro_rules | `(tactic| walk_at "d") => `(tactic| (try simp only [dIsE, dCountB, dAppendX, dNewE, xSetX, xRetX, xDropX, dCX, xRaise, xTryRet, dTupLcX, xStR, xStL, dSplit, dJoin, sStr, dLam, aStr, gTL, dLcR, aMulS, dMakeX, dMethX, aEqN, dBinX, dCM, dMakeV, dIsC, dGetO, dCallX, dMeth0X, dNX, starX, xFld, fldPut, xNext, xSeq, xAsg, xRet, xRetF, xDrop, xIf, xPar, xPar3, xMatch, mGo, xFrz, xPut, xAug, xFor, dVar, dC, dOp, dTest, dChain, dAndV, dOrV, dNotV, dAnd, dOr, dNot, dIf, dNil, dCons, dTup, dLst, dLstM, dCB, dIsi, dLc, dLcM, dYes, wipeD, dSlice, oSome, oNone, aSl_tup, aSl_lst, dNeg, dStar, dNewD, dTupVals, dSortSet, dSortSetI, dDictZ, sKeys, dFld, dMeth, dCallO, dGetC, dNewC, dDc, dStep, dIndexTD, dCountL, dCountS, dExtend, dAppend, dFrz, dLc2, dCountT, dIndexT, sqf_tup, sqf_lst, sqf_pair, sSeq, sSeq_tup, sSeq_lst, sRg1, sRg2, sZip2, sZip3, sZip4, sEnum, gV, gN, gC, gT, tupOf_tup, tupOf_pair, aAdd_int, aAdd_tup, aAdd_lst, aSub_int, aMul_int, aDiv_int, aMod_int, aPow_int, aCmp_int, aIx_tup, aIx_lst, aIx_scr, aIx_pair, aMax_int, aMin_int, aInt_bl, aInt_int, aLen_tup, aLen_lst, aLen_scr, aLen_pair, aTuple_lst, aTuple_tup, aIsB_bl, aNotB_bl, aEq_int, aNe_int, startD, List.map_cons, List.map_nil, List.length_cons, List.length_nil, List.cons_append, List.nil_append, List.replicate_zero, List.replicate_succ, List.append_nil, List.getElem?_cons_zero, List.getElem?_cons_succ, List.set_cons_zero, List.set_cons_succ, Option.some.injEq, exists_eq_left', exists_eq_left, exists_eq', D.int.injEq, D.bl.injEq, D.tup.injEq, D.lst.injEq, D.pair.injEq, D.ref.injEq, List.cons.injEq, Nat.sub_self, Nat.zero_add, Nat.add_sub_cancel, seqI_tup, seqI_lst, seqOf_tup, seqOf_lst, tyN_tup, tyN_lst, tyN_int, tyN_bl, tyN_str, tyN_non, isi_tt, at_0, at_1, at_2, at_3, Option.map_some, true_and, and_true, if_true, Bool.false_eq_true, if_false, Bool.not_true, Bool.not_false, ↓reduceIte, Nat.reduceAdd, Nat.reduceSub, exists_and_left, and_assoc]))
namespace C
open SX
/-! functions of the program that check, asked rightly -/
end C
end Mn

set_option Elab.async false
set_option linter.all false
set_option maxRecDepth 100000
set_option maxHeartbeats 4000000
set_option autoImplicit false
namespace GQ
open PySem PySem.SeqAt
open AutoSeq1 (wpAny_loadPart')
open MeetsSeq MeetsSeq2 MeetsSeq3 SeqRoads2
section
variable {prog : Program} {w : World} {A : Around} {R : Result → Shared → Prop}
theorem no_tuple (l b C dx : Addr) {s : Shared} (hb : s.heap.get? b = some (PySem.W.instObj C dx)) (hs : PySem.W.Looks (model prog w) s.heap (isSubtype (.ref C) (.type "tuple")) false)
    (fin : R (.ok (.ret .notImplemented)) s) :
    wpAny (model prog w) A.in1 (Builtin.«tuple.__eq__» ⟨[.ref l, .ref b], []⟩) (FinOf prog w A R) (fun e s' => R (.error e) s') s := by
  have hR := fin
  obtain ⟨hp, g, d, tk, os⟩ := s
  wp_walk using wpAny_loadPart' hb, hs.here
  
  exact hR
theorem no_list (l b C dx : Addr) {s : Shared} (hb : s.heap.get? b = some (PySem.W.instObj C dx)) (hs : PySem.W.Looks (model prog w) s.heap (isSubtype (.ref C) (.type "list")) false)
    (fin : R (.ok (.ret .notImplemented)) s) :
    wpAny (model prog w) A.in1 (Builtin.«list.__eq__» ⟨[.ref l, .ref b], []⟩) (FinOf prog w A R) (fun e s' => R (.error e) s') s := by
  have hR := fin
  obtain ⟨hp, g, d, tk, os⟩ := s
  wp_walk using wpAny_loadPart' hb, hs.here
  
  exact hR
theorem no_int (i : Int) (t : Tok) (b C dx : Addr) {s : Shared} (hb : s.heap.get? b = some (PySem.W.instObj C dx))
    (fin : R (.ok (.ret .notImplemented)) s) :
    wpAny (model prog w) A.in1 (Builtin.«int.__eq__» ⟨[.int i t, .ref b], []⟩) (FinOf prog w A R) (fun e s' => R (.error e) s') s := by
  have hR := fin
  obtain ⟨hp, g, d, tk, os⟩ := s
  wp_walk using wpAny_loadPart' hb
  
  exact hR
theorem no_bool (i : Bool) (b C dx : Addr) {s : Shared} (hb : s.heap.get? b = some (PySem.W.instObj C dx))
    (fin : R (.ok (.ret .notImplemented)) s) :
    wpAny (model prog w) A.in1 (Builtin.«int.__eq__» ⟨[.bool i, .ref b], []⟩) (FinOf prog w A R) (fun e s' => R (.error e) s') s := by
  have hR := fin
  obtain ⟨hp, g, d, tk, os⟩ := s
  wp_walk using wpAny_loadPart' hb
  
  exact hR
theorem no_str (i : Str) (t : Tok) (b C dx : Addr) {s : Shared} (hb : s.heap.get? b = some (PySem.W.instObj C dx))
    (fin : R (.ok (.ret .notImplemented)) s) :
    wpAny (model prog w) A.in1 (Builtin.«str.__eq__» ⟨[.str i t, .ref b], []⟩) (FinOf prog w A R) (fun e s' => R (.error e) s') s := by
  have hR := fin
  obtain ⟨hp, g, d, tk, os⟩ := s
  wp_walk using wpAny_loadPart' hb
  
  exact hR
theorem no_NoneType (b C dx : Addr) {s : Shared} (hb : s.heap.get? b = some (PySem.W.instObj C dx))
    (fin : R (.ok (.ret .notImplemented)) s) :
    wpAny (model prog w) A.in1 (Builtin.«NoneType.__eq__» ⟨[.none, .ref b], []⟩) (FinOf prog w A R) (fun e s' => R (.error e) s') s := by
  have hR := fin
  obtain ⟨hp, g, d, tk, os⟩ := s
  wp_walk using wpAny_loadPart' hb
  
  exact hR
theorem no_dict (l b C dx : Addr) {od : Obj} {s : Shared} (hl : s.heap.get? l = some od) (hlc : od.cls = .type "dict") (hb : s.heap.get? b = some (PySem.W.instObj C dx)) (hs : PySem.W.Looks (model prog w) s.heap (isSubtype (.ref C) (.type "dict")) false)
    (fin : R (.ok (.ret .notImplemented)) s) :
    wpAny (model prog w) A.in1 (Builtin.«dict.__eq__» ⟨[.ref l, .ref b], []⟩) (FinOf prog w A R) (fun e s' => R (.error e) s') s := by
  have hR := fin
  obtain ⟨hp, g, d, tk, os⟩ := s
  wp_walk using wpAny_loadPart' hb, wpAny_loadPart' hl, hs.here
  exact hR
end
end GQ
namespace PySem.W
open PySem PySem.Calls PyProof.Rows
section
variable {prog : Program} {w : World} {A : Around} {E : Value → Shared → Prop} {s : Shared} {K : Frag} {x C L f : Addr} {h₀ : Heap} {m : Str → Option Value} {ox : Obj} {od : Option Obj} {a : Value}
/-- a == x, a of a built-in type that leaves it to x -/
theorem cmp_R {T id : String} {Q : Value → Shared → Prop} (hu : A.units < cLine) (F : Fr h₀ L s.heap m) (X₀ : K.In h₀) (I : InstAt s.heap x ox C od) (ha : s.TypeIs a T) (hn : subIn K (.ref C) (.type T) = some false) (hsl : Slot T (cmpInfo .Eq).2.1 id)
    (hc : wpAny (model prog w) A (call (.builtin id) [a, .ref x]) (fun v s' => v = .notImplemented ∧ s' = s) E s)
    (hs : findIn K (.ref C) "__eq__" = some (some (.ref f))) (hf : isFn K (.ref f) = true)
    (h : wpAny (model prog w) A (call (.ref f) [.ref x, a]) (CmpBack Q) E s) : wpAny (model prog w) A (richCompare .Eq a (.ref x)) Q E s := by
  have X := X₀.keeps F.keep
  have one : wpAny (model prog w) A (tryCompare (.ref x) "__eq__" a) (fun r s' => ∃ v, r = some v ∧ Q v s') E s := by
    unfold tryCompare
    refine wpAny_bind (ifBound_K X I hs hf (wpAny_mono h (fun v s' hv => ?_) fun _ _ e => e))
    cases v <;> first | exact hv.elim | exact wpAny_pure ⟨_, rfl, hv⟩
  have hne : (Value.type T != Value.ref C) = true := by simp
  simp only [richCompare, cmpInfo, ha.oneThing_none] at hsl ⊢
  refine wpAny_holding (wpAny_bind (wpAny_cRoomFor hu ?_))
  refine wpAny_bind (wpAny_typeOf ha (wpAny_bind (I.type.here ?_)))
  simp only [hne, if_true]
  refine wpAny_bind ((looks_subIn X hn).here ?_)
  simp only [Bool.false_eq_true, if_false, Bool.not_false, if_true]
  refine wpAny_bind (m := tryCompare a _ (.ref x)) (wpAny_tryCompare_declines ha hsl (wpAny_mono hc (fun v s₁ h₁ => ⟨h₁.1, ?_⟩) fun _ _ x => x))
  obtain ⟨_, rfl⟩ := h₁
  refine wpAny_bind (wpAny_mono one (fun r s' z => ?_) fun _ _ e => e)
  obtain ⟨v, rfl, hq⟩ := z
  exact wpAny_pure hq
end
end PySem.W
namespace Mn
open PySem PySem.Spec PyProof.Rows L2 GenW
variable [Tbs]
section
variable {X : Cx} {k : Nat}
/-- a built-in thing leaves == to the instance on its right -/
theorem decl {pins : List (Addr × Obj)} {σ : L2.St} {G H : Hp} {m : Mu} {s : Shared} {d : D} {v : V} {u : Value} {t : String} {b C dx : Addr} (I : Inv X pins σ H s) (r : Rl X.kf G H m) (h : Rp X.kf G d v) (rv : RelV v u) (e : tyN d m = some t) (ne : t ≠ "object")
    (hb : s.heap.get? b = some (PySem.W.instObj C dx)) (hs : ∀ T ∈ tyNs, PySem.W.Looks (model X.prog X.w) s.heap (isSubtype (.ref C) (.type T)) false) :
    t ∈ tyNs ∧ s.TypeIs u t ∧ ∃ id, Slot t (cmpInfo .Eq).2.1 id ∧ ∀ E, wpAny (model X.prog X.w) X.A (call (.builtin id) [u, .ref b]) (fun v s' => v = .notImplemented ∧ s' = s) E s := by
  have lst : ∀ {a : Addr} {vs : List V}, SqL X.K H a vs → "list" ∈ tyNs ∧ s.TypeIs (.ref a) "list" ∧ ∃ id, Slot "list" (cmpInfo .Eq).2.1 id ∧ ∀ E, wpAny (model X.prog X.w) X.A (call (.builtin id) [.ref a, .ref b]) (fun v s' => v = .notImplemented ∧ s' = s) E s := fun {a vs} hq => by
    obtain ⟨its, _, pl, _⟩ := I.list hq
    obtain ⟨o, ho, hc, _⟩ := pl.isList
    exact ⟨by decide, ⟨o, ho, hc⟩, _, F.slot_list_eq, fun E => GQ.call_here F.slot_list_eq ⟨o, ho, hc⟩ F.entry_list_eq (F.args_list_eq_2 _ _) (GQ.no_list _ _ _ _ hb (hs _ (by decide)) ⟨rfl, rfl⟩)⟩
  have dctO : ∀ {a : Addr} {o : Obj}, s.heap.get? a = some o → o.cls = .type "dict" → "dict" ∈ tyNs ∧ s.TypeIs (.ref a) "dict" ∧ ∃ id, Slot "dict" (cmpInfo .Eq).2.1 id ∧ ∀ E, wpAny (model X.prog X.w) X.A (call (.builtin id) [.ref a, .ref b]) (fun v s' => v = .notImplemented ∧ s' = s) E s := fun {a o} ho hc =>
    ⟨by decide, ⟨o, ho, hc⟩, _, F.slot_dict_eq, fun E => GQ.call_here F.slot_dict_eq ⟨o, ho, hc⟩ F.entry_dict_eq (F.args_dict_eq_2 _ _) (GQ.no_dict _ _ _ _ ho hc hb (hs _ (by decide)) ⟨rfl, rfl⟩)⟩
  have dct : ∀ {a : Addr} {xs : List (NestedKey × Addr × V)}, (H a = some (.ext (dictAt X.w a xs)) ∨ ∃ o, H a = some (.frz o (.ext (dictAt X.w a xs)))) → "dict" ∈ tyNs ∧ s.TypeIs (.ref a) "dict" ∧ ∃ id, Slot "dict" (cmpInfo .Eq).2.1 id ∧ ∀ E, wpAny (model X.prog X.w) X.A (call (.builtin id) [.ref a, .ref b]) (fun v s' => v = .notImplemented ∧ s' = s) E s := fun {a xs} hq => by
    obtain ⟨vs, _, o, es, ep, ho, hx, hd, he⟩ : dictAt X.w a xs s.heap := by
      rcases hq with hq | ⟨o, hq⟩
      · exact (I.hok a _ hq).1
      · exact (I.hok a _ hq).2.1
    exact dctO ho hx.1
  cases h with
  | non => cases e; cases rv; exact ⟨by decide, rfl, _, F.slot_NoneType_eq, fun E => GQ.call_here F.slot_NoneType_eq rfl F.entry_NoneType_eq (F.args_NoneType_eq_2 _ _) (GQ.no_NoneType _ _ _ hb ⟨rfl, rfl⟩)⟩
  | bl i => cases e; cases rv; exact ⟨by decide, rfl, _, F.slot_bool_eq, fun E => GQ.call_here F.slot_bool_eq rfl F.entry_int_eq (F.args_int_eq_2 _ _) (GQ.no_bool _ _ _ _ hb ⟨rfl, rfl⟩)⟩
  | int i => cases e; obtain ⟨t, rfl⟩ := rv; exact ⟨by decide, rfl, _, F.slot_int_eq, fun E => GQ.call_here F.slot_int_eq rfl F.entry_int_eq (F.args_int_eq_2 _ _) (GQ.no_int _ _ _ _ _ hb ⟨rfl, rfl⟩)⟩
  | str x => cases e; obtain ⟨t, rfl⟩ := rv; exact ⟨by decide, rfl, _, F.slot_str_eq, fun E => GQ.call_here F.slot_str_eq rfl F.entry_str_eq (F.args_str_eq_2 _ _) (GQ.no_str _ _ _ _ _ hb ⟨rfl, rfl⟩)⟩
  | tup hq hr z =>
    cases e
    cases rv
    obtain ⟨its, _, ht, _⟩ := I.tuple (hq.sq r.sub X.K)
    obtain ⟨o, ho, hc, _⟩ := ht
    exact ⟨by decide, ⟨o, ho, hc⟩, _, F.slot_tuple_eq, fun E => GQ.call_here F.slot_tuple_eq ⟨o, ho, hc⟩ F.entry_tuple_eq (F.args_tuple_eq_2 _ _) (GQ.no_tuple _ _ _ _ hb (hs _ (by decide)) ⟨rfl, rfl⟩)⟩
  | pair hq hr z => cases e
  | dct h1 => cases e; cases rv; exact dct (.inr ⟨_, r.sub _ _ h1⟩)
  | lst hq hr z => cases e; cases rv; exact lst (SqL.of (r.sub _ _ hq))
  | scr hq hr z => cases e; cases rv; exact lst (r.sub.seq hq)
  | ref a =>
    cases rv
    simp only [tyN] at e
    cases em : m a with
    | none => rw [em] at e; cases e
    | some o =>
      rw [em] at e
      obtain ⟨_, w, hw, ru⟩ := r.mu a _ em
      cases o with
      | lst es =>
        cases e
        obtain ⟨vs, e1, _⟩ := ru
        subst e1
        exact lst (SqL.of hw)
      | dN kvs =>
        cases e
        obtain ⟨xs, e1, _⟩ := ru
        subst e1
        exact dct (.inl hw)
      | dE =>
        cases e
        have e1 : w = .dT [] := ru
        subst e1
        obtain ⟨_, _, xs, _, o, es, ep, ho, hx, _⟩ := dt_of I.hok hw
        exact dctO ho hx.1
      | ins c dx fs => cases e; exact absurd rfl ne
      | own y => cases e
structure ClER (P : Program) (w : World) (K : PySem.W.Frag) (mg : Str → Option Value) (base : Heap) (c : Str) (k : Nat) (d : DSpX) : Prop where
  ex : ∃ C f, KF.cls ⟨K, w, Tbs.T⟩ c C ∧ Meth K C "__eq__" f ∧ notB K C = true ∧ RnX P w K mg base k f d
def rEqR (X : Cx) (k : Nat) : R2 := fun x y H Q => ∃ G m b c dx fs d dv t, y = .ref b ∧ Rl X.kf G H m ∧ m b = some (.ins c dx fs) ∧ ClER X.prog X.w X.K X.mg X.base c k d ∧ Rp X.kf G dv x ∧ tyN dv m = some t ∧ t ≠ "object" ∧
  lfSpX X.kf d [.ref b, x] H (fun v H1 => ∃ r : Bool, v = .bl r ∧ Q (.bl r) H1) noE
theorem op_eqR (room : Room k X.A) : OpR X (compareOp .Eq) (rEqR X k) := by
  intro pins s σ H x y v u Q I rx ry ⟨G, m, b, c, dx, fs, d, dv, t, e1, rl, em, CE, rd, et, net, sp⟩
  subst e1
  obtain rfl : u = Value.ref b := ry
  obtain ⟨_, vv, hv, C, vs, hC, ic, ev, rv⟩ := rl.mu b _ em
  subst ev
  obtain ⟨mA, O, _, _, _, _⟩ := ins_get I.hok hv
  obtain ⟨od, J, _⟩ := O.look
  obtain ⟨C', f, hC', me, hnb, F⟩ := CE.ex
  obtain rfl := cls_one hC hC'
  obtain ⟨mf, Ff⟩ := I.fr
  have hsub : ∀ T ∈ tyNs, PySem.W.subIn X.K (.ref C) (.type T) = some false := fun T hT => of_decide_eq_true (List.all_eq_true.mp hnb T hT)
  obtain ⟨ht, hty, id, hsl, hc⟩ := decl I rl rd rx et net O.obj (fun T hT => PySem.W.looks_subIn (I.ok.mod.kin.keeps Ff.keep) (hsub T hT))
  show wpAny _ _ (richCompare .Eq v (.ref b)) _ _ _
  refine PySem.W.cmp_R room.units0 Ff I.ok.mod.kin J hty (hsub _ ht) hsl (hc _) me.at_ me.fn (own_atQ (vs := [.ref b, x]) F room I (.cons rfl (.cons rx .nil)) sp fun v' u' H' s' I' rv ⟨r, e, q⟩ => ?_)
  subst e
  obtain rfl : u' = Value.bool r := rv
  exact ⟨.bl r, H', I', rfl, q⟩
def aEqR (tab : List (Str × DSpX)) : DR2 := fun x y m Q => ∃ b c dx fs d t, y = .ref b ∧ m b = some (.ins c dx fs) ∧ (c, d) ∈ tab ∧ tyN x m = some t ∧ t ≠ "object" ∧ d [.ref b, x] m (fun v m2 => ∃ r : Bool, v = .bl r ∧ Q (.bl r) m2) fun _ _ => False
theorem c2_eqR {tab : List (Str × DSpX)} (hM : ∀ cd ∈ tab, ClER X.prog X.w X.K X.mg X.base cd.1 k cd.2) : C2 X.kf (rEqR X k) (aEqR tab) := by
  intro G H m x y dx' dy Q Qv r rx ry ⟨b, c, dx, fs, d, t, e1, em, ht, et, net, q⟩ w
  subst e1
  cases ry
  exact ⟨G, m, b, c, dx, fs, d, dx', t, rfl, r, em, hM _ ht, rx, et, net, G, [.ref b, dx'], m, _, _, .cons (.ref b) (.cons rx .nil), r, q, fun v' H' G' m' d' st rl' rp ⟨r', e, q'⟩ => by
    subst e
    cases rp
    exact ⟨r', rfl, w _ _ _ _ _ st rl' (.bl _) q'⟩, fun _ _ _ _ _ _ _ _ _ z => z.elim⟩
def NotC (w : World) (K : PySem.W.Frag) (c : Str) : Prop := ∀ C, KF.cls ⟨K, w, Tbs.T⟩ c C → notB K C = true
theorem clER_mk {P : Program} {w : World} {K : PySem.W.Frag} {mg : Str → Option Value} {base : Heap} {c : Str} {k : Nat} {d : DSpX} (h : ClEX P w K mg base c k d) (n : NotC w K c) : ClER P w K mg base c k d := by
  obtain ⟨C, f, hC, me, _, _, R⟩ := h.ex
  exact ⟨C, f, hC, me, n C hC, R⟩
end
end Mn

set_option Elab.async false
set_option linter.all false
set_option maxRecDepth 100000
set_option maxHeartbeats 4000000
set_option autoImplicit false
namespace Mn
open PySem PySem.Spec PyProof.Rows L2
variable [Tbs]
/-! a string not in a tuple of strings -/
def inS (z : Str) (zs : List Str) : Bool := zs.any fun w => eqV (.str w) (.str z)
def aNotInS : DR2 := fun x y m Q => ∃ (z : Str) (zs : List Str), x = .str z ∧ y = .tup (zs.map D.str) ∧ Q (.bl (!inS z zs)) m
theorem strs_rp {K : KF} {G : Hp} {z : Str} : ∀ {zs : List Str} {vs : List V}, RpL K G (zs.map D.str) vs → vs.all flatV = true ∧ inV (.str z) vs = inS z zs
  | [], _, h => by cases h; exact ⟨rfl, rfl⟩
  | w :: zs, _, h => by
    cases h with
    | cons h r =>
      obtain ⟨h1, h2⟩ := strs_rp (z := z) (zs := zs) r
      have h2' : (List.any _ fun y => eqV y (.str z)) = inS z zs := h2
      cases h
      exact ⟨by rw [List.all_cons, h1]; rfl, by unfold inV; rw [List.any_cons, h2']; rfl⟩
theorem c2_notInS {K : KF} : C2 K (rIn K.fr true) aNotInS := by
  rintro G H m x y dx dy Q Qv r rx ry ⟨z, zs, rfl, rfl, q⟩ w
  cases rx
  cases ry with
  | tup h1 h2 h3 =>
    obtain ⟨f1, f2⟩ := strs_rp (z := z) h2
    refine ⟨_, _, rfl, .inr (h1.sq r.sub _), rfl, f1, w.now r (.bl _) ?_⟩
    rw [if_pos rfl, f2]
    exact q
end Mn

set_option linter.all false
set_option maxHeartbeats 4000000
set_option autoImplicit false
set_option maxRecDepth 100000
namespace Mn
open PySem L2
variable [Tbs]
local macro_rules | `(tactic| walk_at "d") => `(tactic| (try simp only [dIsE, dCountB, dAppendX, dNewE, xSetX, xRetX, xDropX, dCX, xRaise, xTryRet, dTupLcX, xStR, xStL, dSplit, dJoin, sStr, dLam, aStr, gTL, dLcR, aMulS, dMakeX, dMethX, aEqN, dBinX, dCM, dMakeV, dIsC, dGetO, dCallX, dMeth0X, dNX, starX, xFld, fldPut, xNext, xSeq, xAsg, xRet, xRetF, xDrop, xIf, xPar, xPar3, xMatch, mGo, xFrz, xPut, xAug, xFor, dVar, dC, dOp, dTest, dChain, dAndV, dOrV, dNotV, dAnd, dOr, dNot, dIf, dNil, dCons, dTup, dLst, dLstM, dCB, dIsi, dLc, dLcM, dYes, wipeD, dSlice, oSome, oNone, aSl_tup, aSl_lst, dNeg, dStar, dNewD, dTupVals, dSortSet, dSortSetI, dDictZ, sKeys, dFld, dMeth, dCallO, dGetC, dNewC, dDc, dStep, dIndexTD, dCountL, dCountS, dExtend, dAppend, dFrz, dLc2, dCountT, dIndexT, sqf_tup, sqf_lst, sqf_pair, sSeq, sSeq_tup, sSeq_lst, sRg1, sRg2, sZip2, sZip3, sZip4, sEnum, gV, gN, gC, gT, tupOf_tup, tupOf_pair, aAdd_int, aAdd_tup, aAdd_lst, aSub_int, aMul_int, aDiv_int, aMod_int, aPow_int, aCmp_int, aIx_tup, aIx_lst, aIx_scr, aIx_pair, aMax_int, aMin_int, aInt_bl, aInt_int, aLen_tup, aLen_lst, aLen_scr, aLen_pair, aTuple_lst, aTuple_tup, aIsB_bl, aNotB_bl, aEq_int, aNe_int, startD, List.map_cons, List.map_nil, List.length_cons, List.length_nil, List.cons_append, List.nil_append, List.replicate_zero, List.replicate_succ, List.append_nil, List.getElem?_cons_zero, List.getElem?_cons_succ, List.set_cons_zero, List.set_cons_succ, Option.some.injEq, exists_eq_left', exists_eq_left, exists_eq', D.int.injEq, D.bl.injEq, D.tup.injEq, D.lst.injEq, D.pair.injEq, D.ref.injEq, List.cons.injEq, Nat.sub_self, Nat.zero_add, Nat.add_sub_cancel, seqI_tup, seqI_lst, seqOf_tup, seqOf_lst, tyN_tup, tyN_lst, tyN_int, tyN_bl, tyN_str, tyN_non, isi_tt, at_0, at_1, at_2, at_3, Option.map_some, true_and, and_true, if_true, Bool.false_eq_true, if_false, Bool.not_true, Bool.not_false, ↓reduceIte, Nat.reduceAdd, Nat.reduceSub, exists_and_left, and_assoc]))
namespace C.V49
open SX
theorem sm_bl2 (p q : Bool) : SmD 8 (.tup [.bl p, .bl q]) := ⟨by show 2 ≤ 1000000; decide, fun d hd => by
  rcases List.mem_cons.mp hd with rfl | hd
  · trivial
  · rw [List.mem_singleton.mp hd]; trivial⟩
theorem sm_bls (l : List Bool) (h : l.length ≤ 1000000) : SmD 8 (.tup (l.map D.bl)) := ⟨by rw [List.length_map]; exact h, fun d hd => by
  obtain ⟨b, _, rfl⟩ := List.mem_map.mp hd
  trivial⟩
theorem no_cell {s : Sch} {d : D} (hs : SchV s) (h : ∀ ls : List D, d = .tup ls → ∃ x r, ls = x :: r ∧ ∀ i : Int, x ≠ .int i) : isCell s (finN s) d = false := by
  unfold isCell
  split
  · rename_i ls
    obtain ⟨x, r, rfl, hx⟩ := h ls rfl
    have h1 := hs.1
    cases hz : szs s (finN s) with
    | nil => rw [szs_fin] at hz; simp at hz; rw [hz] at h1; simp at h1
    | cons b q =>
      have : betw x 0 ((b : Int) - 1) = false := by
        unfold betw
        cases x with
        | int i => exact absurd rfl (hx i)
        | _ => rfl
      simp [this]
  · rfl
def s_law_is_in : DSp := fun ds m Q => ∃ (a dx : Addr) (s : Sch) (t : List Int), ds = [.ref a, encS s, iD t] ∧ m a = some (cubM dx s t []) ∧ SchV s ∧ t.length = prodN (s.map At.n) ∧ ∀ m', (∀ a o, m a = some o → m' a = some o) → Q (.bl true) m'
theorem l_law_is_in : ∀ ds m Q, s_law_is_in ds m Q → ds.length = 3 := by rintro ds m Q ⟨a, dx, s, t, rfl, _⟩; rfl
def t_law_is_in : DS := (xSeq (xAsg (dCB s_law_fine_cells (dCons (dVar 1) dNil)) (gV 3))
  (xSeq (xFor (sEnum (dVar 3)) (gT 2 (gC (gV 5) (gC (gV 6) gN))) (xIf (dNot (dTest (dCB s_law_is_same (dCons (dTup (dCons (dOp (aInO [("Cube", s_Cube_contains)] (fun b => b)) (dVar 6) (dVar 0)) (dCons (dOp (aInO [("Cube", s_Cube_contains)] (fun b => !b)) (dVar 6) (dVar 0)) dNil))) (dCons (dTup (dCons (dOp aNe (dOp aIx (dVar 2) (dVar 5)) (dC (.int 0))) (dCons (dOp aEq (dOp aIx (dVar 2) (dVar 5)) (dC (.int 0))) dNil))) dNil))))) (xRet (dC (.bl false))) xNext))
  (xSeq (xFor (sSeq (dOp aAdd (dCB s_law_no_cells (dCons (dVar 1) dNil)) (dLst (dCons (dVar 0) (dCons (dVar 1) (dCons (dLst (dCons (dVar 2) dNil)) (dCons (dTup (dCons (dVar 6) (dCons (dC (.int 1)) dNil))) (dCons (dTup (dCons (dVar 0) dNil)) dNil)))))))) (gV 4) (xIf (dNot (dTest (dCB s_law_is_same (dCons (dTup (dCons (dOp (aInO [("Cube", s_Cube_contains)] (fun b => b)) (dVar 4) (dVar 0)) (dCons (dOp (aInO [("Cube", s_Cube_contains)] (fun b => !b)) (dVar 4) (dVar 0)) dNil))) (dCons (dTup (dCons (dC (.bl false)) (dCons (dC (.bl true)) dNil))) dNil))))) (xRet (dC (.bl false))) xNext))
  (xRet (dC (.bl true))))))
theorem v_law_is_in : Body 7 t_law_is_in s_law_is_in := by
  rintro ds m Q ⟨a, dx, s, t, rfl, ha, hs, ht, q⟩
  have pz : 1 ≤ prodN (s.map At.n) := by rw [← szs_fin]; exact prod_pos hs (fin_roll s)
  have pl : prodN (s.map At.n) ≤ 60 := by rw [← szs_fin]; exact szs_prod hs (fin_roll s)
  have ec : cellsN (s.map At.n) = cellsOf s (finN s) := by unfold cellsOf; rw [szs_fin]
  have cl : (cellsOf s (finN s)).length = prodN (s.map At.n) := by unfold cellsOf; rw [cellsN_len, szs_fin]
  unfold t_law_is_in
  walk_at "d"
  refine ⟨s, rfl, hs, _, rfl, ?_⟩
  rw [ec, enumD_map]
  refine forGo_take (enc := fun q : List Nat × Nat => D.pair [.int (q.2 : Nat), tD q.1]) (fun pr rr m6 => (∃ x4 x5 x6, rr = [some (.ref a), some (encS s), some (iD t), some (.lst ((cellsOf s (finN s)).map tD)), x4, x5, x6] ∧ (pr ≠ [] → ∃ c : List Nat, x6 = some (tD c))) ∧ m6 = m) ((cellsOf s (finN s)).zipIdx 0) [] _ _ _ rfl ⟨⟨none, none, none, rfl, fun h => absurd rfl h⟩, rfl⟩ ?_ ?_
  · rintro pr ⟨c, i⟩ po rr m6 P4 er4 ⟨⟨x4, x5, x6, rfl, _⟩, rfl⟩ hP4
    have hri : (c, i) ∈ (cellsOf s (finN s)).zipIdx 0 := by rw [er4]; simp
    rw [List.mem_zipIdx_iff_getElem?] at hri
    have hci : (cellsOf s (finN s))[i]? = some c := hri
    have hil : i < t.length := by rw [ht, ← cl]; exact (List.getElem?_eq_some_iff.mp hci).1
    have hmem : c ∈ cellsOf s (finN s) := List.mem_of_getElem? hci
    have hplc : plc s c = i := by unfold plc; exact Mn.B.fstI_nd (by unfold cellsOf; exact cellsN_nodup _) hci
    obtain ⟨x, hx⟩ : ∃ x, t[i]? = some x := ⟨_, List.getElem?_eq_getElem hil⟩
    have hgd : t.getD i 0 = x := by rw [List.getD_eq_getElem?_getD, hx]; rfl
    have gt : at_ (t.map D.int) (i : Int) = some (.int x) := by
      unfold at_
      rw [if_pos (by omega), Int.toNat_natCast, List.getElem?_map, hx]
      rfl
    unfold iD
    walk_at "d"
    refine ⟨a, _, _, _, s_Cube_contains, rfl, ha, List.mem_cons_self, a, dx, s, t, _, _, rfl, ha, hs, ht, kn_tD _ _, (fun h => by rw [Cell.ok (fin_roll s) (cell_iff.mp hmem)] at h; cases h), fun c1 e1 hc1 => ⟨_, rfl, ?_⟩⟩
    rw [← tD_inj e1, hplc, hgd]
    refine ⟨a, _, _, _, s_Cube_contains, rfl, ha, List.mem_cons_self, a, dx, s, t, _, _, rfl, ha, hs, ht, kn_tD _ _, (fun h => by rw [Cell.ok (fin_roll s) (cell_iff.mp hmem)] at h; cases h), fun c2 e2 hc2 => ⟨_, rfl, ?_⟩⟩
    rw [← tD_inj e2, hplc, hgd]
    refine ⟨by decide, _, gt, ?_⟩
    walk_at "d"
    refine ⟨_, gt, ?_⟩
    walk_at "d"
    refine ⟨by decide, ?_⟩
    have e9 : (D.tup [D.bl (!decide (x = 0)), D.bl (!(!decide (x = 0)))]) = D.tup [D.bl (!decide (x = 0)), D.bl (decide (x = 0))] := by rw [Bool.not_not]
    refine ⟨_, by rw [← e9], sm_bl2 _ _, _, rfl, ?_⟩
    simp only [Bool.not_true, Bool.false_eq_true, if_false]
    exact hP4 _ _ ⟨⟨_, _, _, rfl, fun _ => ⟨c, rfl⟩⟩, rfl⟩
  · rintro rr m6 ⟨⟨x4, x5, x6, rfl, hx⟩, rfl⟩
    obtain ⟨c, rfl⟩ := hx (fun h => by have := congrArg List.length h; rw [List.length_zipIdx, cl] at this; simp at this; omega)
    walk_at "d"
    refine ⟨s, rfl, hs, fun l m2 hll hlk le2 => ?_⟩
    have ha2 := le2 _ _ ha
    refine ⟨by decide, by decide, by decide, by decide, ?_⟩
    walk_at "d"
    refine ⟨small (k := 1000) (by omega), _, .inl rfl, ?_⟩
    have hall : ∀ d ∈ l ++ [D.ref a, encS s, D.lst [iD t], D.tup [tD c, D.int 1], D.tup [D.ref a]], Kn m2 d ∧ isCell s (finN s) d = false := fun d hd => by
      rcases List.mem_append.mp hd with hd | hd
      · exact hlk d hd
      · rcases List.mem_cons.mp hd with rfl | hd
        · exact ⟨kn_ins ha2, rfl⟩
        rcases List.mem_cons.mp hd with rfl | hd
        · refine ⟨kn_encS _ _, no_cell hs fun ls e => ?_⟩
          cases e
          have h1 := hs.1
          match s, h1 with
          | x :: r, _ => exact ⟨x.enc, r.map At.enc, rfl, fun i e => by cases e⟩
        rcases List.mem_cons.mp hd with rfl | hd
        · exact ⟨fun y hy => kn_iD m2 t y (by simpa [refs, refsL] using hy), rfl⟩
        rcases List.mem_cons.mp hd with rfl | hd
        · exact ⟨fun y hy => kn_tD m2 c y (by simpa [refs, refsL] using hy), no_cell hs fun ls e => by cases e; exact ⟨_, _, rfl, fun i e => by cases e⟩⟩
        · rw [List.mem_singleton.mp hd]
          exact ⟨kn_t1 (kn_ins ha2), no_cell hs fun ls e => by cases e; exact ⟨_, _, rfl, fun i e => by cases e⟩⟩
    rw [← List.map_id (l ++ _)]
    refine forGo_take (enc := id) (fun _ rr m4 => (∃ x4 x5, rr = [some (.ref a), some (encS s), some (iD t), some (.lst ((cellsOf s (finN s)).map tD)), x4, x5, some (tD c)]) ∧ m4 = m2) (l ++ [D.ref a, encS s, D.lst [iD t], D.tup [tD c, D.int 1], D.tup [D.ref a]]) [] _ _ _ rfl ⟨⟨_, _, rfl⟩, rfl⟩ ?_ ?_
    · rintro pre3 d post3 rr m9 P3 er3 ⟨⟨x4, x5, rfl⟩, rfl⟩ hP3
      obtain ⟨hk, hn⟩ := hall d (by rw [er3]; simp)
      walk_at "d"
      refine ⟨a, _, _, _, s_Cube_contains, rfl, ha2, List.mem_cons_self, a, dx, s, t, _, _, rfl, ha2, hs, ht, hk, fun _ => ⟨_, rfl, ?_⟩, fun c1 e1 hc1 => ?_⟩
      · refine ⟨a, _, _, _, s_Cube_contains, rfl, ha2, List.mem_cons_self, a, dx, s, t, _, _, rfl, ha2, hs, ht, hk, fun _ => ⟨_, rfl, ?_⟩, fun c1 e1 hc1 => ?_⟩
        · refine ⟨by decide, by decide, _, rfl, sm_bl2 _ _, _, rfl, ?_⟩
          simp only [Bool.not_true, Bool.false_eq_true, if_false]
          exact hP3 _ _ ⟨⟨_, _, rfl⟩, rfl⟩
        · rw [show d = tD c1 from e1, Cell.ok (fin_roll s) (cell_iff.mp hc1)] at hn; cases hn
      · rw [show d = tD c1 from e1, Cell.ok (fin_roll s) (cell_iff.mp hc1)] at hn; cases hn
    · rintro rr m9 ⟨⟨x4, x5, rfl⟩, rfl⟩
      walk_at "d"
      exact end_rtL (fun _ _ e => e) (q _ le2)
theorem eqc {m : Mu} {a dx b dy : Addr} {s f : Sch} {t u : List Int} {p p2 : List (List Int)} {g : Bool → Bool} {Q : DK} (ha : m a = some (cubM dx s t p)) (hb : m b = some (cubM dy f u p2)) (q : Q (.bl (g (decide (s = f) && decide (t = u)))) m) : aEqO [("Cube", s_Cube_eq)] g (.ref a) (.ref b) m Q :=
  ⟨a, _, dx, _, s_Cube_eq, rfl, ha, List.mem_cons_self, .inr ⟨_, _, _, rfl, hb⟩, a, dx, s, t, _, _, rfl, ha, .inr ⟨b, dy, f, u, _, rfl, hb, _, rfl, q⟩⟩
theorem eqn {m : Mu} {a dx : Addr} {s : Sch} {t : List Int} {p : List (List Int)} {d : D} {ty : String} {g : Bool → Bool} {Q : DK} (ha : m a = some (cubM dx s t p)) (e : tyN d m = some ty) (ne : ty ≠ "object") (q : Q (.bl (g false)) m) : aEqO [("Cube", s_Cube_eq)] g (.ref a) d m Q :=
  ⟨a, _, dx, _, s_Cube_eq, rfl, ha, List.mem_cons_self, .inl ⟨ty, e, ne⟩, a, dx, s, t, _, _, rfl, ha, .inl ⟨⟨ty, e, ne⟩, _, rfl, q⟩⟩
theorem eqr {m : Mu} {a dx : Addr} {s : Sch} {t : List Int} {p : List (List Int)} {d : D} {ty : String} {Q : DK} (ha : m a = some (cubM dx s t p)) (e : tyN d m = some ty) (ne : ty ≠ "object") (q : Q (.bl false) m) : aEqR [("Cube", s_Cube_eq)] d (.ref a) m Q :=
  ⟨a, _, dx, _, s_Cube_eq, ty, rfl, ha, List.mem_cons_self, e, ne, a, dx, s, t, _, _, rfl, ha, .inl ⟨⟨ty, e, ne⟩, _, rfl, q⟩⟩
def s_law : DSp := fun ds m Q => ∃ ns : List Int, ds = [.scr (ns.map D.int)] ∧ ns.length ≤ 63 ∧ ∀ m', Q (.bl true) m'
theorem l_law : ∀ ds m Q, s_law ds m Q → ds.length = 1 := by rintro ds m Q ⟨ns, rfl, _⟩; rfl
theorem s_law_ok (ns : List Int) (Q : DK) (h : ns.length ≤ 63) (hQ : ∀ m, Q (.bl true) m) : s_law [.scr (ns.map D.int)] (fun _ => none) Q := ⟨ns, rfl, h, hQ⟩
def t_law : DS := (xSeq (xFor (sRg1 (dC (.int 3))) (gV 1) (xSeq (xAsg (dCB s_law_cell (dCons (dVar 0) (dCons (dVar 1) dNil))) (gV 2))
  (xFor (sRg1 (dC (.int 3))) (gV 3) (xSeq (xAsg (dCB s_law_scheme (dCons (dOp aAdd (dVar 2) (dOp aMulA (dC (.int 31)) (dVar 3))) dNil)) (gV 4))
  (xSeq (xAsg (dCB s_law_scheme (dCons (dOp aAdd (dOp aAdd (dOp aDiv (dVar 2) (dC (.int 3))) (dC (.int 7))) (dVar 3)) dNil)) (gV 5))
  (xSeq (xAsg (dCB s_law_table (dCons (dOp aAdd (dOp aDiv (dVar 2) (dC (.int 5))) (dVar 3)) (dCons (dVar 4) (dCons (dC (.int 1)) dNil)))) (gV 6))
  (xSeq (xAsg (dTup (dCons (dNX (dMakeX "Cube" (dflX [.non] s_Cube_init) (dCons (dVar 4) (dCons (dVar 6) dNil)))) (dCons (dNX (dMakeX "Cube" (dflX [.non] s_Cube_init) (dCons (dVar 4) dNil))) dNil))) (gT 2 (gC (gV 11) (gC (gV 12) gN))))
  (xSeq (xIf (dNot (dTest (dCB s_law_is_in (dCons (dVar 11) (dCons (dVar 4) (dCons (dVar 6) dNil)))))) (xRet (dC (.bl false))) xNext)
  (xSeq (xDrop (dNX (dMethX [("Cube", s_Cube_assign_table)] "assign_table" (dVar 12) (dCons (dVar 6) dNil))))
  (xSeq (xIf (dNot (dTest (dCB s_law_is_same (dCons (dTup (dCons (dOp (aEqO [("Cube", s_Cube_eq)] (fun b => b)) (dVar 11) (dVar 12)) (dCons (dOp (aEqO [("Cube", s_Cube_eq)] (fun b => b)) (dVar 12) (dVar 11)) (dCons (dOp (aEqO [("Cube", s_Cube_eq)] (fun b => !b)) (dVar 11) (dVar 12)) dNil)))) (dCons (dTup (dCons (dC (.bl true)) (dCons (dC (.bl true)) (dCons (dC (.bl false)) dNil)))) dNil))))) (xRet (dC (.bl false))) xNext)
  (xSeq (xDrop (dNX (dMethX [("Cube", s_Cube_put)] "put" (dVar 12) (dCons (dOp aMulA (dTup (dCons (dC (.int 0)) dNil)) (dCB aLen (dCons (dVar 4) dNil))) (dCons (dC (.int 1)) dNil)))))
  (xSeq (xAsg (dNX (dMakeX "Cube" (dflX [.non] s_Cube_init) (dCons (dVar 5) dNil))) (gV 7))
  (xSeq (xAsg (dAndV (dOp aEq (dVar 5) (dVar 4)) (dOp aEq (dVar 6) (dOp aMulA (dTup (dCons (dC (.int 0)) dNil)) (dCB aLen (dCons (dVar 6) dNil))))) (gV 8))
  (xSeq (xAsg (dTup (dCons (dOp (aEqO [("Cube", s_Cube_eq)] (fun b => b)) (dVar 11) (dVar 12)) (dCons (dOp (aEqO [("Cube", s_Cube_eq)] (fun b => !b)) (dVar 11) (dVar 12)) (dCons (dOp (aEqO [("Cube", s_Cube_eq)] (fun b => b)) (dVar 11) (dVar 7)) (dCons (dOp (aEqO [("Cube", s_Cube_eq)] (fun b => b)) (dVar 7) (dVar 11)) (dCons (dOp (aEqO [("Cube", s_Cube_eq)] (fun b => !b)) (dVar 11) (dVar 7)) dNil)))))) (gV 9))
  (xSeq (xIf (dNot (dTest (dCB s_law_is_same (dCons (dVar 9) (dCons (dTup (dCons (dC (.bl false)) (dCons (dC (.bl true)) (dCons (dVar 8) (dCons (dVar 8) (dCons (dNotV (dVar 8)) dNil)))))) dNil))))) (xRet (dC (.bl false))) xNext)
  (xSeq (xFor (sSeq (dLst (dCons (dC .non) (dCons (dC (.int 0)) (dCons (dC (.bl true)) (dCons (dC (.str (Str.ofString ""))) (dCons (dReprO [("Cube", s_Cube_repr)] (dVar 11)) (dCons (dVar 6) (dCons (dVar 4) (dCons (dTup (dCons (dVar 4) (dCons (dVar 6) dNil))) (dCons (dLst (dCons (dVar 11) dNil)) (dCons dNewE (dCons (dCB aList (dCons (dVar 6) dNil)) dNil))))))))))))) (gV 10) (xIf (dNot (dTest (dCB s_law_is_same (dCons (dTup (dCons (dOp (aEqO [("Cube", s_Cube_eq)] (fun b => b)) (dVar 11) (dVar 10)) (dCons (dOp (aEqR [("Cube", s_Cube_eq)]) (dVar 10) (dVar 11)) (dCons (dOp (aEqO [("Cube", s_Cube_eq)] (fun b => !b)) (dVar 11) (dVar 10)) dNil)))) (dCons (dTup (dCons (dC (.bl false)) (dCons (dC (.bl false)) (dCons (dC (.bl true)) dNil)))) dNil))))) (xRet (dC (.bl false))) xNext))
  (xIf (dTest (dOp aNotInS (dLam sdC (dGetO [("Cube", s_Cube_getitem)] (dVar 11) (dTup (dCons (dC (.int 0)) dNil)))) (dTup (dCons (dC (.str (Str.ofString ""))) (dCons (dC (.str (Str.ofString "rollup"))) dNil))))) (xRet (dC (.bl false))) xNext)))))))))))))))))
  (xRet (dC (.bl true))))
theorem v_law : Body 13 t_law s_law := by
  rintro ds m Q ⟨ns, rfl, hl, q⟩
  have hq : ∀ m', (endD m Q).rt (.bl true) m' := fun m' => end_rtL (m2 := m') (fun _ _ e => e) (q m')
  unfold t_law
  walk_at "d"
  refine ⟨by decide, by decide, ?_⟩
  rw [show rgD 0 3 = (List.range 3).map nD from rgD_nat 3]
  refine forGo_take (enc := nD) (fun _ rr m' => ∃ x1 x2 x3 x4 x5 x6 x7 x8 x9 x10 x11 x12, rr = [some (.scr (ns.map D.int)), x1, x2, x3, x4, x5, x6, x7, x8, x9, x10, x11, x12]) (List.range 3) [] _ _ _ rfl ⟨none, none, none, none, none, none, none, none, none, none, none, none, rfl⟩ ?_ ?_
  · rintro pre k post rr m' P er ⟨x1, x2, x3, x4, x5, x6, x7, x8, x9, x10, x11, x12, rfl⟩ hP
    unfold nD
    walk_at "d"
    refine ⟨ns, _, rfl, by omega, fun z => ⟨by decide, by decide, ?_⟩⟩
    rw [show rgD 0 3 = (List.range 3).map nD from rgD_nat 3]
    refine forGo_take (enc := nD) (fun pr rr m2 => ∃ x1 x3 x4 x5 x6 x7 x8 x9 x10 x11 x12, rr = [some (.scr (ns.map D.int)), x1, some (.int z), x3, x4, x5, x6, x7, x8, x9, x10, x11, x12]) (List.range 3) [] _ _ _ rfl ⟨_, x3, x4, x5, x6, x7, x8, x9, x10, x11, x12, rfl⟩ ?_ ?_
    · rintro pre2 lap post2 rr m2 P2 er2 ⟨x1, x3, x4, x5, x6, x7, x8, x9, x10, x11, x12, rfl⟩ hP2
      unfold nD
      walk_at "d"
      refine ⟨.inl ⟨by decide, by decide⟩, _, rfl, fun s hs => ⟨⟨by decide, by decide⟩, _, rfl, fun f hf => ⟨⟨by decide, by decide⟩, _, s, 1, rfl, hs, by decide, by decide, fun t ht tb => ?_⟩⟩⟩
      have h1 := hs.1; have h3 := hs.2.1
      have pz : 1 ≤ prodN (s.map At.n) := by rw [← szs_fin]; exact prod_pos hs (fin_roll s)
      have pl : prodN (s.map At.n) ≤ 60 := by rw [← szs_fin]; exact szs_prod hs (fin_roll s)
      have ef : .tup (List.replicate s.length [D.int 0]).flatten = tD (finN s) := by rw [rep_tD']; unfold tD finN; rw [List.map_replicate]
      obtain ⟨hin, hpf⟩ := fin_first hs
      have ha1 : t.sum.natAbs < 10 ^ 18 := by
        have h6 := sum_abs t 1 (fun x hx => by have := tb x hx; omega)
        omega
      intro a dx ha hdx hne
      refine made (t := t) hs ha hdx hne (.inr (.inr ⟨rfl, ht⟩)) fun m3 h3' le3 => ?_
      intro b dy hb hdy hne2
      refine made (t := zerF s) hs hb hdy hne2 (.inl ⟨rfl, rfl⟩) fun m4 hb4 le4 => ?_
      have hab : a ≠ b := fun e => by rw [e, hb] at h3'; cases h3'
      have ha4 := le4 _ _ h3'
      refine ⟨by decide, a, dx, s, t, rfl, ha4, hs, ht, fun m5 le5 => ⟨_, rfl, ?_⟩⟩
      have ha5 := le5 _ _ ha4
      have hb5 := le5 _ _ hb4
      simp only [Bool.not_true, Bool.false_eq_true, if_false]
      refine ⟨_, _, _, hb5, s_Cube_assign_table, List.mem_cons_self, rfl, b, dy, s, zerF s, [], _, rfl, hb5, hs, by decide, kn_iD _ _, (fun h => by rw [isAm_ok (by rw [szs_fin]; exact ht)] at h; cases h), fun u' e' hu' => ?_⟩
      rw [← iD_inj e']
      obtain ⟨m6, hm6⟩ : ∃ m6, m6 = up m5 b (cubM dy s t ([] ++ [zerF s])) := ⟨_, rfl⟩
      have hb6 : m6 b = some (cubM dy s t ([] ++ [zerF s])) := by rw [hm6, up_same]
      have ha6 : m6 a = some (cubM dx s t []) := by rw [hm6, up_ne hab]; exact ha5
      rw [← hm6]
      refine eqc ha6 hb6 (eqc hb6 ha6 (eqc ha6 hb6 ?_))
      simp only [decide_true, Bool.and_self]
      refine ⟨by decide, by decide, _, rfl, sm_bls [true, true, false] (by decide), _, rfl, ?_⟩
      simp only [Bool.not_true, Bool.false_eq_true, if_false]
      rw [show encS s = .tup (s.map At.enc) from rfl]
      walk_at "d"
      rw [List.length_map]
      refine ⟨_, _, _, hb6, s_Cube_put, List.mem_cons_self, rfl, by decide, by simp, by simp, by omega, by omega, ?_⟩
      rw [Int.toNat_natCast, ef, show D.tup (s.map At.enc) = encS s from rfl]
      refine ⟨b, dy, s, t, _, _, _, rfl, hb6, hs, ht, by simp, kn_tD _ _, Kn.of rfl, (fun h => by rw [Cell.ok (fin_roll s) (cell_iff.mp hin)] at h; cases h), (fun _ h => by cases h), fun c' v' e1 hc' e2 hv' => ?_⟩
      cases e2
      rw [← tD_inj e1, hpf]
      obtain ⟨t1, ht1⟩ : ∃ t1, t1 = moreL t 0 1 := ⟨_, rfl⟩
      have hne1 : t ≠ t1 := fun e => by
        rw [ht1] at e
        match t, ht, e with
        | [], ht, _ => rw [← ht] at pz; simp at pz
        | x :: r, _, e =>
          have e3 : x :: r = (x + 1) :: r := e
          injection e3 with e4
          omega
      rw [← ht1]
      obtain ⟨m7, hm7⟩ : ∃ m7, m7 = up m6 b (cubM dy s t1 (([] ++ [zerF s]) ++ [t])) := ⟨_, rfl⟩
      have hb7 : m7 b = some (cubM dy s t1 (([] ++ [zerF s]) ++ [t])) := by rw [hm7, up_same]
      have ha7 : m7 a = some (cubM dx s t []) := by rw [hm7, up_ne hab]; exact ha6
      rw [← hm7]
      intro c dz hc hdz hne3
      refine made (t := zerF f) hf hc hdz hne3 (.inl ⟨rfl, rfl⟩) fun m8 hc8 le8 => ?_
      have ha8 := le8 _ _ ha7
      have hb8 := le8 _ _ hb7
      refine aEq_encS ⟨_, rfl, ?_⟩
      by_cases hfs : f = s
      rw [if_pos (by simpa using hfs)]
      refine ⟨by decide, ?_⟩
      unfold iD
      walk_at "d"
      rw [List.length_map]
      refine ⟨by simp, by simp, by omega, by omega, ?_⟩
      rw [Int.toNat_natCast, rep_iF]
      refine aEq_iD (a := t) (b := List.replicate t.length 0) ?_
      obtain ⟨B, hB⟩ : ∃ B, B = decide (t = List.replicate t.length 0) := ⟨_, rfl⟩
      have ez : zerF f = List.replicate t.length 0 := by rw [ht, hfs]; rfl
      have hB1 : (decide (s = f) && decide (t = zerF f)) = B := by rw [hB, ez, decide_eq_true hfs.symm, Bool.true_and]
      have hB2 : (decide (f = s) && decide (zerF f = t)) = B := by rw [hB, ez, decide_eq_true hfs, Bool.true_and]; exact decide_eq_decide.mpr ⟨Eq.symm, Eq.symm⟩
      rw [← hB]
      clear hB
      refine eqc ha8 hb8 (eqc ha8 hb8 (eqc ha8 hc8 (eqc hc8 ha8 (eqc ha8 hc8 ?_))))
      simp only [decide_eq_false hne1, Bool.and_false, hB1, hB2, Bool.not_false]
      refine ⟨by decide, B, rfl, by decide, _, rfl, sm_bls [false, true, B, B, !B] (by simp), _, rfl, ?_⟩
      simp only [Bool.not_true, Bool.false_eq_true, if_false]
      generalize some (D.tup [D.bl false, D.bl true, D.bl B, D.bl B, D.bl !B]) = y9
      generalize some (D.bl B) = y8
      rotate_left
      rw [if_neg (by simpa using hfs)]
      have hB1 : (decide (s = f) && decide (t = zerF f)) = false := by rw [decide_eq_false fun e => hfs e.symm, Bool.false_and]
      have hB2 : (decide (f = s) && decide (zerF f = t)) = false := by rw [decide_eq_false hfs, Bool.false_and]
      refine eqc ha8 hb8 (eqc ha8 hb8 (eqc ha8 hc8 (eqc hc8 ha8 (eqc ha8 hc8 ?_))))
      simp only [decide_eq_false hne1, Bool.and_false, hB1, hB2, Bool.not_false]
      refine ⟨by decide, by decide, _, rfl, sm_bls [false, true, false, false, true] (by simp), _, rfl, ?_⟩
      simp only [Bool.not_true, Bool.false_eq_true, if_false]
      generalize some (D.tup [D.bl false, D.bl true, D.bl false, D.bl false, D.bl true]) = y9
      generalize some (D.bl false) = y8
      unfold iD
      all_goals
        unfold dReprO dSpO
        walk_at "d"
        refine ⟨_, _, _, ha8, s_Cube_repr, List.mem_cons_self, a, dx, s, t, _, rfl, ha8, by omega, ha1, ⟨_, rfl⟩, small (k := 1000) (by decide), ?_⟩
        refine ⟨by decide, fun p hp => ?_⟩
        obtain ⟨m9, hm9⟩ : ∃ m3, m3 = up m8 p .dE := ⟨_, rfl⟩
        have le9 : ∀ z o, m8 z = some o → m9 z = some o := fun z o e => by rw [hm9]; exact le_up hp _ _ e
        have hp9 : tyN (.ref p) m9 = some "dict" := by rw [hm9]; simp [tyN, up_same]
        have ha9 := le9 _ _ ha8
        rw [← hm9]
        refine ⟨_, _, rfl, rfl, by decide, ?_⟩
        obtain ⟨S, hS⟩ : ∃ S : Str, S = Str.empty ++ Str.ofString "Cube(" ++ numS ((nzN t : Nat) : Int) ++ Str.ofString " cells, total " ++ numS t.sum ++ Str.ofString ")" := ⟨_, rfl⟩
        rw [← hS]
        have hall : ∀ d ∈ [D.non, D.int 0, D.bl true, D.str (Str.ofString ""), D.str S, D.tup (t.map D.int), encS s, D.tup [encS s, D.tup (t.map D.int)], D.lst [D.ref a], D.ref p, D.lst (t.map D.int)], ∃ ty, tyN d m9 = some ty ∧ ty ≠ "object" := by
          iterate 9 refine List.forall_mem_cons.mpr ⟨⟨_, rfl, by decide⟩, ?_⟩
          refine List.forall_mem_cons.mpr ⟨⟨"dict", hp9, by decide⟩, ?_⟩
          exact List.forall_mem_cons.mpr ⟨⟨_, rfl, by decide⟩, fun _ h => nomatch h⟩
        obtain ⟨L, hL⟩ : ∃ L, L = [D.non, D.int 0, D.bl true, D.str (Str.ofString ""), D.str S, D.tup (t.map D.int), encS s, D.tup [encS s, D.tup (t.map D.int)], D.lst [D.ref a], D.ref p, D.lst (t.map D.int)] := ⟨_, rfl⟩
        rw [← hL] at hall ⊢
        refine ⟨_, .inl rfl, ?_⟩
        rw [← List.map_id L]
        refine forGo_take (enc := id) (fun _ rr m4 => (∃ x10, rr = [some (.scr (ns.map D.int)), x1, some (.int z), some (.int lap), some (encS s), some (encS f), some (iD t), some (.ref c), y8, y9, x10, some (.ref a), some (.ref b)]) ∧ m4 = m9) L [] _ _ _ rfl ⟨⟨x10, rfl⟩, rfl⟩ ?_ ?_
        · rintro pre3 d post3 rr m10 P3 er3 ⟨⟨x10, rfl⟩, rfl⟩ hP3
          obtain ⟨ty, hty, hne9⟩ := hall d (by rw [er3]; simp)
          walk_at "d"
          refine eqn ha9 hty hne9 (eqr ha9 hty hne9 (eqn ha9 hty hne9 ?_))
          refine ⟨by decide, by decide, _, rfl, sm_bls [false, false, true] (by decide), _, rfl, ?_⟩
          simp only [Bool.not_true, Bool.false_eq_true, if_false]
          exact hP3 _ _ ⟨⟨_, rfl⟩, rfl⟩
        · rintro rr m10 ⟨⟨x10, rfl⟩, rfl⟩
          walk_at "d"
          refine ⟨by decide, _, _, _, ha9, s_Cube_getitem, List.mem_cons_self, a, dx, s, t, _, _, rfl, ha9, hs, kn_t1 (Kn.of rfl), fun _ => ?_, fun r e hr => ?_⟩
          · refine ⟨("RollupError", "rollup"), by decide, rfl, rfl, by decide, _, [Str.ofString "", Str.ofString "rollup"], rfl, rfl, _, rfl, ?_⟩
            rw [if_neg (by decide)]
            exact hP2 _ _ ⟨_, _, _, _, _, _, _, _, _, _, _, rfl⟩
          · refine ⟨by decide, _, [Str.ofString "", Str.ofString "rollup"], rfl, rfl, _, rfl, ?_⟩
            rw [if_neg (by decide)]
            exact hP2 _ _ ⟨_, _, _, _, _, _, _, _, _, _, _, rfl⟩
    · rintro rr m2 ⟨x1, x3, x4, x5, x6, x7, x8, x9, x10, x11, x12, rfl⟩
      exact hP _ _ ⟨_, _, _, _, _, _, _, _, _, _, _, _, rfl⟩
  · rintro rr m' ⟨x1, x2, x3, x4, x5, x6, x7, x8, x9, x10, x11, x12, rfl⟩
    walk_at "d"
    exact hq _
end C.V49
end Mn

set_option Elab.async false
set_option linter.all false
set_option maxRecDepth 100000
set_option maxHeartbeats 4000000
set_option autoImplicit false
namespace Mn
open PySem PySem.Spec PyProof.Rows L2
variable [Tbs]
section
variable {P : Program} {w : World} {K : PySem.W.Frag} {mg : Str → Option Value} {base : Heap}
theorem clGX_of {c qual : Str} {k : Nat} {d : DSpX} {st : Stmt} {fd : FuncData} (g : (He.Fa.glo c).ok K = true) (me : (He.Fa.meth c "__getitem__").ok K = true) (F : Fun K "__getitem__" qual st (He.ma K (He.ga K c) "__getitem__") fd) (R : RnX P w K mg base k (He.ma K (He.ga K c) "__getitem__") d) : ClGX P w K mg base c k d := by
  refine ⟨_, _, cls_of g, He.meth_ok me, ?_, R⟩
  obtain ⟨oc, od, kV, doc, pm, an, cdv, ct, osl, rfl, lk, hcd⟩ := F.ex
  unfold PySem.W.fnIn
  rw [lk]
end
end Mn

set_option Elab.async false
set_option linter.all false
set_option maxRecDepth 100000
set_option maxHeartbeats 4000000
set_option autoImplicit false
namespace Mn
open PySem PySem.Spec PyProof.Rows L2
variable [Tbs]
/-! operators, ==, isinstance, class methods: what the top leaves -/
section
variable {P : Program} {w : World} {K : PySem.W.Frag} {mg : Str → Option Value} {base : Heap}
theorem clEX_of {c : Str} {k : Nat} {d : DSpX} (g : (He.Fa.glo c).ok K = true) (me : (He.Fa.meth c "__eq__").ok K = true) (eb : eqB K (He.ga K c) = true) (R : RnX P w K mg base k (He.ma K (He.ga K c) "__eq__") d) : ClEX P w K mg base c k d := by
  obtain ⟨h1, h2⟩ := He.ba eb
  exact ⟨_, _, cls_of g, He.meth_ok me, of_decide_eq_true h1, of_decide_eq_true h2, R⟩
theorem isC_of {h : Heap} {c : Str} {tab : List (Str × Bool)} (X : K.In h) (G : h.Ns mainGlobals mg) (g : (He.Fa.glo c).ok K = true) (cb : clsB K (He.ga K c) = true) (ht : ∀ p ∈ tab, (He.Fa.glo p.1).ok K = true ∧ kitB2 K (He.ga K p.1) (He.ga K c) p.2 = true) : IsC w K mg c tab := by
  refine ⟨_, He.glo_ok X G g, cls_of g, cb, fun p hp C' hC => ?_⟩
  obtain ⟨h1, h2⟩ := ht p hp
  obtain rfl := cls_one hC (cls_of (w := w) h1)
  exact of_decide_eq_true h2
end
end Mn

set_option linter.all false
set_option autoImplicit false
namespace Mn
open PySem PySem.Spec PyProof.Rows L2
variable [Tbs]
variable {w : World} {K : PySem.W.Frag}
theorem notC_of {c : Str} (g : (He.Fa.glo c).ok K = true) (nb : notB K (He.ga K c) = true) : NotC w K c := fun C hC => by
  obtain rfl := cls_one hC (cls_of (w := w) g)
  exact nb
end Mn

set_option Elab.async false
set_option linter.all false
set_option maxHeartbeats 4000000
set_option autoImplicit false
set_option maxRecDepth 100000
namespace Mn
open PySem PySem.Spec PyProof.Rows L2
variable [Tbs]
namespace C.V49
theorem sc_law_cell : FnScope ["_law_script", "_law_k"] ["_law_script", "_law_k"] (defScope st_law_cell) := ⟨rfl, rfl, rfl, by decide +kernel, rfl, by decide +kernel, by decide +kernel⟩
theorem ok_law_cell {P : Program} {w : World} {K : PySem.W.Frag} {mg : Str → Option Value} {base : Heap} (B : Bts mg) (h : ∃ f fd, Df K mg "_law_cell" st_law_cell ["_law_script", "_law_k"] f fd) : Cl P w K mg base "_law_cell" 1 ["_law_script", "_law_k"] s_law_cell :=
  fnC h sc_law_cell l_law_cell v_law_cell fun f cdv A outer s H E gd room =>
    (pdss_cons (pds_if (pdt_cmp op_lt (c2_cmp _) (pd_var (pv 1)) (pd_callB callR_len cl_len (by rfl) B.len (by decide +kernel) (pda_cons (pd_var (pv 0)) pda_nil)) (nomark _)) (pdss_one (pds_ret (pd_ix room.u65 (pd_var (pv 0)) (pd_var (pv 1))))) pdss_nil)
    (pdss_one (pds_ret pd_int)))

theorem sc_law_draws : FnScope ["_law_cell_here", "_law_bounds", "_law_found", "_law_k", "_law_left", "_law_below_here", "_law_mixed"] ["_law_cell_here", "_law_bounds"] (defScope st_law_draws) := ⟨rfl, rfl, rfl, by decide +kernel, rfl, by decide +kernel, by decide +kernel⟩
theorem ok_law_draws {P : Program} {w : World} {K : PySem.W.Frag} {mg : Str → Option Value} {base : Heap} (B : Bts mg) (h : ∃ f fd, Df K mg "_law_draws" st_law_draws ["_law_cell_here", "_law_bounds"] f fd) : Cl P w K mg base "_law_draws" 1 ["_law_cell_here", "_law_bounds"] s_law_draws :=
  fnC h sc_law_draws l_law_draws v_law_draws fun f cdv A outer s H E gd room =>
    (pdss_cons (pds_set (i := 2) sc_law_draws.nd rfl (by first | exact Or.inl rfl | exact Or.inr rfl) (pd_lstM pda_nil))
    (pdss_cons (pds_if (pdt_cmp op_ge (c2_cmp _) (pd_var (pv 0)) (pd_op op_pow c2_pow pd_int pd_int) (nomark _)) (pdss_cons (pds_set (i := 4) sc_law_draws.nd rfl (by first | exact Or.inl rfl | exact Or.inr rfl) (pd_op op_sub c2_sub (pd_var (pv 0)) (pd_op op_pow c2_pow pd_int pd_int)))
    (pdss_cons (pds_for PassesOwn.never rfl (pdi_seq (pd_var (pv 1))) (pg_name (i := 5) sc_law_draws.nd rfl (by first | exact Or.inl rfl | exact Or.inr rfl)) (gc_name (vs := [5]) (i := 5) (by decide)) (pdss_cons (pds_drop (pd_append (pd_var (pv 2)) (pd_op op_mod c2_mod (pd_var (pv 4)) (pd_var (pv 5)))))
    (pdss_one (pds_set (i := 4) sc_law_draws.nd rfl (by first | exact Or.inl rfl | exact Or.inr rfl) (pd_op op_fdiv c2_div (pd_var (pv 4)) (pd_var (pv 5)))))))
    (pdss_one (pds_retF (pv 2))))) pdss_nil)
    (pdss_cons (pds_for PassesOwn.never rfl (pdi_rg1 (pd_callB callR_len cl_len (by rfl) B.len (by decide +kernel) (pda_cons (pd_var (pv 1)) pda_nil)) (by rfl) B.range) (pg_name (i := 3) sc_law_draws.nd rfl (by first | exact Or.inl rfl | exact Or.inr rfl)) (gc_name (vs := [3]) (i := 3) (by decide)) (pdss_cons (pds_set (i := 6) sc_law_draws.nd rfl (by first | exact Or.inl rfl | exact Or.inr rfl) (pd_op op_mod c2_mod (pd_op op_addA c2_add (pd_op op_addA c2_add (pd_op op_mulA c2_mulA (pd_var (pv 0)) pd_int) (pd_op op_mulA c2_mulA (pd_var (pv 3)) pd_int)) pd_int) pd_int))
    (pdss_cons (pds_set (i := 6) sc_law_draws.nd rfl (by first | exact Or.inl rfl | exact Or.inr rfl) (pd_op op_mod c2_mod (pd_op op_addA c2_add (pd_op op_mulA c2_mulA (pd_var (pv 6)) pd_int) (pd_var (pv 3))) pd_int))
    (pdss_one (pds_drop (pd_append (pd_var (pv 2)) (pd_op op_mod c2_mod (pd_var (pv 6)) (pd_ix room.u65 (pd_var (pv 1)) (pd_var (pv 3))))))))))
    (pdss_one (pds_retF (pv 2))))))

theorem sc_law_attribute : FnScope ["_law_numbers", "_law_groups", "_law_turn", "_law_many", "_law_steps", "_law_wide", "_law_by", "_law_row", "_law_at"] ["_law_numbers"] (defScope st_law_attribute) := ⟨rfl, rfl, rfl, by decide +kernel, rfl, by decide +kernel, by decide +kernel⟩
theorem ok_law_attribute {P : Program} {w : World} {K : PySem.W.Frag} {mg : Str → Option Value} {base : Heap} (B : Bts mg) (h : ∃ f fd, Df K mg "_law_attribute" st_law_attribute ["_law_numbers"] f fd) : Cl P w K mg base "_law_attribute" 1 ["_law_numbers"] s_law_attribute :=
  fnC h sc_law_attribute l_law_attribute v_law_attribute fun f cdv A outer s H E gd room =>
    (pdss_cons (pds_par (i := 3) (j := 4) rfl sc_law_attribute.nd rfl rfl (by decide) rfl rfl (pda_cons (pd_ix room.u65 (pd_tup (pda_cons pd_int (pda_cons pd_int (pda_cons pd_int (pda_cons pd_int (pda_cons pd_int (pda_cons pd_int (pda_cons pd_int (pda_cons pd_int pda_nil))))))))) (pd_op op_mod c2_mod (pd_ix room.u65 (pd_var (pv 0)) pd_int) pd_int)) (pda_cons (pd_lstM pda_nil) pda_nil)) (by rfl))
    (pdss_cons (pds_set (i := 1) sc_law_attribute.nd rfl (by first | exact Or.inl rfl | exact Or.inr rfl) (pd_var (pv 3)))
    (pdss_cons (pds_for PassesOwn.never rfl (pdi_rg1 (pd_op op_mod c2_mod (pd_ix room.u65 (pd_var (pv 0)) pd_int) pd_int) (by rfl) B.range) (pg_name (i := 2) sc_law_attribute.nd rfl (by first | exact Or.inl rfl | exact Or.inr rfl)) (gc_name (vs := [2]) (i := 2) (by decide)) (pdss_one (pds_if (pdt_cmp op_gt (c2_cmp _) (pd_var (pv 1)) pd_int (nomark _)) (pdss_cons (pds_set (i := 5) sc_law_attribute.nd rfl (by first | exact Or.inl rfl | exact Or.inr rfl) (pd_op op_addA c2_add pd_int (pd_op op_mod c2_mod (pd_ix room.u65 (pd_var (pv 0)) (pd_op op_addA c2_add pd_int (pd_var (pv 2)))) (pd_op op_sub c2_sub (pd_var (pv 1)) pd_int))))
    (pdss_cons (pds_set (i := 6) sc_law_attribute.nd rfl (by first | exact Or.inl rfl | exact Or.inr rfl) (pd_op op_mod c2_mod (pd_ix room.u65 (pd_var (pv 0)) (pd_op op_addA c2_add pd_int (pd_var (pv 2)))) (pd_var (pv 1))))
    (pdss_cons (pds_setLc (i := 7) (own := [("_law_at", 8)]) (dg := (gV 8)) (tt := dYes) (te := (dIf (dTest (dOp aLt (dVar 8) (dVar 5))) (dVar 8) (dOp aMod (dOp aAdd (dOp aMulA (dVar 8) (dC (.int 7))) (dOp aIx (dVar 0) (dOp aAdd (dC (.int 5)) (dVar 2)))) (dVar 5)))) rfl sc_law_attribute.nd rfl rfl (sw_true rfl rfl rfl (by decide +kernel)) (pdi_rg1 (pd_var (pv 1)) (by rfl) B.range) (blkOk_by (own := [("_law_at", 8)]) (by rfl)) (gc_name (vs := [8]) (i := 8) (by decide)) (fun _ _ _ _ _ => (pg_name (i := 8) sc_law_attribute.nd rfl (by first | exact Or.inl rfl | exact Or.inr rfl))) (fun _ _ _ _ _ => pdts_nil) (fun _ _ _ _ _ => (pd_if (pdt_cmp op_lt (c2_cmp _) (pd_var (pv 8)) (pd_var (pv 5)) (nomark _)) (pd_var (pv 8)) (pd_op op_mod c2_mod (pd_op op_addA c2_add (pd_op op_mulA c2_mulA (pd_var (pv 8)) pd_int) (pd_ix room.u65 (pd_var (pv 0)) (pd_op op_addA c2_add pd_int (pd_var (pv 2))))) (pd_var (pv 5))))))
    (pdss_cons (pds_drop (pd_append (pd_var (pv 4)) (pd_callTy call_tuple_ofF cl_tuple (by rfl) B.tuple (by decide +kernel) (pda_cons (pd_op op_addA c2_add (pd_slice (pd_var (pv 7)) (pdo_some (pd_var (pv 6))) pdo_none) (pd_slice (pd_var (pv 7)) pdo_none (pdo_some (pd_var (pv 6))))) pda_nil))))
    (pdss_one (pds_set (i := 1) sc_law_attribute.nd rfl (by first | exact Or.inl rfl | exact Or.inr rfl) (pd_var (pv 5)))))))) pdss_nil)))
    (pdss_one (pds_ret (pd_tup (pda_cons (pd_var (pv 3)) (pda_cons (pd_callTy call_tuple_ofF cl_tuple (by rfl) B.tuple (by decide +kernel) (pda_cons (pd_var (pv 4)) pda_nil)) pda_nil))))))))

theorem sc_law_scheme : FnScope ["_law_cell_here", "_law_at", "_law_numbers", "_law_found", "_law_many", "_law_attribute_here"] ["_law_cell_here"] (defScope st_law_scheme) := ⟨rfl, rfl, rfl, by decide +kernel, rfl, by decide +kernel, by decide +kernel⟩
theorem ok_law_scheme {P : Program} {w : World} {K : PySem.W.Frag} {mg : Str → Option Value} {base : Heap} (B : Bts mg) (h : ∃ f fd, Df K mg "_law_scheme" st_law_scheme ["_law_cell_here"] f fd) (C_law_draws : Cl P w K mg base "_law_draws" 1 ["_law_cell_here", "_law_bounds"] s_law_draws) (C_law_attribute : Cl P w K mg base "_law_attribute" 1 ["_law_numbers"] s_law_attribute) : Cl P w K mg base "_law_scheme" 2 ["_law_cell_here"] s_law_scheme :=
  fnC h sc_law_scheme l_law_scheme v_law_scheme fun f cdv A outer s H E gd room =>
    (pdss_cons (pds_par3 (i := 2) (j := 3) (l := 4) rfl sc_law_scheme.nd rfl rfl rfl (by decide) (by decide) (by decide) rfl rfl rfl (pda_cons (pd_callC C_law_draws (room.mono (by decide)) gd (by rfl) (pda_cons (pd_var (pv 0)) (pda_cons (pd_op op_addA c2_add (pd_lst (pda_cons pd_int pda_nil)) (pd_op op_rep c2_mulL (pd_lst (pda_cons pd_int pda_nil)) pd_int)) pda_nil))) (pda_cons (pd_lstM pda_nil) (pda_cons pd_int pda_nil))) (by rfl))
    (pdss_cons (pds_for PassesOwn.never rfl (pdi_rg1 (pd_op op_addA c2_add pd_int (pd_ix room.u65 (pd_var (pv 2)) pd_int)) (by rfl) B.range) (pg_name (i := 1) sc_law_scheme.nd rfl (by first | exact Or.inl rfl | exact Or.inr rfl)) (gc_name (vs := [1]) (i := 1) (by decide)) (pdss_cons (pds_set (i := 5) sc_law_scheme.nd rfl (by first | exact Or.inl rfl | exact Or.inr rfl) (pd_callC C_law_attribute (room.mono (by decide)) gd (by rfl) (pda_cons (pd_slice (pd_var (pv 2)) (pdo_some (pd_op op_addA c2_add pd_int (pd_op op_mulA c2_mulA pd_int (pd_var (pv 1))))) (pdo_some (pd_op op_addA c2_add pd_int (pd_op op_mulA c2_mulA pd_int (pd_var (pv 1)))))) pda_nil)))
    (pdss_one (pds_if (pdt_cmp op_le (c2_cmp _) (pd_op op_mulA c2_mulA (pd_var (pv 4)) (pd_ix room.u65 (pd_var (pv 5)) pd_int)) pd_int (nomark _)) (pdss_cons (pds_drop (pd_append (pd_var (pv 3)) (pd_var (pv 5))))
    (pdss_one (pds_set (i := 4) sc_law_scheme.nd rfl (by first | exact Or.inl rfl | exact Or.inr rfl) (pd_op op_mulA c2_mulA (pd_var (pv 4)) (pd_ix room.u65 (pd_var (pv 5)) pd_int))))) pdss_nil))))
    (pdss_one (pds_ret (pd_callTy call_tuple_ofF cl_tuple (by rfl) B.tuple (by decide +kernel) (pda_cons (pd_var (pv 3)) pda_nil))))))

theorem sc_law_below : FnScope ["_law_numbers", "_law_found", "_law_many", "_law_later", "_law_row", "_law_one"] ["_law_numbers"] (defScope st_law_below) := ⟨rfl, rfl, rfl, by decide +kernel, rfl, by decide +kernel, by decide +kernel⟩
theorem ok_law_below {P : Program} {w : World} {K : PySem.W.Frag} {mg : Str → Option Value} {base : Heap} (B : Bts mg) (h : ∃ f fd, Df K mg "_law_below" st_law_below ["_law_numbers"] f fd) : Cl P w K mg base "_law_below" 1 ["_law_numbers"] s_law_below :=
  fnC h sc_law_below l_law_below v_law_below fun f cdv A outer s H E gd room =>
    (pdss_cons (pds_set (i := 1) sc_law_below.nd rfl (by first | exact Or.inl rfl | exact Or.inr rfl) (pd_lst (pda_cons (pd_tup pda_nil) pda_nil)))
    (pdss_cons (pds_for PassesOwn.never rfl (pdi_seq (pd_var (pv 0))) (pg_name (i := 2) sc_law_below.nd rfl (by first | exact Or.inl rfl | exact Or.inr rfl)) (gc_name (vs := [2]) (i := 2) (by decide)) (pdss_cons (pds_set (i := 3) sc_law_below.nd rfl (by first | exact Or.inl rfl | exact Or.inr rfl) (pd_lstM pda_nil))
    (pdss_cons (pds_for PassesOwn.never rfl (pdi_seq (pd_var (pv 1))) (pg_name (i := 4) sc_law_below.nd rfl (by first | exact Or.inl rfl | exact Or.inr rfl)) (gc_name (vs := [4]) (i := 4) (by decide)) (pdss_one (pds_drop (pd_extend (pd_var (pv 3)) (pd_lc (own := [("_law_one", 5)]) (dg := (gV 5)) (tt := dYes) (te := (dOp aAdd (dVar 4) (dTup (dCons (dVar 5) dNil)))) rfl sc_law_below.nd  (pdi_rg1 (pd_var (pv 2)) (by rfl) B.range) (blkOk_by (own := [("_law_one", 5)]) (by rfl)) (gc_name (vs := [5]) (i := 5) (by decide)) (fun _ _ _ _ _ => (pg_name (i := 5) sc_law_below.nd rfl (by first | exact Or.inl rfl | exact Or.inr rfl))) (fun _ _ _ _ _ => pdts_nil) (fun _ _ _ _ _ => (pd_op op_addA c2_add (pd_var (pv 4)) (pd_tup (pda_cons (pd_var (pv 5)) pda_nil)))))))))
    (pdss_one (pds_set (i := 1) sc_law_below.nd rfl (by first | exact Or.inl rfl | exact Or.inr rfl) (pd_frz (pv 3)))))))
    (pdss_one (pds_ret (pd_var (pv 1))))))

theorem sc_law_fine_cells : FnScope ["_law_scheme_here", "_law_attribute_here"] ["_law_scheme_here"] (defScope st_law_fine_cells) := ⟨rfl, rfl, rfl, by decide +kernel, rfl, by decide +kernel, by decide +kernel⟩
theorem ok_law_fine_cells {P : Program} {w : World} {K : PySem.W.Frag} {mg : Str → Option Value} {base : Heap} (B : Bts mg) (h : ∃ f fd, Df K mg "_law_fine_cells" st_law_fine_cells ["_law_scheme_here"] f fd) (C_law_below : Cl P w K mg base "_law_below" 1 ["_law_numbers"] s_law_below) : Cl P w K mg base "_law_fine_cells" 2 ["_law_scheme_here"] s_law_fine_cells :=
  fnC h sc_law_fine_cells l_law_fine_cells v_law_fine_cells fun f cdv A outer s H E gd room =>
    (pdss_one (pds_ret (pd_callC C_law_below (room.mono (by decide)) gd (by rfl) (pda_cons (pd_lc (own := [("_law_attribute_here", 1)]) (dg := (gV 1)) (tt := dYes) (te := (dOp aIx (dVar 1) (dC (.int 0)))) rfl sc_law_fine_cells.nd  (pdi_seq (pd_var (pv 0))) (blkOk_by (own := [("_law_attribute_here", 1)]) (by rfl)) (gc_name (vs := [1]) (i := 1) (by decide)) (fun _ _ _ _ _ => (pg_name (i := 1) sc_law_fine_cells.nd rfl (by first | exact Or.inl rfl | exact Or.inr rfl))) (fun _ _ _ _ _ => pdts_nil) (fun _ _ _ _ _ => (pd_ix room.u65 (pd_var (pv 1)) pd_int))) pda_nil))))

theorem sc_law_table : FnScope ["_law_cell_here", "_law_scheme_here", "_law_most", "_law_many", "_law_number"] ["_law_cell_here", "_law_scheme_here", "_law_most"] (defScope st_law_table) := ⟨rfl, rfl, rfl, by decide +kernel, rfl, by decide +kernel, by decide +kernel⟩
theorem ok_law_table {P : Program} {w : World} {K : PySem.W.Frag} {mg : Str → Option Value} {base : Heap} (B : Bts mg) (h : ∃ f fd, Df K mg "_law_table" st_law_table ["_law_cell_here", "_law_scheme_here", "_law_most"] f fd) (C_law_fine_cells : Cl P w K mg base "_law_fine_cells" 2 ["_law_scheme_here"] s_law_fine_cells) (C_law_draws : Cl P w K mg base "_law_draws" 1 ["_law_cell_here", "_law_bounds"] s_law_draws) : Cl P w K mg base "_law_table" 3 ["_law_cell_here", "_law_scheme_here", "_law_most"] s_law_table :=
  fnC h sc_law_table l_law_table v_law_table fun f cdv A outer s H E gd room =>
    (pdss_cons (pds_set (i := 3) sc_law_table.nd rfl (by first | exact Or.inl rfl | exact Or.inr rfl) (pd_callB callR_len cl_len (by rfl) B.len (by decide +kernel) (pda_cons (pd_callC C_law_fine_cells (room.mono (by decide)) gd (by rfl) (pda_cons (pd_var (pv 1)) pda_nil)) pda_nil)))
    (pdss_one (pds_ret (pd_callTy call_tuple_ofF cl_tuple (by rfl) B.tuple (by decide +kernel) (pda_cons (pd_lc (own := [("_law_number", 4)]) (dg := (gV 4)) (tt := dYes) (te := (dOp aSub (dVar 4) (dVar 2))) rfl sc_law_table.nd  (pdi_seq (pd_callC C_law_draws (room.mono (by decide)) gd (by rfl) (pda_cons (pd_var (pv 0)) (pda_cons (pd_op op_rep c2_mulL (pd_lst (pda_cons (pd_op op_addA c2_add (pd_op op_mulA c2_mulA pd_int (pd_var (pv 2))) pd_int) pda_nil)) (pd_var (pv 3))) pda_nil)))) (blkOk_by (own := [("_law_number", 4)]) (by rfl)) (gc_name (vs := [4]) (i := 4) (by decide)) (fun _ _ _ _ _ => (pg_name (i := 4) sc_law_table.nd rfl (by first | exact Or.inl rfl | exact Or.inr rfl))) (fun _ _ _ _ _ => pdts_nil) (fun _ _ _ _ _ => (pd_op op_sub c2_sub (pd_var (pv 4)) (pd_var (pv 2))))) pda_nil)))))

theorem sc_product_of : FnScope ["numbers", "found", "number"] ["numbers"] (defScope st_product_of) := ⟨rfl, rfl, rfl, by decide +kernel, rfl, by decide +kernel, by decide +kernel⟩
theorem ok_product_of {P : Program} {w : World} {K : PySem.W.Frag} {mg : Str → Option Value} {base : Heap} (B : Bts mg) (h : ∃ f fd, Df K mg "product_of" st_product_of ["numbers"] f fd) : ClF P w K mg base "product_of" 1 ["numbers"] s_product_of :=
  fnCF h sc_product_of l_product_of v_product_of fun f cdv A outer s H E room =>
    (pdss_cons (pds_set (i := 1) sc_product_of.nd rfl (by first | exact Or.inl rfl | exact Or.inr rfl) pd_int)
    (pdss_cons (pds_for PassesOwn.never rfl (pdi_seq (pd_var (pv 0))) (pg_name (i := 2) sc_product_of.nd rfl (by first | exact Or.inl rfl | exact Or.inr rfl)) (gc_name (vs := [2]) (i := 2) (by decide)) (pdss_one (pds_set (i := 1) sc_product_of.nd rfl (by first | exact Or.inl rfl | exact Or.inr rfl) (pd_op op_mulA c2_mulA (pd_var (pv 1)) (pd_var (pv 2))))))
    (pdss_one (pds_ret (pd_var (pv 1))))))

theorem sc_groups_at : FnScope ["attribute", "level"] ["attribute", "level"] (defScope st_groups_at) := ⟨rfl, rfl, rfl, by decide +kernel, rfl, by decide +kernel, by decide +kernel⟩
theorem ok_groups_at {P : Program} {w : World} {K : PySem.W.Frag} {mg : Str → Option Value} {base : Heap} (B : Bts mg) (h : ∃ f fd, Df K mg "groups_at" st_groups_at ["attribute", "level"] f fd) : ClF P w K mg base "groups_at" 1 ["attribute", "level"] s_groups_at :=
  fnCF h sc_groups_at l_groups_at v_groups_at fun f cdv A outer s H E room =>
    (pdss_one (pds_ret (pd_if (pdt_cmp (op_eqA room.units) c2_eq (pd_var (pv 1)) pd_int (nomark _)) (pd_ix room.u65 (pd_var (pv 0)) pd_int) (pd_op op_addA c2_add (pd_callB (callR_max rfl room.units) cl_max (by rfl) B.max (by decide +kernel) (pda_cons (pd_ix room.u65 (pd_ix room.u65 (pd_var (pv 0)) pd_int) (pd_op op_sub c2_sub (pd_var (pv 1)) pd_int)) pda_nil)) pd_int))))

theorem sc_sizes_at : FnScope ["scheme", "rollup", "attribute", "level"] ["scheme", "rollup"] (defScope st_sizes_at) := ⟨rfl, rfl, rfl, by decide +kernel, rfl, by decide +kernel, by decide +kernel⟩
theorem ok_sizes_at {P : Program} {w : World} {K : PySem.W.Frag} {mg : Str → Option Value} {base : Heap} (B : Bts mg) (h : ∃ f fd, Df K mg "sizes_at" st_sizes_at ["scheme", "rollup"] f fd) (C_groups_at : ClF P w K mg base "groups_at" 1 ["attribute", "level"] s_groups_at) : ClF P w K mg base "sizes_at" 2 ["scheme", "rollup"] s_sizes_at :=
  fnCF h sc_sizes_at l_sizes_at v_sizes_at fun f cdv A outer s H E room =>
    (pdss_one (pds_ret (pd_lc (own := [("attribute", 2), ("level", 3)]) (dg := (gT 2 (gC (gV 2) (gC (gV 3) gN)))) (tt := dYes) (te := (dCB s_groups_at (dCons (dVar 2) (dCons (dVar 3) dNil)))) rfl sc_sizes_at.nd  (pdi_zip2 (pd_var (pv 0)) (pd_var (pv 1)) (by rfl) B.zip) (blkOk_by (own := [("attribute", 2), ("level", 3)]) (by rfl)) (gc_tup (gcs_cons (gc_name (vs := [2, 3]) (i := 2) (by decide)) (gcs_cons (gc_name (vs := [2, 3]) (i := 3) (by decide)) (gcs_nil (vs := [2, 3]))))) (fun _ _ _ _ _ => (pg_tup rfl (pgs_cons (pg_name (i := 2) sc_sizes_at.nd rfl (by first | exact Or.inl rfl | exact Or.inr rfl)) (pgs_cons (pg_name (i := 3) sc_sizes_at.nd rfl (by first | exact Or.inl rfl | exact Or.inr rfl)) pgs_nil)))) (fun _ _ _ _ _ => pdts_nil) (fun _ _ _ _ _ => (pd_callF C_groups_at (room.mono (by decide)) (by rfl) (pda_cons (pd_var (pv 2)) (pda_cons (pd_var (pv 3)) pda_nil)))))))

theorem sc_size_of : FnScope ["scheme", "rollup"] ["scheme", "rollup"] (defScope st_size_of) := ⟨rfl, rfl, rfl, by decide +kernel, rfl, by decide +kernel, by decide +kernel⟩
theorem ok_size_of {P : Program} {w : World} {K : PySem.W.Frag} {mg : Str → Option Value} {base : Heap} (B : Bts mg) (h : ∃ f fd, Df K mg "size_of" st_size_of ["scheme", "rollup"] f fd) (C_product_of : ClF P w K mg base "product_of" 1 ["numbers"] s_product_of) (C_sizes_at : ClF P w K mg base "sizes_at" 2 ["scheme", "rollup"] s_sizes_at) : ClF P w K mg base "size_of" 3 ["scheme", "rollup"] s_size_of :=
  fnCF h sc_size_of l_size_of v_size_of fun f cdv A outer s H E room =>
    (pdss_one (pds_ret (pd_callF C_product_of (room.mono (by decide)) (by rfl) (pda_cons (pd_callF C_sizes_at (room.mono (by decide)) (by rfl) (pda_cons (pd_var (pv 0)) (pda_cons (pd_var (pv 1)) pda_nil))) pda_nil))))

theorem sc_is_integer : FnScope ["thing"] ["thing"] (defScope st_is_integer) := ⟨rfl, rfl, rfl, by decide +kernel, rfl, by decide +kernel, by decide +kernel⟩
theorem ok_is_integer {P : Program} {w : World} {K : PySem.W.Frag} {mg : Str → Option Value} {base : Heap} (B : Bts mg) (h : ∃ f fd, Df K mg "is_integer" st_is_integer ["thing"] f fd) : ClF P w K mg base "is_integer" 1 ["thing"] s_is_integer :=
  fnCF h sc_is_integer l_is_integer v_is_integer fun f cdv A outer s H E room =>
    (pdss_one (pds_ret (pd_and (pd_isi (T := "int") (pd_var (pv 0)) (by rfl) B.isi (by rfl) B.int (by decide +kernel) (by decide)) (pd_one (pd_not (pd_isi (T := "bool") (pd_var (pv 0)) (by rfl) B.isi (by rfl) B.bool (by decide +kernel) (by decide)))))))

theorem sc_are_amounts : FnScope ["scheme", "rollup", "thing", "amount"] ["scheme", "rollup", "thing"] (defScope st_are_amounts) := ⟨rfl, rfl, rfl, by decide +kernel, rfl, by decide +kernel, by decide +kernel⟩
theorem ok_are_amounts {P : Program} {w : World} {K : PySem.W.Frag} {mg : Str → Option Value} {base : Heap} (B : Bts mg) (h : ∃ f fd, Df K mg "are_amounts" st_are_amounts ["scheme", "rollup", "thing"] f fd) (C_size_of : ClF P w K mg base "size_of" 3 ["scheme", "rollup"] s_size_of) (C_is_integer : ClF P w K mg base "is_integer" 1 ["thing"] s_is_integer) : ClF P w K mg base "are_amounts" 4 ["scheme", "rollup", "thing"] s_are_amounts :=
  fnCF h sc_are_amounts l_are_amounts v_are_amounts fun f cdv A outer s H E room =>
    (pdss_cons (pds_if (pdt_w (pdw_or (pdt_not (pdt_val (pd_isi (T := "tuple") (pd_var (pv 2)) (by rfl) B.isi (by rfl) B.tuple (by decide +kernel) (by decide)))) (pdw_or1 (pdt_cmp (op_neA room.units) c2_ne (pd_callB callR_len cl_len (by rfl) B.len (by decide +kernel) (pda_cons (pd_var (pv 2)) pda_nil)) (pd_callF C_size_of (room.mono (by decide)) (by rfl) (pda_cons (pd_var (pv 0)) (pda_cons (pd_var (pv 1)) pda_nil))) (nomark _))))) (pdss_one (pds_ret pd_bl)) pdss_nil)
    (pdss_one (pds_ret (pd_callB (cr_all rfl) cl_all (by rfl) B.all (by decide +kernel) (pda_cons (pd_lc (own := [("amount", 3)]) (dg := (gV 3)) (tt := dYes) (te := (dCB s_is_integer (dCons (dVar 3) dNil))) rfl sc_are_amounts.nd  (pdi_seq (pd_var (pv 2))) (blkOk_by (own := [("amount", 3)]) (by rfl)) (gc_name (vs := [3]) (i := 3) (by decide)) (fun _ _ _ _ _ => (pg_name (i := 3) sc_are_amounts.nd rfl (by first | exact Or.inl rfl | exact Or.inr rfl))) (fun _ _ _ _ _ => pdts_nil) (fun _ _ _ _ _ => (pd_callF C_is_integer (room.mono (by decide)) (by rfl) (pda_cons (pd_var (pv 3)) pda_nil)))) pda_nil)))))

theorem sc_finest : FnScope ["scheme"] ["scheme"] (defScope st_finest) := ⟨rfl, rfl, rfl, by decide +kernel, rfl, by decide +kernel, by decide +kernel⟩
theorem ok_finest {P : Program} {w : World} {K : PySem.W.Frag} {mg : Str → Option Value} {base : Heap} (B : Bts mg) (h : ∃ f fd, Df K mg "finest" st_finest ["scheme"] f fd) : ClF P w K mg base "finest" 1 ["scheme"] s_finest :=
  fnCF h sc_finest l_finest v_finest fun f cdv A outer s H E room =>
    (pdss_one (pds_ret (pd_op op_mulA c2_mulA (pd_tup (pda_cons pd_int pda_nil)) (pd_callB callR_len cl_len (by rfl) B.len (by decide +kernel) (pda_cons (pd_var (pv 0)) pda_nil)))))

theorem sc_is_table_of : FnScope ["scheme", "thing"] ["scheme", "thing"] (defScope st_is_table_of) := ⟨rfl, rfl, rfl, by decide +kernel, rfl, by decide +kernel, by decide +kernel⟩
theorem ok_is_table_of {P : Program} {w : World} {K : PySem.W.Frag} {mg : Str → Option Value} {base : Heap} (B : Bts mg) (h : ∃ f fd, Df K mg "is_table_of" st_is_table_of ["scheme", "thing"] f fd) (C_are_amounts : ClF P w K mg base "are_amounts" 4 ["scheme", "rollup", "thing"] s_are_amounts) (C_finest : ClF P w K mg base "finest" 1 ["scheme"] s_finest) : ClF P w K mg base "is_table_of" 5 ["scheme", "thing"] s_is_table_of :=
  fnCF h sc_is_table_of l_is_table_of v_is_table_of fun f cdv A outer s H E room =>
    (pdss_one (pds_ret (pd_callF C_are_amounts (room.mono (by decide)) (by rfl) (pda_cons (pd_var (pv 0)) (pda_cons (pd_callF C_finest (room.mono (by decide)) (by rfl) (pda_cons (pd_var (pv 0)) pda_nil)) (pda_cons (pd_var (pv 1)) pda_nil))))))

theorem sc_need_table : FnScope ["scheme", "thing"] ["scheme", "thing"] (defScope st_need_table) := ⟨rfl, rfl, rfl, by decide +kernel, rfl, by decide +kernel, by decide +kernel⟩
theorem ok_need_table {P : Program} {w : World} {K : PySem.W.Frag} {mg : Str → Option Value} {base : Heap} (B : Bts mg) (h : ∃ f fd, Df K mg "need_table" st_need_table ["scheme", "thing"] f fd) (E_TableError : ExcD w K mg "TableError") (C_is_table_of : ClF P w K mg base "is_table_of" 5 ["scheme", "thing"] s_is_table_of) : ClX P w K mg base "need_table" 6 ["scheme", "thing"] s_need_table :=
  fnCX h sc_need_table l_need_table v_need_table fun f cdv A outer s H E room =>
    (pdss_one (pds_if (pdt_not (pdt_val (pd_callF C_is_table_of (room.mono (by decide)) (by rfl) (pda_cons (pd_var (pv 0)) (pda_cons (pd_var (pv 1)) pda_nil))))) (pdss_one (pds_raise rfl E_TableError (by rfl))) pdss_nil))

theorem sc_Cube_change : FnScope ["self", "table"] ["self", "table"] (defScope st_Cube_change) := ⟨rfl, rfl, rfl, by decide +kernel, rfl, by decide +kernel, by decide +kernel⟩
theorem ok_Cube_change {P : Program} {w : World} {K : PySem.W.Frag} {mg : Str → Option Value} {base : Heap} {f : Addr} {fd : FuncData} (B : Bts mg) (h : Fun K "change" "Cube.change" st_Cube_change f fd) (NA_Cube_past : NoA ⟨K, w, Tbs.T⟩ ["Cube"] "past") (NA_Cube_kept : NoA ⟨K, w, Tbs.T⟩ ["Cube"] "kept") : RnX P w K mg base 1 f s_Cube_change :=
  rnxM h (fun _ _ _ _ _ _ us hl => match us, hl with | [_, _], _ => rfl) sc_Cube_change l_Cube_change v_Cube_change fun f cdv A outer s H E room =>
    (pdss_cons (pds_fld (pd_var (pv 0)) (pd_tup (pda_star (pd_fld (pd_var (pv 0)) NA_Cube_past) (pda_cons (pd_fld (pd_var (pv 0)) NA_Cube_kept) pda_nil))) NA_Cube_past)
    (pdss_one (pds_fld (pd_var (pv 0)) (pd_var (pv 1)) NA_Cube_kept)))

theorem sc_Cube_assign_table : FnScope ["self", "table"] ["self", "table"] (defScope st_Cube_assign_table) := ⟨rfl, rfl, rfl, by decide +kernel, rfl, by decide +kernel, by decide +kernel⟩
theorem ok_Cube_assign_table {P : Program} {w : World} {K : PySem.W.Frag} {mg : Str → Option Value} {base : Heap} {f : Addr} {fd : FuncData} (B : Bts mg) (h : Fun K "assign_table" "Cube.assign_table" st_Cube_assign_table f fd) (C_need_table : ClX P w K mg base "need_table" 6 ["scheme", "thing"] s_need_table) (C_Cube_change : ClMX P w K mg base "Cube" "change" 1 s_Cube_change) (NA_Cube_own_scheme : NoA ⟨K, w, Tbs.T⟩ ["Cube"] "own_scheme") : RnX P w K mg base 7 f s_Cube_assign_table :=
  rnxM h (fun _ _ _ _ _ _ us hl => match us, hl with | [_, _], _ => rfl) sc_Cube_assign_table l_Cube_assign_table v_Cube_assign_table fun f cdv A outer s H E room =>
    (pdss_cons (pds_dropX (pdx_callX C_need_table (room.mono (by decide)) (by rfl) (pda_cons (pd_fld (pd_var (pv 0)) NA_Cube_own_scheme) (pda_cons (pd_var (pv 1)) pda_nil))))
    (pdss_one (pds_dropX (pdx_meth (tab := [("Cube", s_Cube_change)]) (pd_var (pv 0)) (mem_tab1 C_Cube_change) (room.mono (by decide)) (pda_cons (pd_var (pv 1)) pda_nil)))))

theorem sc_is_between : FnScope ["thing", "low", "high"] ["thing", "low", "high"] (defScope st_is_between) := ⟨rfl, rfl, rfl, by decide +kernel, rfl, by decide +kernel, by decide +kernel⟩
theorem ok_is_between {P : Program} {w : World} {K : PySem.W.Frag} {mg : Str → Option Value} {base : Heap} (B : Bts mg) (h : ∃ f fd, Df K mg "is_between" st_is_between ["thing", "low", "high"] f fd) (C_is_integer : ClF P w K mg base "is_integer" 1 ["thing"] s_is_integer) : ClF P w K mg base "is_between" 2 ["thing", "low", "high"] s_is_between :=
  fnCF h sc_is_between l_is_between v_is_between fun f cdv A outer s H E room =>
    (pdss_one (pds_ret (pd_and (pd_callF C_is_integer (room.mono (by decide)) (by rfl) (pda_cons (pd_var (pv 0)) pda_nil)) (pd_one (pd_chain op_le op_le (c2_cmp _) (c2_cmp _) (pd_var (pv 1)) (pd_var (pv 0)) (pd_var (pv 2)) (by with_unfolding_all rfl))))))

theorem sc_is_cell : FnScope ["scheme", "rollup", "thing", "group", "many"] ["scheme", "rollup", "thing"] (defScope st_is_cell) := ⟨rfl, rfl, rfl, by decide +kernel, rfl, by decide +kernel, by decide +kernel⟩
theorem ok_is_cell {P : Program} {w : World} {K : PySem.W.Frag} {mg : Str → Option Value} {base : Heap} (B : Bts mg) (h : ∃ f fd, Df K mg "is_cell" st_is_cell ["scheme", "rollup", "thing"] f fd) (C_is_between : ClF P w K mg base "is_between" 2 ["thing", "low", "high"] s_is_between) (C_sizes_at : ClF P w K mg base "sizes_at" 2 ["scheme", "rollup"] s_sizes_at) : ClF P w K mg base "is_cell" 3 ["scheme", "rollup", "thing"] s_is_cell :=
  fnCF h sc_is_cell l_is_cell v_is_cell fun f cdv A outer s H E room =>
    (pdss_cons (pds_if (pdt_w (pdw_or (pdt_not (pdt_val (pd_isi (T := "tuple") (pd_var (pv 2)) (by rfl) B.isi (by rfl) B.tuple (by decide +kernel) (by decide)))) (pdw_or1 (pdt_cmp (op_neA room.units) c2_ne (pd_callB callR_len cl_len (by rfl) B.len (by decide +kernel) (pda_cons (pd_var (pv 2)) pda_nil)) (pd_callB callR_len cl_len (by rfl) B.len (by decide +kernel) (pda_cons (pd_var (pv 0)) pda_nil)) (nomark _))))) (pdss_one (pds_ret pd_bl)) pdss_nil)
    (pdss_one (pds_ret (pd_callB (cr_all rfl) cl_all (by rfl) B.all (by decide +kernel) (pda_cons (pd_lc (own := [("group", 3), ("many", 4)]) (dg := (gT 2 (gC (gV 3) (gC (gV 4) gN)))) (tt := dYes) (te := (dCB s_is_between (dCons (dVar 3) (dCons (dC (.int 0)) (dCons (dOp aSub (dVar 4) (dC (.int 1))) dNil))))) rfl sc_is_cell.nd  (pdi_zip2 (pd_var (pv 2)) (pd_callF C_sizes_at (room.mono (by decide)) (by rfl) (pda_cons (pd_var (pv 0)) (pda_cons (pd_var (pv 1)) pda_nil))) (by rfl) B.zip) (blkOk_by (own := [("group", 3), ("many", 4)]) (by rfl)) (gc_tup (gcs_cons (gc_name (vs := [3, 4]) (i := 3) (by decide)) (gcs_cons (gc_name (vs := [3, 4]) (i := 4) (by decide)) (gcs_nil (vs := [3, 4]))))) (fun _ _ _ _ _ => (pg_tup rfl (pgs_cons (pg_name (i := 3) sc_is_cell.nd rfl (by first | exact Or.inl rfl | exact Or.inr rfl)) (pgs_cons (pg_name (i := 4) sc_is_cell.nd rfl (by first | exact Or.inl rfl | exact Or.inr rfl)) pgs_nil)))) (fun _ _ _ _ _ => pdts_nil) (fun _ _ _ _ _ => (pd_callF C_is_between (room.mono (by decide)) (by rfl) (pda_cons (pd_var (pv 3)) (pda_cons pd_int (pda_cons (pd_op op_sub c2_sub (pd_var (pv 4)) pd_int) pda_nil)))))) pda_nil)))))

theorem sc_need_cell : FnScope ["scheme", "rollup", "thing"] ["scheme", "rollup", "thing"] (defScope st_need_cell) := ⟨rfl, rfl, rfl, by decide +kernel, rfl, by decide +kernel, by decide +kernel⟩
theorem ok_need_cell {P : Program} {w : World} {K : PySem.W.Frag} {mg : Str → Option Value} {base : Heap} (B : Bts mg) (h : ∃ f fd, Df K mg "need_cell" st_need_cell ["scheme", "rollup", "thing"] f fd) (E_CellError : ExcD w K mg "CellError") (C_is_cell : ClF P w K mg base "is_cell" 3 ["scheme", "rollup", "thing"] s_is_cell) : ClX P w K mg base "need_cell" 4 ["scheme", "rollup", "thing"] s_need_cell :=
  fnCX h sc_need_cell l_need_cell v_need_cell fun f cdv A outer s H E room =>
    (pdss_one (pds_if (pdt_not (pdt_val (pd_callF C_is_cell (room.mono (by decide)) (by rfl) (pda_cons (pd_var (pv 0)) (pda_cons (pd_var (pv 1)) (pda_cons (pd_var (pv 2)) pda_nil)))))) (pdss_one (pds_raise rfl E_CellError (by rfl))) pdss_nil))

theorem sc_need_amount : FnScope ["thing"] ["thing"] (defScope st_need_amount) := ⟨rfl, rfl, rfl, by decide +kernel, rfl, by decide +kernel, by decide +kernel⟩
theorem ok_need_amount {P : Program} {w : World} {K : PySem.W.Frag} {mg : Str → Option Value} {base : Heap} (B : Bts mg) (h : ∃ f fd, Df K mg "need_amount" st_need_amount ["thing"] f fd) (c_MOST_AMOUNT : Ci mg "MOST_AMOUNT" 1000000) (E_AmountError : ExcD w K mg "AmountError") (C_is_between : ClF P w K mg base "is_between" 2 ["thing", "low", "high"] s_is_between) : ClX P w K mg base "need_amount" 3 ["thing"] s_need_amount :=
  fnCX h sc_need_amount l_need_amount v_need_amount fun f cdv A outer s H E room =>
    (pdss_one (pds_if (pdt_not (pdt_val (pd_callF C_is_between (room.mono (by decide)) (by rfl) (pda_cons (pd_var (pv 0)) (pda_cons (pd_op op_sub c2_sub pd_int (pd_globI c_MOST_AMOUNT (by rfl))) (pda_cons (pd_globI c_MOST_AMOUNT (by rfl)) pda_nil)))))) (pdss_one (pds_raise rfl E_AmountError (by rfl))) pdss_nil))

theorem sc_with_more : FnScope ["table", "place", "amount"] ["table", "place", "amount"] (defScope st_with_more) := ⟨rfl, rfl, rfl, by decide +kernel, rfl, by decide +kernel, by decide +kernel⟩
theorem ok_with_more {P : Program} {w : World} {K : PySem.W.Frag} {mg : Str → Option Value} {base : Heap} (B : Bts mg) (h : ∃ f fd, Df K mg "with_more" st_with_more ["table", "place", "amount"] f fd) : ClF P w K mg base "with_more" 1 ["table", "place", "amount"] s_with_more :=
  fnCF h sc_with_more l_with_more v_with_more fun f cdv A outer s H E room =>
    (pdss_one (pds_ret (pd_tup (pda_star (pd_slice (pd_var (pv 0)) pdo_none (pdo_some (pd_var (pv 1)))) (pda_cons (pd_op op_addA c2_add (pd_ix room.u65 (pd_var (pv 0)) (pd_var (pv 1))) (pd_var (pv 2))) (pda_star (pd_slice (pd_var (pv 0)) (pdo_some (pd_op op_addA c2_add (pd_var (pv 1)) pd_int)) pdo_none) pda_nil))))))

theorem sc_tuples_below : FnScope ["numbers", "found", "many", "row", "one"] ["numbers"] (defScope st_tuples_below) := ⟨rfl, rfl, rfl, by decide +kernel, rfl, by decide +kernel, by decide +kernel⟩
theorem ok_tuples_below {P : Program} {w : World} {K : PySem.W.Frag} {mg : Str → Option Value} {base : Heap} (B : Bts mg) (h : ∃ f fd, Df K mg "tuples_below" st_tuples_below ["numbers"] f fd) : ClF P w K mg base "tuples_below" 1 ["numbers"] s_tuples_below :=
  fnCF h sc_tuples_below l_tuples_below v_tuples_below fun f cdv A outer s H E room =>
    (pdss_cons (pds_set (i := 1) sc_tuples_below.nd rfl (by first | exact Or.inl rfl | exact Or.inr rfl) (pd_lst (pda_cons (pd_tup pda_nil) pda_nil)))
    (pdss_cons (pds_for PassesOwn.never rfl (pdi_seq (pd_var (pv 0))) (pg_name (i := 2) sc_tuples_below.nd rfl (by first | exact Or.inl rfl | exact Or.inr rfl)) (gc_name (vs := [2]) (i := 2) (by decide)) (pdss_one (pds_setLc2 (i := 1) (own := [("row", 3), ("one", 4)]) (vs1 := [4]) (dg := (gV 3)) (tt := dYes) (src1 := (sRg1 (dVar 2))) (dg1 := (gV 4)) (tt1 := dYes) (te := (dTup (dStar (dVar 3) (dCons (dVar 4) dNil)))) rfl sc_tuples_below.nd rfl rfl (sw_true rfl rfl rfl (by decide +kernel)) (pdi_seq (pd_var (pv 1))) (blkOk_by (own := [("row", 3), ("one", 4)]) (by rfl)) (by decide) (gc_name (vs := [3, 4]) (i := 3) (by decide)) (gc_name (vs := [4]) (i := 4) (by decide)) (fun _ _ _ _ _ => (pg_name (i := 3) sc_tuples_below.nd rfl (by first | exact Or.inl rfl | exact Or.inr rfl))) (fun _ _ _ _ _ => pdts_nil) (fun _ _ _ _ _ => (pdi_rg1 (pd_var (pv 2)) (by rfl) B.range)) (fun _ _ _ _ _ => (pg_name (i := 4) sc_tuples_below.nd rfl (by first | exact Or.inl rfl | exact Or.inr rfl))) (fun _ _ _ _ _ => pdts_nil) (fun _ _ _ _ _ => (pd_tup (pda_star (pd_var (pv 3)) (pda_cons (pd_var (pv 4)) pda_nil)))))))
    (pdss_one (pds_ret (pd_var (pv 1))))))

theorem sc_cells_of : FnScope ["scheme", "rollup"] ["scheme", "rollup"] (defScope st_cells_of) := ⟨rfl, rfl, rfl, by decide +kernel, rfl, by decide +kernel, by decide +kernel⟩
theorem ok_cells_of {P : Program} {w : World} {K : PySem.W.Frag} {mg : Str → Option Value} {base : Heap} (B : Bts mg) (h : ∃ f fd, Df K mg "cells_of" st_cells_of ["scheme", "rollup"] f fd) (C_tuples_below : ClF P w K mg base "tuples_below" 1 ["numbers"] s_tuples_below) (C_sizes_at : ClF P w K mg base "sizes_at" 2 ["scheme", "rollup"] s_sizes_at) : ClF P w K mg base "cells_of" 3 ["scheme", "rollup"] s_cells_of :=
  fnCF h sc_cells_of l_cells_of v_cells_of fun f cdv A outer s H E room =>
    (pdss_one (pds_ret (pd_callF C_tuples_below (room.mono (by decide)) (by rfl) (pda_cons (pd_callF C_sizes_at (room.mono (by decide)) (by rfl) (pda_cons (pd_var (pv 0)) (pda_cons (pd_var (pv 1)) pda_nil))) pda_nil))))

theorem sc_place_in : FnScope ["scheme", "cell"] ["scheme", "cell"] (defScope st_place_in) := ⟨rfl, rfl, rfl, by decide +kernel, rfl, by decide +kernel, by decide +kernel⟩
theorem ok_place_in {P : Program} {w : World} {K : PySem.W.Frag} {mg : Str → Option Value} {base : Heap} (B : Bts mg) (h : ∃ f fd, Df K mg "place_in" st_place_in ["scheme", "cell"] f fd) (C_cells_of : ClF P w K mg base "cells_of" 3 ["scheme", "rollup"] s_cells_of) (C_finest : ClF P w K mg base "finest" 1 ["scheme"] s_finest) : ClF P w K mg base "place_in" 4 ["scheme", "cell"] s_place_in :=
  fnCF h sc_place_in l_place_in v_place_in fun f cdv A outer s H E room =>
    (pdss_one (pds_ret (pd_indexL room.u65 (pd_callF C_cells_of (room.mono (by decide)) (by rfl) (pda_cons (pd_var (pv 0)) (pda_cons (pd_callF C_finest (room.mono (by decide)) (by rfl) (pda_cons (pd_var (pv 0)) pda_nil)) pda_nil))) (pd_var (pv 1)))))

theorem sc_Cube_put : FnScope ["self", "cell", "amount"] ["self", "cell", "amount"] (defScope st_Cube_put) := ⟨rfl, rfl, rfl, by decide +kernel, rfl, by decide +kernel, by decide +kernel⟩
theorem ok_Cube_put {P : Program} {w : World} {K : PySem.W.Frag} {mg : Str → Option Value} {base : Heap} {f : Addr} {fd : FuncData} (B : Bts mg) (h : Fun K "put" "Cube.put" st_Cube_put f fd) (C_need_cell : ClX P w K mg base "need_cell" 4 ["scheme", "rollup", "thing"] s_need_cell) (C_need_amount : ClX P w K mg base "need_amount" 3 ["thing"] s_need_amount) (C_Cube_change : ClMX P w K mg base "Cube" "change" 1 s_Cube_change) (C_finest : ClF P w K mg base "finest" 1 ["scheme"] s_finest) (C_with_more : ClF P w K mg base "with_more" 1 ["table", "place", "amount"] s_with_more) (C_place_in : ClF P w K mg base "place_in" 4 ["scheme", "cell"] s_place_in) (NA_Cube_own_scheme : NoA ⟨K, w, Tbs.T⟩ ["Cube"] "own_scheme") (NA_Cube_kept : NoA ⟨K, w, Tbs.T⟩ ["Cube"] "kept") : RnX P w K mg base 5 f s_Cube_put :=
  rnxM h (fun _ _ _ _ _ _ us hl => match us, hl with | [_, _, _], _ => rfl) sc_Cube_put l_Cube_put v_Cube_put fun f cdv A outer s H E room =>
    (pdss_cons (pds_dropX (pdx_callX C_need_cell (room.mono (by decide)) (by rfl) (pda_cons (pd_fld (pd_var (pv 0)) NA_Cube_own_scheme) (pda_cons (pd_callF C_finest (room.mono (by decide)) (by rfl) (pda_cons (pd_fld (pd_var (pv 0)) NA_Cube_own_scheme) pda_nil)) (pda_cons (pd_var (pv 1)) pda_nil)))))
    (pdss_cons (pds_dropX (pdx_callX C_need_amount (room.mono (by decide)) (by rfl) (pda_cons (pd_var (pv 2)) pda_nil)))
    (pdss_one (pds_dropX (pdx_meth (tab := [("Cube", s_Cube_change)]) (pd_var (pv 0)) (mem_tab1 C_Cube_change) (room.mono (by decide)) (pda_cons (pd_callF C_with_more (room.mono (by decide)) (by rfl) (pda_cons (pd_fld (pd_var (pv 0)) NA_Cube_kept) (pda_cons (pd_callF C_place_in (room.mono (by decide)) (by rfl) (pda_cons (pd_fld (pd_var (pv 0)) NA_Cube_own_scheme) (pda_cons (pd_var (pv 1)) pda_nil))) (pda_cons (pd_var (pv 2)) pda_nil)))) pda_nil))))))

theorem sc_groups_behind : FnScope ["step", "groups", "found", "one"] ["step", "groups"] (defScope st_groups_behind) := ⟨rfl, rfl, rfl, by decide +kernel, rfl, by decide +kernel, by decide +kernel⟩
theorem ok_groups_behind {P : Program} {w : World} {K : PySem.W.Frag} {mg : Str → Option Value} {base : Heap} (B : Bts mg) (h : ∃ f fd, Df K mg "groups_behind" st_groups_behind ["step", "groups"] f fd) (C_is_between : ClF P w K mg base "is_between" 2 ["thing", "low", "high"] s_is_between) : ClF P w K mg base "groups_behind" 3 ["step", "groups"] s_groups_behind :=
  fnCF h sc_groups_behind l_groups_behind v_groups_behind fun f cdv A outer s H E room =>
    (pdss_cons (pds_if (pdt_w (pdw_or (pdt_not (pdt_val (pd_isi (T := "tuple") (pd_var (pv 0)) (by rfl) B.isi (by rfl) B.tuple (by decide +kernel) (by decide)))) (pdw_or1 (pdt_cmp (op_neA room.units) c2_ne (pd_callB callR_len cl_len (by rfl) B.len (by decide +kernel) (pda_cons (pd_var (pv 0)) pda_nil)) (pd_var (pv 1)) (nomark _))))) (pdss_one (pds_ret pd_int)) pdss_nil)
    (pdss_cons (pds_if (pdt_not (pdt_val (pd_callB (cr_all rfl) cl_all (by rfl) B.all (by decide +kernel) (pda_cons (pd_lc (own := [("one", 3)]) (dg := (gV 3)) (tt := dYes) (te := (dCB s_is_between (dCons (dVar 3) (dCons (dC (.int 0)) (dCons (dOp aSub (dVar 1) (dC (.int 2))) dNil))))) rfl sc_groups_behind.nd  (pdi_seq (pd_var (pv 0))) (blkOk_by (own := [("one", 3)]) (by rfl)) (gc_name (vs := [3]) (i := 3) (by decide)) (fun _ _ _ _ _ => (pg_name (i := 3) sc_groups_behind.nd rfl (by first | exact Or.inl rfl | exact Or.inr rfl))) (fun _ _ _ _ _ => pdts_nil) (fun _ _ _ _ _ => (pd_callF C_is_between (room.mono (by decide)) (by rfl) (pda_cons (pd_var (pv 3)) (pda_cons pd_int (pda_cons (pd_op op_sub c2_sub (pd_var (pv 1)) pd_int) pda_nil)))))) pda_nil)))) (pdss_one (pds_ret pd_int)) pdss_nil)
    (pdss_cons (pds_set (i := 2) sc_groups_behind.nd rfl (by first | exact Or.inl rfl | exact Or.inr rfl) (pd_lenSet (by rfl) B.len (by rfl) B.set (pd_var (pv 0))))
    (pdss_one (pds_ret (pd_if (pdt_cmp (op_eqA room.units) c2_eq (pd_callB (callR_max rfl room.units) cl_max (by rfl) B.max (by decide +kernel) (pda_cons (pd_var (pv 0)) pda_nil)) (pd_op op_sub c2_sub (pd_var (pv 2)) pd_int) (nomark _)) (pd_var (pv 2)) pd_int))))))

theorem sc_is_attribute : FnScope ["thing", "step", "groups", "steps"] ["thing"] (defScope st_is_attribute) := ⟨rfl, rfl, rfl, by decide +kernel, rfl, by decide +kernel, by decide +kernel⟩
theorem ok_is_attribute {P : Program} {w : World} {K : PySem.W.Frag} {mg : Str → Option Value} {base : Heap} (B : Bts mg) (h : ∃ f fd, Df K mg "is_attribute" st_is_attribute ["thing"] f fd) (c_MOST_VALUES : Ci mg "MOST_VALUES" 6) (c_MOST_STEPS : Ci mg "MOST_STEPS" 3) (C_groups_behind : ClF P w K mg base "groups_behind" 3 ["step", "groups"] s_groups_behind) (C_is_between : ClF P w K mg base "is_between" 2 ["thing", "low", "high"] s_is_between) : ClF P w K mg base "is_attribute" 4 ["thing"] s_is_attribute :=
  fnCF h sc_is_attribute l_is_attribute v_is_attribute fun f cdv A outer s H E room =>
    (pdss_cons (pds_if (pdt_w (pdw_or (pdt_not (pdt_val (pd_isi (T := "tuple") (pd_var (pv 0)) (by rfl) B.isi (by rfl) B.tuple (by decide +kernel) (by decide)))) (pdw_or (pdt_cmp (op_neA room.units) c2_ne (pd_callB callR_len cl_len (by rfl) B.len (by decide +kernel) (pda_cons (pd_var (pv 0)) pda_nil)) pd_int (nomark _)) (pdw_or1 (pdt_not (pdt_val (pd_callF C_is_between (room.mono (by decide)) (by rfl) (pda_cons (pd_ix room.u65 (pd_var (pv 0)) pd_int) (pda_cons pd_int (pda_cons (pd_globI c_MOST_VALUES (by rfl)) pda_nil)))))))))) (pdss_one (pds_ret pd_bl)) pdss_nil)
    (pdss_cons (pds_asg (pd_var (pv 0)) (pg_tup rfl (pgs_cons (pg_name (i := 2) sc_is_attribute.nd rfl (by first | exact Or.inl rfl | exact Or.inr rfl)) (pgs_cons (pg_name (i := 3) sc_is_attribute.nd rfl (by first | exact Or.inl rfl | exact Or.inr rfl)) pgs_nil))) (gc_tup (gcs_cons (gc_name (vs := [2, 3]) (i := 2) (by decide)) (gcs_cons (gc_name (vs := [2, 3]) (i := 3) (by decide)) (gcs_nil (vs := [2, 3]))))))
    (pdss_cons (pds_if (pdt_w (pdw_or (pdt_not (pdt_val (pd_isi (T := "tuple") (pd_var (pv 3)) (by rfl) B.isi (by rfl) B.tuple (by decide +kernel) (by decide)))) (pdw_or1 (pdt_cmp op_gt (c2_cmp _) (pd_callB callR_len cl_len (by rfl) B.len (by decide +kernel) (pda_cons (pd_var (pv 3)) pda_nil)) (pd_globI c_MOST_STEPS (by rfl)) (nomark _))))) (pdss_one (pds_ret pd_bl)) pdss_nil)
    (pdss_cons (pds_for PassesOwn.never rfl (pdi_seq (pd_var (pv 3))) (pg_name (i := 1) sc_is_attribute.nd rfl (by first | exact Or.inl rfl | exact Or.inr rfl)) (gc_name (vs := [1]) (i := 1) (by decide)) (pdss_cons (pds_set (i := 2) sc_is_attribute.nd rfl (by first | exact Or.inl rfl | exact Or.inr rfl) (pd_callF C_groups_behind (room.mono (by decide)) (by rfl) (pda_cons (pd_var (pv 1)) (pda_cons (pd_var (pv 2)) pda_nil))))
    (pdss_one (pds_if (pdt_cmp (op_eqA room.units) c2_eq (pd_var (pv 2)) pd_int (nomark _)) (pdss_one (pds_ret pd_bl)) pdss_nil))))
    (pdss_one (pds_ret pd_bl))))))

theorem sc_is_scheme : FnScope ["thing", "attribute"] ["thing"] (defScope st_is_scheme) := ⟨rfl, rfl, rfl, by decide +kernel, rfl, by decide +kernel, by decide +kernel⟩
theorem ok_is_scheme {P : Program} {w : World} {K : PySem.W.Frag} {mg : Str → Option Value} {base : Heap} (B : Bts mg) (h : ∃ f fd, Df K mg "is_scheme" st_is_scheme ["thing"] f fd) (c_MOST_ATTRIBUTES : Ci mg "MOST_ATTRIBUTES" 3) (c_MOST_CELLS : Ci mg "MOST_CELLS" 60) (C_product_of : ClF P w K mg base "product_of" 1 ["numbers"] s_product_of) (C_is_attribute : ClF P w K mg base "is_attribute" 4 ["thing"] s_is_attribute) : ClF P w K mg base "is_scheme" 5 ["thing"] s_is_scheme :=
  fnCF h sc_is_scheme l_is_scheme v_is_scheme fun f cdv A outer s H E room =>
    (pdss_cons (pds_if (pdt_w (pdw_or (pdt_not (pdt_val (pd_isi (T := "tuple") (pd_var (pv 0)) (by rfl) B.isi (by rfl) B.tuple (by decide +kernel) (by decide)))) (pdw_or1 (pdt_not (pdt_chain op_le op_le (c2_cmp _) (c2_cmp _) pd_int (pd_callB callR_len cl_len (by rfl) B.len (by decide +kernel) (pda_cons (pd_var (pv 0)) pda_nil)) (pd_globI c_MOST_ATTRIBUTES (by rfl)) (by with_unfolding_all rfl)))))) (pdss_one (pds_ret pd_bl)) pdss_nil)
    (pdss_cons (pds_if (pdt_not (pdt_val (pd_callB (cr_all rfl) cl_all (by rfl) B.all (by decide +kernel) (pda_cons (pd_lc (own := [("attribute", 1)]) (dg := (gV 1)) (tt := dYes) (te := (dCB s_is_attribute (dCons (dVar 1) dNil))) rfl sc_is_scheme.nd  (pdi_seq (pd_var (pv 0))) (blkOk_by (own := [("attribute", 1)]) (by rfl)) (gc_name (vs := [1]) (i := 1) (by decide)) (fun _ _ _ _ _ => (pg_name (i := 1) sc_is_scheme.nd rfl (by first | exact Or.inl rfl | exact Or.inr rfl))) (fun _ _ _ _ _ => pdts_nil) (fun _ _ _ _ _ => (pd_callF C_is_attribute (room.mono (by decide)) (by rfl) (pda_cons (pd_var (pv 1)) pda_nil)))) pda_nil)))) (pdss_one (pds_ret pd_bl)) pdss_nil)
    (pdss_one (pds_ret (pd_cmp op_le (c2_cmp _) (pd_callF C_product_of (room.mono (by decide)) (by rfl) (pda_cons (pd_lc (own := [("attribute", 1)]) (dg := (gV 1)) (tt := dYes) (te := (dOp aIx (dVar 1) (dC (.int 0)))) rfl sc_is_scheme.nd  (pdi_seq (pd_var (pv 0))) (blkOk_by (own := [("attribute", 1)]) (by rfl)) (gc_name (vs := [1]) (i := 1) (by decide)) (fun _ _ _ _ _ => (pg_name (i := 1) sc_is_scheme.nd rfl (by first | exact Or.inl rfl | exact Or.inr rfl))) (fun _ _ _ _ _ => pdts_nil) (fun _ _ _ _ _ => (pd_ix room.u65 (pd_var (pv 1)) pd_int))) pda_nil)) (pd_globI c_MOST_CELLS (by rfl)) (nomark _))))))

theorem sc_need_scheme : FnScope ["thing"] ["thing"] (defScope st_need_scheme) := ⟨rfl, rfl, rfl, by decide +kernel, rfl, by decide +kernel, by decide +kernel⟩
theorem ok_need_scheme {P : Program} {w : World} {K : PySem.W.Frag} {mg : Str → Option Value} {base : Heap} (B : Bts mg) (h : ∃ f fd, Df K mg "need_scheme" st_need_scheme ["thing"] f fd) (E_SchemeError : ExcD w K mg "SchemeError") (C_is_scheme : ClF P w K mg base "is_scheme" 5 ["thing"] s_is_scheme) : ClX P w K mg base "need_scheme" 6 ["thing"] s_need_scheme :=
  fnCX h sc_need_scheme l_need_scheme v_need_scheme fun f cdv A outer s H E room =>
    (pdss_one (pds_if (pdt_not (pdt_val (pd_callF C_is_scheme (room.mono (by decide)) (by rfl) (pda_cons (pd_var (pv 0)) pda_nil)))) (pdss_one (pds_raise rfl E_SchemeError (by rfl))) pdss_nil))

theorem sc_no_table : FnScope ["scheme"] ["scheme"] (defScope st_no_table) := ⟨rfl, rfl, rfl, by decide +kernel, rfl, by decide +kernel, by decide +kernel⟩
theorem ok_no_table {P : Program} {w : World} {K : PySem.W.Frag} {mg : Str → Option Value} {base : Heap} (B : Bts mg) (h : ∃ f fd, Df K mg "no_table" st_no_table ["scheme"] f fd) (C_size_of : ClF P w K mg base "size_of" 3 ["scheme", "rollup"] s_size_of) (C_finest : ClF P w K mg base "finest" 1 ["scheme"] s_finest) : ClF P w K mg base "no_table" 4 ["scheme"] s_no_table :=
  fnCF h sc_no_table l_no_table v_no_table fun f cdv A outer s H E room =>
    (pdss_one (pds_ret (pd_op op_mulA c2_mulA (pd_tup (pda_cons pd_int pda_nil)) (pd_callF C_size_of (room.mono (by decide)) (by rfl) (pda_cons (pd_var (pv 0)) (pda_cons (pd_callF C_finest (room.mono (by decide)) (by rfl) (pda_cons (pd_var (pv 0)) pda_nil)) pda_nil))))))

theorem sc_Cube_init : FnScope ["self", "scheme", "table"] ["self", "scheme", "table"] (defScope st_Cube_init) := ⟨rfl, rfl, rfl, by decide +kernel, rfl, by decide +kernel, by decide +kernel⟩
theorem ok_Cube_init {P : Program} {w : World} {K : PySem.W.Frag} {mg : Str → Option Value} {base : Heap} {f : Addr} {fd : FuncData} (B : Bts mg) (h : FunD K "__init__" "Cube.__init__" (defArgs st_Cube_init) (defBody st_Cube_init) (defScope st_Cube_init) [V.non] [] f fd) (C_need_scheme : ClX P w K mg base "need_scheme" 6 ["thing"] s_need_scheme) (C_need_table : ClX P w K mg base "need_table" 6 ["scheme", "thing"] s_need_table) (C_no_table : ClF P w K mg base "no_table" 4 ["scheme"] s_no_table) (NA_Cube_own_scheme : NoA ⟨K, w, Tbs.T⟩ ["Cube"] "own_scheme") (NA_Cube_kept : NoA ⟨K, w, Tbs.T⟩ ["Cube"] "kept") (NA_Cube_past : NoA ⟨K, w, Tbs.T⟩ ["Cube"] "past") : RnX P w K mg base 7 f (dflX [.non] s_Cube_init) :=
  rnxD h (fun _ _ _ _ _ _ _ us it hl => match us, hl with | [_, _], _ => ⟨_, rfl, rfl⟩) (fun _ _ _ _ _ _ _ us it hl => match us, hl with | [_, _, _], _ => ⟨_, rfl, rfl⟩) sc_Cube_init l_Cube_init v_Cube_init (by decide) fun f cdv A outer s H E room =>
    (pdss_cons (pds_dropX (pdx_callX C_need_scheme (room.mono (by decide)) (by rfl) (pda_cons (pd_var (pv 1)) pda_nil)))
    (pdss_cons (pds_if (pdt_cmp op_notN c2_notN (pd_var (pv 2)) pd_non (nomark _)) (pdss_one (pds_dropX (pdx_callX C_need_table (room.mono (by decide)) (by rfl) (pda_cons (pd_var (pv 1)) (pda_cons (pd_var (pv 2)) pda_nil))))) pdss_nil)
    (pdss_cons (pds_fld (pd_var (pv 0)) (pd_var (pv 1)) NA_Cube_own_scheme)
    (pdss_cons (pds_fld (pd_var (pv 0)) (pd_if (pdt_cmp op_isN c2_isN (pd_var (pv 2)) pd_non (nomark _)) (pd_callF C_no_table (room.mono (by decide)) (by rfl) (pda_cons (pd_var (pv 1)) pda_nil)) (pd_var (pv 2))) NA_Cube_kept)
    (pdss_one (pds_fld (pd_var (pv 0)) (pd_tup pda_nil) NA_Cube_past))))))

theorem sc_law_no_cells : FnScope ["_law_scheme_here", "_law_found", "_law_good", "_law_many"] ["_law_scheme_here"] (defScope st_law_no_cells) := ⟨rfl, rfl, rfl, by decide +kernel, rfl, by decide +kernel, by decide +kernel⟩
theorem ok_law_no_cells {P : Program} {w : World} {K : PySem.W.Frag} {mg : Str → Option Value} {base : Heap} (B : Bts mg) (h : ∃ f fd, Df K mg "_law_no_cells" st_law_no_cells ["_law_scheme_here"] f fd) : Cl P w K mg base "_law_no_cells" 1 ["_law_scheme_here"] s_law_no_cells :=
  fnC h sc_law_no_cells l_law_no_cells v_law_no_cells fun f cdv A outer s H E gd room =>
    (pdss_cons (pds_par (i := 2) (j := 3) rfl sc_law_no_cells.nd rfl rfl (by decide) rfl rfl (pda_cons (pd_op op_mulA c2_mulA (pd_tup (pda_cons pd_int pda_nil)) (pd_callB callR_len cl_len (by rfl) B.len (by decide +kernel) (pda_cons (pd_var (pv 0)) pda_nil))) (pda_cons (pd_ix room.u65 (pd_ix room.u65 (pd_var (pv 0)) (pd_neg pd_int)) pd_int) pda_nil)) (by rfl))
    (pdss_cons (pds_set (i := 1) sc_law_no_cells.nd rfl (by first | exact Or.inl rfl | exact Or.inr rfl) (pd_lst (pda_cons pd_non (pda_cons pd_int (pda_cons pd_bl (pda_cons pd_str (pda_cons (pd_tup pda_nil) (pda_cons (pd_lst pda_nil) (pda_cons pd_newE (pda_cons (pd_callTy call_list_of cl_list (by rfl) B.list (by decide +kernel) (pda_cons (pd_var (pv 2)) pda_nil)) (pda_cons (pd_op op_addA c2_add (pd_var (pv 2)) (pd_tup (pda_cons pd_int pda_nil))) pda_nil)))))))))))
    (pdss_cons (pds_set (i := 1) sc_law_no_cells.nd rfl (by first | exact Or.inl rfl | exact Or.inr rfl) (pd_op op_addA c2_add (pd_var (pv 1)) (pd_lst (pda_cons (pd_op op_addA c2_add (pd_slice (pd_var (pv 2)) (pdo_some pd_int) pdo_none) (pd_tup (pda_cons (pd_var (pv 3)) pda_nil))) (pda_cons (pd_op op_addA c2_add (pd_slice (pd_var (pv 2)) (pdo_some pd_int) pdo_none) (pd_tup (pda_cons (pd_neg pd_int) pda_nil))) (pda_cons (pd_tup (pda_cons (pd_var (pv 2)) pda_nil)) pda_nil))))))
    (pdss_cons (pds_set (i := 1) sc_law_no_cells.nd rfl (by first | exact Or.inl rfl | exact Or.inr rfl) (pd_op op_addA c2_add (pd_var (pv 1)) (pd_lst (pda_cons (pd_op op_addA c2_add (pd_slice (pd_var (pv 2)) (pdo_some pd_int) pdo_none) (pd_tup (pda_cons pd_bl pda_nil))) (pda_cons (pd_op op_addA c2_add (pd_slice (pd_var (pv 2)) (pdo_some pd_int) pdo_none) (pd_tup (pda_cons pd_non pda_nil))) (pda_cons (pd_op op_addA c2_add (pd_slice (pd_var (pv 2)) (pdo_some pd_int) pdo_none) (pd_tup (pda_cons pd_str pda_nil))) pda_nil))))))
    (pdss_cons (pds_set (i := 1) sc_law_no_cells.nd rfl (by first | exact Or.inl rfl | exact Or.inr rfl) (pd_op op_addA c2_add (pd_var (pv 1)) (pd_lst (pda_cons (pd_op op_addA c2_add (pd_slice (pd_var (pv 2)) (pdo_some pd_int) pdo_none) (pd_tup (pda_cons (pd_lst (pda_cons pd_int pda_nil)) pda_nil))) (pda_cons pd_str (pda_cons (pd_lst (pda_cons (pd_var (pv 2)) pda_nil)) pda_nil))))))
    (pdss_one (pds_ret (pd_var (pv 1)))))))))

theorem sc_law_is_same : FnScope ["_law_actual", "_law_expected", "_law_k"] ["_law_actual", "_law_expected"] (defScope st_law_is_same) := ⟨rfl, rfl, rfl, by decide +kernel, rfl, by decide +kernel, by decide +kernel⟩
theorem ok_law_is_same {P : Program} {w : World} {K : PySem.W.Frag} {mg : Str → Option Value} {base : Heap} {k : Nat} {sc sf : DSp} (hk : 1 ≤ k) (hl : ∀ ds m Q, sf ds m Q → ds.length = 2) (hv : Body 3 (t_law_is_same sc) sf) (B : Bts mg) (h : ∃ f fd, Df K mg "_law_is_same" st_law_is_same ["_law_actual", "_law_expected"] f fd) (C_self : Cl P w K mg base "_law_is_same" k ["_law_actual", "_law_expected"] sc) : Cl P w K mg base "_law_is_same" (k + 1) ["_law_actual", "_law_expected"] sf :=
  fnC h sc_law_is_same hl hv fun f cdv A outer s H E gd room =>
    have rk : ∀ {j : Nat}, (hj : j ≤ 1 := by decide) → j ≤ k := fun hj => Nat.le_trans hj hk
    (pdss_cons (pds_if (pdt_val (pd_isi (T := "tuple") (pd_var (pv 1)) (by rfl) B.isi (by rfl) B.tuple (by decide +kernel) (by decide))) (pdss_cons (pds_if (pdt_w (pdw_or (pdt_not (pdt_val (pd_isi (T := "tuple") (pd_var (pv 0)) (by rfl) B.isi (by rfl) B.tuple (by decide +kernel) (by decide)))) (pdw_or1 (pdt_cmp (op_neA room.units) c2_ne (pd_callB callR_len cl_len (by rfl) B.len (by decide +kernel) (pda_cons (pd_var (pv 0)) pda_nil)) (pd_callB callR_len cl_len (by rfl) B.len (by decide +kernel) (pda_cons (pd_var (pv 1)) pda_nil)) (nomark _))))) (pdss_one (pds_ret pd_bl)) pdss_nil)
    (pdss_one (pds_ret (pd_callB (cr_all rfl) cl_all (by rfl) B.all (by decide +kernel) (pda_cons (pd_lc (own := [("_law_k", 2)]) (dg := (gV 2)) (tt := dYes) (te := (dCB sc (dCons (dOp aIx (dVar 0) (dVar 2)) (dCons (dOp aIx (dVar 1) (dVar 2)) dNil)))) rfl sc_law_is_same.nd  (pdi_rg1 (pd_callB callR_len cl_len (by rfl) B.len (by decide +kernel) (pda_cons (pd_var (pv 1)) pda_nil)) (by rfl) B.range) (blkOk_by (own := [("_law_k", 2)]) (by rfl)) (gc_name (vs := [2]) (i := 2) (by decide)) (fun _ _ _ _ _ => (pg_name (i := 2) sc_law_is_same.nd rfl (by first | exact Or.inl rfl | exact Or.inr rfl))) (fun _ _ _ _ _ => pdts_nil) (fun _ _ _ _ _ => (pd_callC C_self room gd (by rfl) (pda_cons (pd_ix room.u65 (pd_var (pv 0)) (pd_var (pv 2))) (pda_cons (pd_ix room.u65 (pd_var (pv 1)) (pd_var (pv 2))) pda_nil))))) pda_nil))))) pdss_nil)
    (pdss_cons (pds_if (pdt_cmp op_isN c2_isN (pd_var (pv 1)) pd_non (nomark _)) (pdss_one (pds_ret (pd_cmp op_isN c2_isN (pd_var (pv 0)) pd_non (nomark _)))) pdss_nil)
    (pdss_cons (pds_if (pdt_val (pd_isi (T := "str") (pd_var (pv 1)) (by rfl) B.isi (by rfl) B.str (by decide +kernel) (by decide))) (pdss_one (pds_ret (pd_and (pd_isi (T := "str") (pd_var (pv 0)) (by rfl) B.isi (by rfl) B.str (by decide +kernel) (by decide)) (pd_one (pd_cmp (op_eqA room.units) c2_eq (pd_var (pv 0)) (pd_var (pv 1)) (nomark _)))))) pdss_nil)
    (pdss_cons (pds_if (pdt_w (pdw_or (pdt_not (pdt_val (pd_isi (T := "int") (pd_var (pv 0)) (by rfl) B.isi (by rfl) B.int (by decide +kernel) (by decide)))) (pdw_or1 (pdt_cmp (op_neA room.units) c2_ne (pd_isi (T := "bool") (pd_var (pv 0)) (by rfl) B.isi (by rfl) B.bool (by decide +kernel) (by decide)) (pd_isi (T := "bool") (pd_var (pv 1)) (by rfl) B.isi (by rfl) B.bool (by decide +kernel) (by decide)) (nomark _))))) (pdss_one (pds_ret pd_bl)) pdss_nil)
    (pdss_one (pds_ret (pd_cmp (op_eqA room.units) c2_eq (pd_var (pv 0)) (pd_var (pv 1)) (nomark _))))))))

theorem sc_Cube_contains : FnScope ["self", "thing"] ["self", "thing"] (defScope st_Cube_contains) := ⟨rfl, rfl, rfl, by decide +kernel, rfl, by decide +kernel, by decide +kernel⟩
theorem ok_Cube_contains {P : Program} {w : World} {K : PySem.W.Frag} {mg : Str → Option Value} {base : Heap} {f : Addr} {fd : FuncData} (B : Bts mg) (h : Fun K "__contains__" "Cube.__contains__" st_Cube_contains f fd) (C_is_cell : ClF P w K mg base "is_cell" 3 ["scheme", "rollup", "thing"] s_is_cell) (C_finest : ClF P w K mg base "finest" 1 ["scheme"] s_finest) (C_place_in : ClF P w K mg base "place_in" 4 ["scheme", "cell"] s_place_in) (NA_Cube_own_scheme : NoA ⟨K, w, Tbs.T⟩ ["Cube"] "own_scheme") (NA_Cube_kept : NoA ⟨K, w, Tbs.T⟩ ["Cube"] "kept") : RnX P w K mg base 5 f s_Cube_contains :=
  rnxM h (fun _ _ _ _ _ _ us hl => match us, hl with | [_, _], _ => rfl) sc_Cube_contains l_Cube_contains v_Cube_contains fun f cdv A outer s H E room =>
    (pdss_cons (pds_if (pdt_not (pdt_val (pd_callF C_is_cell (room.mono (by decide)) (by rfl) (pda_cons (pd_fld (pd_var (pv 0)) NA_Cube_own_scheme) (pda_cons (pd_callF C_finest (room.mono (by decide)) (by rfl) (pda_cons (pd_fld (pd_var (pv 0)) NA_Cube_own_scheme) pda_nil)) (pda_cons (pd_var (pv 1)) pda_nil)))))) (pdss_one (pds_ret pd_bl)) pdss_nil)
    (pdss_one (pds_ret (pd_cmp (op_neA room.units) c2_ne (pd_ix room.u65 (pd_fld (pd_var (pv 0)) NA_Cube_kept) (pd_callF C_place_in (room.mono (by decide)) (by rfl) (pda_cons (pd_fld (pd_var (pv 0)) NA_Cube_own_scheme) (pda_cons (pd_var (pv 1)) pda_nil)))) pd_int (nomark _)))))

theorem sc_law_is_in : FnScope ["_law_cube", "_law_scheme_here", "_law_table_here", "_law_places", "_law_thing", "_law_at", "_law_place"] ["_law_cube", "_law_scheme_here", "_law_table_here"] (defScope st_law_is_in) := ⟨rfl, rfl, rfl, by decide +kernel, rfl, by decide +kernel, by decide +kernel⟩
theorem ok_law_is_in {P : Program} {w : World} {K : PySem.W.Frag} {mg : Str → Option Value} {base : Heap} (B : Bts mg) (h : ∃ f fd, Df K mg "_law_is_in" st_law_is_in ["_law_cube", "_law_scheme_here", "_law_table_here"] f fd) (C_law_fine_cells : Cl P w K mg base "_law_fine_cells" 2 ["_law_scheme_here"] s_law_fine_cells) (C_law_no_cells : Cl P w K mg base "_law_no_cells" 1 ["_law_scheme_here"] s_law_no_cells) (C_law_is_same : Cl P w K mg base "_law_is_same" 9 ["_law_actual", "_law_expected"] s_law_is_same) (C_Cube_contains : ClMX P w K mg base "Cube" "__contains__" 5 s_Cube_contains) : Cl P w K mg base "_law_is_in" 10 ["_law_cube", "_law_scheme_here", "_law_table_here"] s_law_is_in :=
  fnC h sc_law_is_in l_law_is_in v_law_is_in fun f cdv A outer s H E gd room =>
    (pdss_cons (pds_set (i := 3) sc_law_is_in.nd rfl (by first | exact Or.inl rfl | exact Or.inr rfl) (pd_callC C_law_fine_cells (room.mono (by decide)) gd (by rfl) (pda_cons (pd_var (pv 1)) pda_nil)))
    (pdss_cons (pds_for PassesOwn.never rfl (pdi_enum (pd_var (pv 3)) (by rfl) B.enum) (pg_tup rfl (pgs_cons (pg_name (i := 5) sc_law_is_in.nd rfl (by first | exact Or.inl rfl | exact Or.inr rfl)) (pgs_cons (pg_name (i := 6) sc_law_is_in.nd rfl (by first | exact Or.inl rfl | exact Or.inr rfl)) pgs_nil))) (gc_tup (gcs_cons (gc_name (vs := [5, 6]) (i := 5) (by decide)) (gcs_cons (gc_name (vs := [5, 6]) (i := 6) (by decide)) (gcs_nil (vs := [5, 6]))))) (pdss_one (pds_if (pdt_not (pdt_val (pd_callC C_law_is_same (room.mono (by decide)) gd (by rfl) (pda_cons (pd_tup (pda_cons (pd_cmp (op_inO (room.mono (by decide))) (c2_inO (tab := [("Cube", s_Cube_contains)]) (g := (fun b => b)) (mem_tab1 C_Cube_contains)) (pd_var (pv 6)) (pd_var (pv 0)) (by rfl)) (pda_cons (pd_cmp (op_notInO (room.mono (by decide))) (c2_inO (tab := [("Cube", s_Cube_contains)]) (g := (fun b => !b)) (mem_tab1 C_Cube_contains)) (pd_var (pv 6)) (pd_var (pv 0)) (by rfl)) pda_nil))) (pda_cons (pd_tup (pda_cons (pd_cmp (op_neA room.units) c2_ne (pd_ix room.u65 (pd_var (pv 2)) (pd_var (pv 5))) pd_int (nomark _)) (pda_cons (pd_cmp (op_eqA room.units) c2_eq (pd_ix room.u65 (pd_var (pv 2)) (pd_var (pv 5))) pd_int (nomark _)) pda_nil))) pda_nil))))) (pdss_one (pds_ret pd_bl)) pdss_nil)))
    (pdss_cons (pds_for PassesOwn.never rfl (pdi_seq (pd_op op_addA c2_add (pd_callC C_law_no_cells (room.mono (by decide)) gd (by rfl) (pda_cons (pd_var (pv 1)) pda_nil)) (pd_lst (pda_cons (pd_var (pv 0)) (pda_cons (pd_var (pv 1)) (pda_cons (pd_lst (pda_cons (pd_var (pv 2)) pda_nil)) (pda_cons (pd_tup (pda_cons (pd_var (pv 6)) (pda_cons pd_int pda_nil))) (pda_cons (pd_tup (pda_cons (pd_var (pv 0)) pda_nil)) pda_nil)))))))) (pg_name (i := 4) sc_law_is_in.nd rfl (by first | exact Or.inl rfl | exact Or.inr rfl)) (gc_name (vs := [4]) (i := 4) (by decide)) (pdss_one (pds_if (pdt_not (pdt_val (pd_callC C_law_is_same (room.mono (by decide)) gd (by rfl) (pda_cons (pd_tup (pda_cons (pd_cmp (op_inO (room.mono (by decide))) (c2_inO (tab := [("Cube", s_Cube_contains)]) (g := (fun b => b)) (mem_tab1 C_Cube_contains)) (pd_var (pv 4)) (pd_var (pv 0)) (by rfl)) (pda_cons (pd_cmp (op_notInO (room.mono (by decide))) (c2_inO (tab := [("Cube", s_Cube_contains)]) (g := (fun b => !b)) (mem_tab1 C_Cube_contains)) (pd_var (pv 4)) (pd_var (pv 0)) (by rfl)) pda_nil))) (pda_cons (pd_tup (pda_cons pd_bl (pda_cons pd_bl pda_nil))) pda_nil))))) (pdss_one (pds_ret pd_bl)) pdss_nil)))
    (pdss_one (pds_ret pd_bl)))))

theorem sc_Cube_eq : FnScope ["self", "other"] ["self", "other"] (defScope st_Cube_eq) := ⟨rfl, rfl, rfl, by decide +kernel, rfl, by decide +kernel, by decide +kernel⟩
theorem ok_Cube_eq {P : Program} {w : World} {K : PySem.W.Frag} {mg : Str → Option Value} {base : Heap} {f : Addr} {fd : FuncData} (B : Bts mg) (h : Fun K "__eq__" "Cube.__eq__" st_Cube_eq f fd) (I_Cube : IsC w K mg "Cube" [("Cube", true)]) (NA_Cube_own_scheme : NoA ⟨K, w, Tbs.T⟩ ["Cube"] "own_scheme") (NA_Cube_kept : NoA ⟨K, w, Tbs.T⟩ ["Cube"] "kept") : RnX P w K mg base 1 f s_Cube_eq :=
  rnxM h (fun _ _ _ _ _ _ us hl => match us, hl with | [_, _], _ => rfl) sc_Cube_eq l_Cube_eq v_Cube_eq fun f cdv A outer s H E room =>
    (pdss_one (pds_ret (pd_and (pd_isC (pd_var (pv 1)) (by rfl) B.isi (by rfl) I_Cube) (pd_and (pd_cmp (op_eqA room.units) c2_eq (pd_fld (pd_var (pv 0)) NA_Cube_own_scheme) (pd_fld (pd_var (pv 1)) NA_Cube_own_scheme) (nomark _)) (pd_one (pd_cmp (op_eqA room.units) c2_eq (pd_fld (pd_var (pv 0)) NA_Cube_kept) (pd_fld (pd_var (pv 1)) NA_Cube_kept) (nomark _)))))))

theorem sc_Cube_repr : FnScope ["self", "one"] ["self"] (defScope st_Cube_repr) := ⟨rfl, rfl, rfl, by decide +kernel, rfl, by decide +kernel, by decide +kernel⟩
theorem ok_Cube_repr {P : Program} {w : World} {K : PySem.W.Frag} {mg : Str → Option Value} {base : Heap} {f : Addr} {fd : FuncData} (B : Bts mg) (h : Fun K "__repr__" "Cube.__repr__" st_Cube_repr f fd) (NA_Cube_kept : NoA ⟨K, w, Tbs.T⟩ ["Cube"] "kept") : RnX P w K mg base 1 f s_Cube_repr :=
  rnxM h (fun _ _ _ _ _ _ us hl => match us, hl with | [_], _ => rfl) sc_Cube_repr l_Cube_repr v_Cube_repr fun f cdv A outer s H E room =>
    (pdss_one (pds_ret (pd_fs (.cons pd_str (.cons (pd_fmt (pd_callB callR_len cl_len (by rfl) B.len (by decide +kernel) (pda_cons (pd_lc (own := [("one", 1)]) (dg := (gV 1)) (tt := (dTest (dOp aNe (dVar 1) (dC (.int 0))))) (te := (dVar 1)) rfl sc_Cube_repr.nd  (pdi_seq (pd_fld (pd_var (pv 0)) NA_Cube_kept)) (blkOk_by (own := [("one", 1)]) (by rfl)) (gc_name (vs := [1]) (i := 1) (by decide)) (fun _ _ _ _ _ => (pg_name (i := 1) sc_Cube_repr.nd rfl (by first | exact Or.inl rfl | exact Or.inr rfl))) (fun _ _ _ _ _ => (pdts_one (pdt_cmp (op_neA room.units) c2_ne (pd_var (pv 1)) pd_int (nomark _)))) (fun _ _ _ _ _ => (pd_var (pv 1)))) pda_nil))) (.cons pd_str (.cons (pd_fmt (pd_callB (cr_sum rfl) cl_sum (by rfl) B.sum (by decide +kernel) (pda_cons (pd_lc (own := [("one", 1)]) (dg := (gV 1)) (tt := dYes) (te := (dVar 1)) rfl sc_Cube_repr.nd  (pdi_seq (pd_fld (pd_var (pv 0)) NA_Cube_kept)) (blkOk_by (own := [("one", 1)]) (by rfl)) (gc_name (vs := [1]) (i := 1) (by decide)) (fun _ _ _ _ _ => (pg_name (i := 1) sc_Cube_repr.nd rfl (by first | exact Or.inl rfl | exact Or.inr rfl))) (fun _ _ _ _ _ => pdts_nil) (fun _ _ _ _ _ => (pd_var (pv 1)))) pda_nil))) (.cons pd_str .nil))))))))

theorem sc_law_said : FnScope ["_law_call", "e", "_law_marks", "_law_names"] ["_law_call"] (defScope st_law_said) := ⟨rfl, rfl, rfl, by decide +kernel, rfl, by decide +kernel, by decide +kernel⟩
theorem ok_law_said {P : Program} {w : World} {K : PySem.W.Frag} {mg : Str → Option Value} {base : Heap} (B : Bts mg) (h : ∃ f fd, Df K mg "_law_said" st_law_said ["_law_call"] f fd) (S : SaidK w K mg) : ClS P w K mg base "_law_said" "_law_call" 1 sdC :=
  clS_of h sc_law_said rfl (by first | exact Or.inl rfl | exact Or.inr rfl) fun X g cdv e1 e2 e3 e4 e5 room0 gd => by
    subst e1 e2 e3 e4 e5
    exact gives_C (i := 1) (t3 := t_law_said) S sc_law_said.nd rfl (by decide) rfl rfl rfl rfl (fun _ => rfl) (fun s H a oe pn p D hp hD hz hf =>
      have room := room0.deeper (envOfC "_law_said" (defScope st_law_said) s.heap.objs.size g cdv)
      (pdss_cons (pds_set (i := 2) sc_law_said.nd rfl (by first | exact Or.inl rfl | exact Or.inr rfl) (pd_lst (pda_cons (pd_isE (q := (a, oe)) List.mem_cons_self (S.e p hp D hD) hz hf (S.k p hp D hD ("SchemeError", "scheme") (by decide)) (pv 1) (by rfl) (by rfl) B.isi) (pda_cons (pd_isE (q := (a, oe)) List.mem_cons_self (S.e p hp D hD) hz hf (S.k p hp D hD ("RollupError", "rollup") (by decide)) (pv 1) (by rfl) (by rfl) B.isi) pda_nil))))
    (pdss_cons (pds_set (i := 2) sc_law_said.nd rfl (by first | exact Or.inl rfl | exact Or.inr rfl) (pd_op op_addA c2_add (pd_var (pv 2)) (pd_lst (pda_cons (pd_isE (q := (a, oe)) List.mem_cons_self (S.e p hp D hD) hz hf (S.k p hp D hD ("CellError", "cell") (by decide)) (pv 1) (by rfl) (by rfl) B.isi) (pda_cons (pd_isE (q := (a, oe)) List.mem_cons_self (S.e p hp D hD) hz hf (S.k p hp D hD ("TableError", "table") (by decide)) (pv 1) (by rfl) (by rfl) B.isi) pda_nil)))))
    (pdss_cons (pds_set (i := 2) sc_law_said.nd rfl (by first | exact Or.inl rfl | exact Or.inr rfl) (pd_op op_addA c2_add (pd_var (pv 2)) (pd_lst (pda_cons (pd_isE (q := (a, oe)) List.mem_cons_self (S.e p hp D hD) hz hf (S.k p hp D hD ("StoredError", "stored") (by decide)) (pv 1) (by rfl) (by rfl) B.isi) (pda_cons (pd_isE (q := (a, oe)) List.mem_cons_self (S.e p hp D hD) hz hf (S.k p hp D hD ("ReportError", "report") (by decide)) (pv 1) (by rfl) (by rfl) B.isi) pda_nil)))))
    (pdss_cons (pds_set (i := 2) sc_law_said.nd rfl (by first | exact Or.inl rfl | exact Or.inr rfl) (pd_op op_addA c2_add (pd_var (pv 2)) (pd_lst (pda_cons (pd_isE (q := (a, oe)) List.mem_cons_self (S.e p hp D hD) hz hf (S.k p hp D hD ("NumberError", "number") (by decide)) (pv 1) (by rfl) (by rfl) B.isi) pda_nil))))
    (pdss_cons (pds_set (i := 2) sc_law_said.nd rfl (by first | exact Or.inl rfl | exact Or.inr rfl) (pd_op op_addA c2_add (pd_var (pv 2)) (pd_lst (pda_cons (pd_isE (q := (a, oe)) List.mem_cons_self (S.e p hp D hD) hz hf (S.k p hp D hD ("AmountError", "amount") (by decide)) (pv 1) (by rfl) (by rfl) B.isi) (pda_cons (pd_isE (q := (a, oe)) List.mem_cons_self (S.e p hp D hD) hz hf (S.k p hp D hD ("CubeError", "cube") (by decide)) (pv 1) (by rfl) (by rfl) B.isi) pda_nil)))))
    (pdss_cons (pds_set (i := 2) sc_law_said.nd rfl (by first | exact Or.inl rfl | exact Or.inr rfl) (pd_op op_addA c2_add (pd_var (pv 2)) (pd_lst (pda_cons (pd_isE (q := (a, oe)) List.mem_cons_self (S.e p hp D hD) hz hf (S.k p hp D hD ("MatchError", "match") (by decide)) (pv 1) (by rfl) (by rfl) B.isi) pda_nil))))
    (pdss_cons (pds_set (i := 2) sc_law_said.nd rfl (by first | exact Or.inl rfl | exact Or.inr rfl) (pd_op op_addA c2_add (pd_var (pv 2)) (pd_lst (pda_cons (pd_isE (q := (a, oe)) List.mem_cons_self (S.e p hp D hD) hz hf (S.k p hp D hD ("PlaceError", "place") (by decide)) (pv 1) (by rfl) (by rfl) B.isi) (pda_cons (pd_isE (q := (a, oe)) List.mem_cons_self (S.e p hp D hD) hz hf (S.k p hp D hD ("TextError", "text") (by decide)) (pv 1) (by rfl) (by rfl) B.isi) pda_nil)))))
    (pdss_cons (pds_set (i := 2) sc_law_said.nd rfl (by first | exact Or.inl rfl | exact Or.inr rfl) (pd_op op_addA c2_add (pd_var (pv 2)) (pd_lst (pda_cons (pd_isE (q := (a, oe)) List.mem_cons_self (S.e p hp D hD) hz hf (S.k p hp D hD ("NothingDone", "nothing") (by decide)) (pv 1) (by rfl) (by rfl) B.isi) pda_nil))))
    (pdss_cons (pds_set (i := 2) sc_law_said.nd rfl (by first | exact Or.inl rfl | exact Or.inr rfl) (pd_op op_addA c2_add (pd_var (pv 2)) (pd_lst (pda_cons (pd_isE (q := (a, oe)) List.mem_cons_self (S.e p hp D hD) hz hf (S.k p hp D hD ("OrderError", "order") (by decide)) (pv 1) (by rfl) (by rfl) B.isi) (pda_cons (pd_isE (q := (a, oe)) List.mem_cons_self (S.e p hp D hD) hz hf (S.k p hp D hD ("SumsError", "sums") (by decide)) (pv 1) (by rfl) (by rfl) B.isi) pda_nil)))))
    (pdss_cons (pds_set (i := 3) sc_law_said.nd rfl (by first | exact Or.inl rfl | exact Or.inr rfl) (pd_lst (pda_cons pd_str (pda_cons pd_str (pda_cons pd_str (pda_cons pd_str (pda_cons pd_str (pda_cons pd_str pda_nil))))))))
    (pdss_cons (pds_set (i := 3) sc_law_said.nd rfl (by first | exact Or.inl rfl | exact Or.inr rfl) (pd_op op_addA c2_add (pd_var (pv 3)) (pd_lst (pda_cons pd_str (pda_cons pd_str (pda_cons pd_str (pda_cons pd_str (pda_cons pd_str pda_nil))))))))
    (pdss_cons (pds_set (i := 3) sc_law_said.nd rfl (by first | exact Or.inl rfl | exact Or.inr rfl) (pd_op op_addA c2_add (pd_var (pv 3)) (pd_lst (pda_cons pd_str (pda_cons pd_str (pda_cons pd_str (pda_cons pd_str pda_nil)))))))
    (pdss_one (pds_ret (pd_if (pdt_cmp (op_eqA room.units) c2_eq (pd_countB (pd_var (pv 2)) pd_bl) pd_int (nomark _)) (pd_ix room.u65 (pd_var (pv 3)) (pd_indexL room.u65 (pd_var (pv 2)) pd_bl)) pd_str)))))))))))))))) ht_law_said

theorem sc_is_rollup : FnScope ["scheme", "thing", "attribute", "level"] ["scheme", "thing"] (defScope st_is_rollup) := ⟨rfl, rfl, rfl, by decide +kernel, rfl, by decide +kernel, by decide +kernel⟩
theorem ok_is_rollup {P : Program} {w : World} {K : PySem.W.Frag} {mg : Str → Option Value} {base : Heap} (B : Bts mg) (h : ∃ f fd, Df K mg "is_rollup" st_is_rollup ["scheme", "thing"] f fd) (C_is_between : ClF P w K mg base "is_between" 2 ["thing", "low", "high"] s_is_between) : ClF P w K mg base "is_rollup" 3 ["scheme", "thing"] s_is_rollup :=
  fnCF h sc_is_rollup l_is_rollup v_is_rollup fun f cdv A outer s H E room =>
    (pdss_cons (pds_if (pdt_w (pdw_or (pdt_not (pdt_val (pd_isi (T := "tuple") (pd_var (pv 1)) (by rfl) B.isi (by rfl) B.tuple (by decide +kernel) (by decide)))) (pdw_or1 (pdt_cmp (op_neA room.units) c2_ne (pd_callB callR_len cl_len (by rfl) B.len (by decide +kernel) (pda_cons (pd_var (pv 1)) pda_nil)) (pd_callB callR_len cl_len (by rfl) B.len (by decide +kernel) (pda_cons (pd_var (pv 0)) pda_nil)) (nomark _))))) (pdss_one (pds_ret pd_bl)) pdss_nil)
    (pdss_one (pds_ret (pd_callB (cr_all rfl) cl_all (by rfl) B.all (by decide +kernel) (pda_cons (pd_lc (own := [("attribute", 2), ("level", 3)]) (dg := (gT 2 (gC (gV 2) (gC (gV 3) gN)))) (tt := dYes) (te := (dCB s_is_between (dCons (dVar 3) (dCons (dC (.int 0)) (dCons (dCB aLen (dCons (dOp aIx (dVar 2) (dC (.int 1))) dNil)) dNil))))) rfl sc_is_rollup.nd  (pdi_zip2 (pd_var (pv 0)) (pd_var (pv 1)) (by rfl) B.zip) (blkOk_by (own := [("attribute", 2), ("level", 3)]) (by rfl)) (gc_tup (gcs_cons (gc_name (vs := [2, 3]) (i := 2) (by decide)) (gcs_cons (gc_name (vs := [2, 3]) (i := 3) (by decide)) (gcs_nil (vs := [2, 3]))))) (fun _ _ _ _ _ => (pg_tup rfl (pgs_cons (pg_name (i := 2) sc_is_rollup.nd rfl (by first | exact Or.inl rfl | exact Or.inr rfl)) (pgs_cons (pg_name (i := 3) sc_is_rollup.nd rfl (by first | exact Or.inl rfl | exact Or.inr rfl)) pgs_nil)))) (fun _ _ _ _ _ => pdts_nil) (fun _ _ _ _ _ => (pd_callF C_is_between (room.mono (by decide)) (by rfl) (pda_cons (pd_var (pv 3)) (pda_cons pd_int (pda_cons (pd_callB callR_len cl_len (by rfl) B.len (by decide +kernel) (pda_cons (pd_ix room.u65 (pd_var (pv 2)) pd_int) pda_nil)) pda_nil)))))) pda_nil)))))

theorem sc_need_rollup : FnScope ["scheme", "thing"] ["scheme", "thing"] (defScope st_need_rollup) := ⟨rfl, rfl, rfl, by decide +kernel, rfl, by decide +kernel, by decide +kernel⟩
theorem ok_need_rollup {P : Program} {w : World} {K : PySem.W.Frag} {mg : Str → Option Value} {base : Heap} (B : Bts mg) (h : ∃ f fd, Df K mg "need_rollup" st_need_rollup ["scheme", "thing"] f fd) (E_RollupError : ExcD w K mg "RollupError") (C_is_rollup : ClF P w K mg base "is_rollup" 3 ["scheme", "thing"] s_is_rollup) : ClX P w K mg base "need_rollup" 4 ["scheme", "thing"] s_need_rollup :=
  fnCX h sc_need_rollup l_need_rollup v_need_rollup fun f cdv A outer s H E room =>
    (pdss_one (pds_if (pdt_not (pdt_val (pd_callF C_is_rollup (room.mono (by decide)) (by rfl) (pda_cons (pd_var (pv 0)) (pda_cons (pd_var (pv 1)) pda_nil))))) (pdss_one (pds_raise rfl E_RollupError (by rfl))) pdss_nil))

theorem sc_group_above : FnScope ["attribute", "group", "low", "high", "step"] ["attribute", "group", "low", "high"] (defScope st_group_above) := ⟨rfl, rfl, rfl, by decide +kernel, rfl, by decide +kernel, by decide +kernel⟩
theorem ok_group_above {P : Program} {w : World} {K : PySem.W.Frag} {mg : Str → Option Value} {base : Heap} (B : Bts mg) (h : ∃ f fd, Df K mg "group_above" st_group_above ["attribute", "group", "low", "high"] f fd) : ClF P w K mg base "group_above" 1 ["attribute", "group", "low", "high"] s_group_above :=
  fnCF h sc_group_above l_group_above v_group_above fun f cdv A outer s H E room =>
    (pdss_cons (pds_for PassesOwn.never rfl (pdi_seq (pd_slice (pd_ix room.u65 (pd_var (pv 0)) pd_int) (pdo_some (pd_var (pv 2))) (pdo_some (pd_var (pv 3))))) (pg_name (i := 4) sc_group_above.nd rfl (by first | exact Or.inl rfl | exact Or.inr rfl)) (gc_name (vs := [4]) (i := 4) (by decide)) (pdss_one (pds_set (i := 1) sc_group_above.nd rfl (by first | exact Or.inl rfl | exact Or.inr rfl) (pd_ix room.u65 (pd_var (pv 4)) (pd_var (pv 1))))))
    (pdss_one (pds_ret (pd_var (pv 1)))))

theorem sc_cell_above : FnScope ["scheme", "rollup", "cell", "other", "found", "at", "attribute"] ["scheme", "rollup", "cell", "other"] (defScope st_cell_above) := ⟨rfl, rfl, rfl, by decide +kernel, rfl, by decide +kernel, by decide +kernel⟩
theorem ok_cell_above {P : Program} {w : World} {K : PySem.W.Frag} {mg : Str → Option Value} {base : Heap} (B : Bts mg) (h : ∃ f fd, Df K mg "cell_above" st_cell_above ["scheme", "rollup", "cell", "other"] f fd) (C_group_above : ClF P w K mg base "group_above" 1 ["attribute", "group", "low", "high"] s_group_above) : ClF P w K mg base "cell_above" 2 ["scheme", "rollup", "cell", "other"] s_cell_above :=
  fnCF h sc_cell_above l_cell_above v_cell_above fun f cdv A outer s H E room =>
    (pdss_cons (pds_set (i := 4) sc_cell_above.nd rfl (by first | exact Or.inl rfl | exact Or.inr rfl) (pd_lstM pda_nil))
    (pdss_cons (pds_for PassesOwn.never rfl (pdi_enum (pd_var (pv 0)) (by rfl) B.enum) (pg_tup rfl (pgs_cons (pg_name (i := 5) sc_cell_above.nd rfl (by first | exact Or.inl rfl | exact Or.inr rfl)) (pgs_cons (pg_name (i := 6) sc_cell_above.nd rfl (by first | exact Or.inl rfl | exact Or.inr rfl)) pgs_nil))) (gc_tup (gcs_cons (gc_name (vs := [5, 6]) (i := 5) (by decide)) (gcs_cons (gc_name (vs := [5, 6]) (i := 6) (by decide)) (gcs_nil (vs := [5, 6]))))) (pdss_one (pds_drop (pd_append (pd_var (pv 4)) (pd_callF C_group_above (room.mono (by decide)) (by rfl) (pda_cons (pd_var (pv 6)) (pda_cons (pd_ix room.u65 (pd_var (pv 2)) (pd_var (pv 5))) (pda_cons (pd_ix room.u65 (pd_var (pv 1)) (pd_var (pv 5))) (pda_cons (pd_ix room.u65 (pd_var (pv 3)) (pd_var (pv 5))) pda_nil)))))))))
    (pdss_one (pds_ret (pd_callTy call_tuple_ofF cl_tuple (by rfl) B.tuple (by decide +kernel) (pda_cons (pd_var (pv 4)) pda_nil))))))

theorem sc_rolled_of : FnScope ["scheme", "rollup", "amounts", "other", "found", "cell", "amount", "place"] ["scheme", "rollup", "amounts", "other"] (defScope st_rolled_of) := ⟨rfl, rfl, rfl, by decide +kernel, rfl, by decide +kernel, by decide +kernel⟩
theorem ok_rolled_of {P : Program} {w : World} {K : PySem.W.Frag} {mg : Str → Option Value} {base : Heap} (B : Bts mg) (h : ∃ f fd, Df K mg "rolled_of" st_rolled_of ["scheme", "rollup", "amounts", "other"] f fd) (C_cells_of : ClF P w K mg base "cells_of" 3 ["scheme", "rollup"] s_cells_of) (C_cell_above : ClF P w K mg base "cell_above" 2 ["scheme", "rollup", "cell", "other"] s_cell_above) : ClF P w K mg base "rolled_of" 4 ["scheme", "rollup", "amounts", "other"] s_rolled_of :=
  fnCF h sc_rolled_of l_rolled_of v_rolled_of fun f cdv A outer s H E room =>
    (pdss_cons (pds_set (i := 4) sc_rolled_of.nd rfl (by first | exact Or.inl rfl | exact Or.inr rfl) pd_newD)
    (pdss_cons (pds_for PassesOwn.never rfl (pdi_seq (pd_callF C_cells_of (room.mono (by decide)) (by rfl) (pda_cons (pd_var (pv 0)) (pda_cons (pd_var (pv 3)) pda_nil)))) (pg_name (i := 5) sc_rolled_of.nd rfl (by first | exact Or.inl rfl | exact Or.inr rfl)) (gc_name (vs := [5]) (i := 5) (by decide)) (pdss_one (pds_put room.u65 pd_int (pd_var (pv 4)) (pd_var (pv 5)))))
    (pdss_cons (pds_for PassesOwn.never rfl (pdi_zip2 (pd_callF C_cells_of (room.mono (by decide)) (by rfl) (pda_cons (pd_var (pv 0)) (pda_cons (pd_var (pv 1)) pda_nil))) (pd_var (pv 2)) (by rfl) B.zip) (pg_tup rfl (pgs_cons (pg_name (i := 5) sc_rolled_of.nd rfl (by first | exact Or.inl rfl | exact Or.inr rfl)) (pgs_cons (pg_name (i := 6) sc_rolled_of.nd rfl (by first | exact Or.inl rfl | exact Or.inr rfl)) pgs_nil))) (gc_tup (gcs_cons (gc_name (vs := [5, 6]) (i := 5) (by decide)) (gcs_cons (gc_name (vs := [5, 6]) (i := 6) (by decide)) (gcs_nil (vs := [5, 6]))))) (pdss_cons (pds_set (i := 7) sc_rolled_of.nd rfl (by first | exact Or.inl rfl | exact Or.inr rfl) (pd_callF C_cell_above (room.mono (by decide)) (by rfl) (pda_cons (pd_var (pv 0)) (pda_cons (pd_var (pv 1)) (pda_cons (pd_var (pv 5)) (pda_cons (pd_var (pv 3)) pda_nil))))))
    (pdss_one (pds_put room.u65 (pd_op op_addA c2_add (pd_ix room.u65 (pd_var (pv 4)) (pd_var (pv 7))) (pd_var (pv 6))) (pd_var (pv 4)) (pd_var (pv 7))))))
    (pdss_one (pds_ret (pd_tupVals rfl (by rfl) B.tuple (pd_var (pv 4))))))))

theorem sc_sums_of : FnScope ["scheme", "table", "rollup"] ["scheme", "table", "rollup"] (defScope st_sums_of) := ⟨rfl, rfl, rfl, by decide +kernel, rfl, by decide +kernel, by decide +kernel⟩
theorem ok_sums_of {P : Program} {w : World} {K : PySem.W.Frag} {mg : Str → Option Value} {base : Heap} (B : Bts mg) (h : ∃ f fd, Df K mg "sums_of" st_sums_of ["scheme", "table", "rollup"] f fd) (C_rolled_of : ClF P w K mg base "rolled_of" 4 ["scheme", "rollup", "amounts", "other"] s_rolled_of) (C_finest : ClF P w K mg base "finest" 1 ["scheme"] s_finest) : ClF P w K mg base "sums_of" 5 ["scheme", "table", "rollup"] s_sums_of :=
  fnCF h sc_sums_of l_sums_of v_sums_of fun f cdv A outer s H E room =>
    (pdss_one (pds_ret (pd_callF C_rolled_of (room.mono (by decide)) (by rfl) (pda_cons (pd_var (pv 0)) (pda_cons (pd_callF C_finest (room.mono (by decide)) (by rfl) (pda_cons (pd_var (pv 0)) pda_nil)) (pda_cons (pd_var (pv 1)) (pda_cons (pd_var (pv 2)) pda_nil)))))))

theorem sc_Cube_getitem : FnScope ["self", "rollup"] ["self", "rollup"] (defScope st_Cube_getitem) := ⟨rfl, rfl, rfl, by decide +kernel, rfl, by decide +kernel, by decide +kernel⟩
theorem ok_Cube_getitem {P : Program} {w : World} {K : PySem.W.Frag} {mg : Str → Option Value} {base : Heap} {f : Addr} {fd : FuncData} (B : Bts mg) (h : Fun K "__getitem__" "Cube.__getitem__" st_Cube_getitem f fd) (C_need_rollup : ClX P w K mg base "need_rollup" 4 ["scheme", "thing"] s_need_rollup) (C_sums_of : ClF P w K mg base "sums_of" 5 ["scheme", "table", "rollup"] s_sums_of) (NA_Cube_own_scheme : NoA ⟨K, w, Tbs.T⟩ ["Cube"] "own_scheme") (NA_Cube_kept : NoA ⟨K, w, Tbs.T⟩ ["Cube"] "kept") : RnX P w K mg base 6 f s_Cube_getitem :=
  rnxM h (fun _ _ _ _ _ _ us hl => match us, hl with | [_, _], _ => rfl) sc_Cube_getitem l_Cube_getitem v_Cube_getitem fun f cdv A outer s H E room =>
    (pdss_cons (pds_dropX (pdx_callX C_need_rollup (room.mono (by decide)) (by rfl) (pda_cons (pd_fld (pd_var (pv 0)) NA_Cube_own_scheme) (pda_cons (pd_var (pv 1)) pda_nil))))
    (pdss_one (pds_ret (pd_callF C_sums_of (room.mono (by decide)) (by rfl) (pda_cons (pd_fld (pd_var (pv 0)) NA_Cube_own_scheme) (pda_cons (pd_fld (pd_var (pv 0)) NA_Cube_kept) (pda_cons (pd_var (pv 1)) pda_nil)))))))

theorem sc_law : FnScope ["_law_script", "_law_k", "_law_cell_here", "_law_lap", "_law_scheme_here", "_law_far", "_law_table_here", "_law_other", "_law_due", "_law_told", "_law_thing", "_law_cube", "_law_same"] ["_law_script"] (defScope st_law) := ⟨rfl, rfl, rfl, by decide +kernel, rfl, by decide +kernel, by decide +kernel⟩
theorem ok_law {P : Program} {w : World} {K : PySem.W.Frag} {mg : Str → Option Value} {base : Heap} {cd PT : Addr} (B : Bts mg) {f : Addr} {fd : FuncData} (h : Df K mg "law" st_law ["_law_script"] f fd) (hcd : fd.code = .ref cd) (LF : LamF base mg (("law" : Str) ++ ".<locals>.") cd PT) (NB_Cube : NotC w K "Cube") (C_law_cell : Cl P w K mg base "_law_cell" 1 ["_law_script", "_law_k"] s_law_cell) (C_law_scheme : Cl P w K mg base "_law_scheme" 2 ["_law_cell_here"] s_law_scheme) (C_law_table : Cl P w K mg base "_law_table" 3 ["_law_cell_here", "_law_scheme_here", "_law_most"] s_law_table) (C_Cube_assign_table : ClMX P w K mg base "Cube" "assign_table" 7 s_Cube_assign_table) (C_Cube_put : ClMX P w K mg base "Cube" "put" 5 s_Cube_put) (C_Cube_init : ClIX P w K mg base "Cube" 7 (dflX [.non] s_Cube_init)) (C_law_is_in : Cl P w K mg base "_law_is_in" 10 ["_law_cube", "_law_scheme_here", "_law_table_here"] s_law_is_in) (C_law_is_same : Cl P w K mg base "_law_is_same" 9 ["_law_actual", "_law_expected"] s_law_is_same) (C_Cube_eq : ClEX P w K mg base "Cube" 1 s_Cube_eq) (C_Cube_repr : ClMX P w K mg base "Cube" "__repr__" 1 s_Cube_repr) (C_law_said : ClS P w K mg base "_law_said" "_law_call" 1 sdC) (C_Cube_getitem : ClGX P w K mg base "Cube" 6 s_Cube_getitem) : FnD P w K mg base 13 f fd ["_law_script"] s_law :=
  fnL1 h hcd sc_law l_law v_law fun f A outer s H E gd room =>
    (pdss_cons (pds_for PassesOwn.never rfl (pdi_rg1 pd_int (by rfl) B.range) (pg_name (i := 1) sc_law.nd rfl (by first | exact Or.inl rfl | exact Or.inr rfl)) (gc_name (vs := [1]) (i := 1) (by decide)) (pdss_cons (pds_set (i := 2) sc_law.nd rfl (by first | exact Or.inl rfl | exact Or.inr rfl) (pd_callC C_law_cell (room.mono (by decide)) gd (by rfl) (pda_cons (pd_var (pv 0)) (pda_cons (pd_var (pv 1)) pda_nil))))
    (pdss_one (pds_for PassesOwn.never rfl (pdi_rg1 pd_int (by rfl) B.range) (pg_name (i := 3) sc_law.nd rfl (by first | exact Or.inl rfl | exact Or.inr rfl)) (gc_name (vs := [3]) (i := 3) (by decide)) (pdss_cons (pds_set (i := 4) sc_law.nd rfl (by first | exact Or.inl rfl | exact Or.inr rfl) (pd_callC C_law_scheme (room.mono (by decide)) gd (by rfl) (pda_cons (pd_op op_addA c2_add (pd_var (pv 2)) (pd_op op_mulA c2_mulA pd_int (pd_var (pv 3)))) pda_nil)))
    (pdss_cons (pds_set (i := 5) sc_law.nd rfl (by first | exact Or.inl rfl | exact Or.inr rfl) (pd_callC C_law_scheme (room.mono (by decide)) gd (by rfl) (pda_cons (pd_op op_addA c2_add (pd_op op_addA c2_add (pd_op op_fdiv c2_div (pd_var (pv 2)) pd_int) pd_int) (pd_var (pv 3))) pda_nil)))
    (pdss_cons (pds_set (i := 6) sc_law.nd rfl (by first | exact Or.inl rfl | exact Or.inr rfl) (pd_callC C_law_table (room.mono (by decide)) gd (by rfl) (pda_cons (pd_op op_addA c2_add (pd_op op_fdiv c2_div (pd_var (pv 2)) pd_int) (pd_var (pv 3))) (pda_cons (pd_var (pv 4)) (pda_cons pd_int pda_nil)))))
    (pdss_cons (pds_asg (pd_tup (pda_cons (pd_ofX (pdx_make C_Cube_init (room.mono (by decide)) (by rfl) (pda_cons (pd_var (pv 4)) (pda_cons (pd_var (pv 6)) pda_nil)))) (pda_cons (pd_ofX (pdx_make C_Cube_init (room.mono (by decide)) (by rfl) (pda_cons (pd_var (pv 4)) pda_nil))) pda_nil))) (pg_tup rfl (pgs_cons (pg_name (i := 11) sc_law.nd rfl (by first | exact Or.inl rfl | exact Or.inr rfl)) (pgs_cons (pg_name (i := 12) sc_law.nd rfl (by first | exact Or.inl rfl | exact Or.inr rfl)) pgs_nil))) (gc_tup (gcs_cons (gc_name (vs := [11, 12]) (i := 11) (by decide)) (gcs_cons (gc_name (vs := [11, 12]) (i := 12) (by decide)) (gcs_nil (vs := [11, 12]))))))
    (pdss_cons (pds_if (pdt_not (pdt_val (pd_callC C_law_is_in (room.mono (by decide)) gd (by rfl) (pda_cons (pd_var (pv 11)) (pda_cons (pd_var (pv 4)) (pda_cons (pd_var (pv 6)) pda_nil)))))) (pdss_one (pds_ret pd_bl)) pdss_nil)
    (pdss_cons (pds_drop (pd_ofX (pdx_meth (tab := [("Cube", s_Cube_assign_table)]) (pd_var (pv 12)) (mem_tab1 C_Cube_assign_table) (room.mono (by decide)) (pda_cons (pd_var (pv 6)) pda_nil))))
    (pdss_cons (pds_if (pdt_not (pdt_val (pd_callC C_law_is_same (room.mono (by decide)) gd (by rfl) (pda_cons (pd_tup (pda_cons (pd_cmp (op_eqO (room.mono (by decide))) (c2_eqO (tab := [("Cube", s_Cube_eq)]) (g := (fun b => b)) (mem_tab1 C_Cube_eq)) (pd_var (pv 11)) (pd_var (pv 12)) (nomark _)) (pda_cons (pd_cmp (op_eqO (room.mono (by decide))) (c2_eqO (tab := [("Cube", s_Cube_eq)]) (g := (fun b => b)) (mem_tab1 C_Cube_eq)) (pd_var (pv 12)) (pd_var (pv 11)) (nomark _)) (pda_cons (pd_cmp (op_neO (room.mono (by decide))) (c2_eqO (tab := [("Cube", s_Cube_eq)]) (g := (fun b => !b)) (mem_tab1 C_Cube_eq)) (pd_var (pv 11)) (pd_var (pv 12)) (nomark _)) pda_nil)))) (pda_cons (pd_tup (pda_cons pd_bl (pda_cons pd_bl (pda_cons pd_bl pda_nil)))) pda_nil))))) (pdss_one (pds_ret pd_bl)) pdss_nil)
    (pdss_cons (pds_drop (pd_ofX (pdx_meth (tab := [("Cube", s_Cube_put)]) (pd_var (pv 12)) (mem_tab1 C_Cube_put) (room.mono (by decide)) (pda_cons (pd_op op_mulA c2_mulA (pd_tup (pda_cons pd_int pda_nil)) (pd_callB callR_len cl_len (by rfl) B.len (by decide +kernel) (pda_cons (pd_var (pv 4)) pda_nil))) (pda_cons pd_int pda_nil)))))
    (pdss_cons (pds_set (i := 7) sc_law.nd rfl (by first | exact Or.inl rfl | exact Or.inr rfl) (pd_ofX (pdx_make C_Cube_init (room.mono (by decide)) (by rfl) (pda_cons (pd_var (pv 5)) pda_nil))))
    (pdss_cons (pds_set (i := 8) sc_law.nd rfl (by first | exact Or.inl rfl | exact Or.inr rfl) (pd_and (pd_cmp (op_eqA room.units) c2_eq (pd_var (pv 5)) (pd_var (pv 4)) (nomark _)) (pd_one (pd_cmp (op_eqA room.units) c2_eq (pd_var (pv 6)) (pd_op op_mulA c2_mulA (pd_tup (pda_cons pd_int pda_nil)) (pd_callB callR_len cl_len (by rfl) B.len (by decide +kernel) (pda_cons (pd_var (pv 6)) pda_nil))) (nomark _)))))
    (pdss_cons (pds_set (i := 9) sc_law.nd rfl (by first | exact Or.inl rfl | exact Or.inr rfl) (pd_tup (pda_cons (pd_cmp (op_eqO (room.mono (by decide))) (c2_eqO (tab := [("Cube", s_Cube_eq)]) (g := (fun b => b)) (mem_tab1 C_Cube_eq)) (pd_var (pv 11)) (pd_var (pv 12)) (nomark _)) (pda_cons (pd_cmp (op_neO (room.mono (by decide))) (c2_eqO (tab := [("Cube", s_Cube_eq)]) (g := (fun b => !b)) (mem_tab1 C_Cube_eq)) (pd_var (pv 11)) (pd_var (pv 12)) (nomark _)) (pda_cons (pd_cmp (op_eqO (room.mono (by decide))) (c2_eqO (tab := [("Cube", s_Cube_eq)]) (g := (fun b => b)) (mem_tab1 C_Cube_eq)) (pd_var (pv 11)) (pd_var (pv 7)) (nomark _)) (pda_cons (pd_cmp (op_eqO (room.mono (by decide))) (c2_eqO (tab := [("Cube", s_Cube_eq)]) (g := (fun b => b)) (mem_tab1 C_Cube_eq)) (pd_var (pv 7)) (pd_var (pv 11)) (nomark _)) (pda_cons (pd_cmp (op_neO (room.mono (by decide))) (c2_eqO (tab := [("Cube", s_Cube_eq)]) (g := (fun b => !b)) (mem_tab1 C_Cube_eq)) (pd_var (pv 11)) (pd_var (pv 7)) (nomark _)) pda_nil)))))))
    (pdss_cons (pds_if (pdt_not (pdt_val (pd_callC C_law_is_same (room.mono (by decide)) gd (by rfl) (pda_cons (pd_var (pv 9)) (pda_cons (pd_tup (pda_cons pd_bl (pda_cons pd_bl (pda_cons (pd_var (pv 8)) (pda_cons (pd_var (pv 8)) (pda_cons (pd_not (pd_var (pv 8))) pda_nil)))))) pda_nil))))) (pdss_one (pds_ret pd_bl)) pdss_nil)
    (pdss_cons (pds_for PassesOwn.never rfl (pdi_seq (pd_lst (pda_cons pd_non (pda_cons pd_int (pda_cons pd_bl (pda_cons pd_str (pda_cons (pd_reprO (tab := [("Cube", s_Cube_repr)]) (pd_var (pv 11)) (mem_tab1 C_Cube_repr) (room.mono (by decide)) (by rfl) B.repr (by decide +kernel)) (pda_cons (pd_var (pv 6)) (pda_cons (pd_var (pv 4)) (pda_cons (pd_tup (pda_cons (pd_var (pv 4)) (pda_cons (pd_var (pv 6)) pda_nil))) (pda_cons (pd_lst (pda_cons (pd_var (pv 11)) pda_nil)) (pda_cons pd_newE (pda_cons (pd_callTy call_list_of cl_list (by rfl) B.list (by decide +kernel) (pda_cons (pd_var (pv 6)) pda_nil)) pda_nil))))))))))))) (pg_name (i := 10) sc_law.nd rfl (by first | exact Or.inl rfl | exact Or.inr rfl)) (gc_name (vs := [10]) (i := 10) (by decide)) (pdss_one (pds_if (pdt_not (pdt_val (pd_callC C_law_is_same (room.mono (by decide)) gd (by rfl) (pda_cons (pd_tup (pda_cons (pd_cmp (op_eqO (room.mono (by decide))) (c2_eqO (tab := [("Cube", s_Cube_eq)]) (g := (fun b => b)) (mem_tab1 C_Cube_eq)) (pd_var (pv 11)) (pd_var (pv 10)) (nomark _)) (pda_cons (pd_cmp (op_eqR (room.mono (by decide))) (c2_eqR (tab := [("Cube", s_Cube_eq)]) (mem_tab1 (clER_mk C_Cube_eq NB_Cube))) (pd_var (pv 10)) (pd_var (pv 11)) (nomark _)) (pda_cons (pd_cmp (op_neO (room.mono (by decide))) (c2_eqO (tab := [("Cube", s_Cube_eq)]) (g := (fun b => !b)) (mem_tab1 C_Cube_eq)) (pd_var (pv 11)) (pd_var (pv 10)) (nomark _)) pda_nil)))) (pda_cons (pd_tup (pda_cons pd_bl (pda_cons pd_bl (pda_cons pd_bl pda_nil)))) pda_nil))))) (pdss_one (pds_ret pd_bl)) pdss_nil)))
    (pdss_one (pds_if (pdt_cmp op_notIn_seq c2_notInS (pd_said C_law_said LF room (by decide) gd (by rfl) rfl (LamX.lamS_by rfl) rfl (fun _ _ _ _ _ => rfl) fun A outer s H E f c' room => (pdx_getO (tab := [("Cube", s_Cube_getitem)]) (pd_var (pv 11)) (pd_tup (pda_cons pd_int pda_nil)) (mem_tab1 C_Cube_getitem) (room.mono (by decide)))) (pd_tup (pda_cons pd_str (pda_cons pd_str pda_nil))) (by rfl)) (pdss_one (pds_ret pd_bl)) pdss_nil)))))))))))))))))))
    (pdss_one (pds_ret pd_bl)))

theorem factsN {P : Program} {w : World} {K : PySem.W.Frag} {h : Heap} {mg : Str → Option Value} {fa : Addr} (X : K.In h) (G : h.Ns mainGlobals mg) (hfa : mg ("law" : Str) = some (.ref fa)) (c : He.SaysD faN fnN K) (hsd : saidB K = true) (hap : apartB tfN K = true) (ib_Cube : insB K (He.ga K "Cube") = true) (eb_Cube : eqB K (He.ga K "Cube") = true) (cb_Cube : clsB K (He.ga K "Cube") = true) (kb_Cube_Cube : kitB2 K (He.ga K "Cube") (He.ga K "Cube") true = true) (nb_Cube : notB K (He.ga K "Cube") = true) (cr : ∀ p ∈ prN, ∃ fd, FunD K p.name p.qual p.params p.body p.scope [] [] (pgA K p.c p.x p.ty p.n) fd) :
    ∃ fd : FuncData, (∀ (s : Shared) (u : Value), BindsTo s fd ⟨[u], []⟩ [("_law_script", u)]) ∧ ∀ base : Heap, K.In base → base.Ns mainGlobals mg → (∀ t ∈ tabsOf K tfN, LamX.TabB base mg t.1 t.2.1) → @FnD (tbsOf K tfN) P w K mg base 13 fa fd ["_law_script"] s_law := by
  letI : Tbs := tbsOf K tfN
  have x_law_cell := df_of X G c (x := "_law_cell") (st := st_law_cell) (ps := ["_law_script", "_law_k"]) 0 0 (fun _ _ _ _ _ _ us hl => match us, hl with | [_, _], _ => rfl)
  have x_law_draws := df_of X G c (x := "_law_draws") (st := st_law_draws) (ps := ["_law_cell_here", "_law_bounds"]) 1 1 (fun _ _ _ _ _ _ us hl => match us, hl with | [_, _], _ => rfl)
  have x_law_attribute := df_of X G c (x := "_law_attribute") (st := st_law_attribute) (ps := ["_law_numbers"]) 2 2 (fun _ _ _ _ _ _ us hl => match us, hl with | [_], _ => rfl)
  have x_law_scheme := df_of X G c (x := "_law_scheme") (st := st_law_scheme) (ps := ["_law_cell_here"]) 3 3 (fun _ _ _ _ _ _ us hl => match us, hl with | [_], _ => rfl)
  have x_law_below := df_of X G c (x := "_law_below") (st := st_law_below) (ps := ["_law_numbers"]) 4 4 (fun _ _ _ _ _ _ us hl => match us, hl with | [_], _ => rfl)
  have x_law_fine_cells := df_of X G c (x := "_law_fine_cells") (st := st_law_fine_cells) (ps := ["_law_scheme_here"]) 5 5 (fun _ _ _ _ _ _ us hl => match us, hl with | [_], _ => rfl)
  have x_law_table := df_of X G c (x := "_law_table") (st := st_law_table) (ps := ["_law_cell_here", "_law_scheme_here", "_law_most"]) 6 6 (fun _ _ _ _ _ _ us hl => match us, hl with | [_, _, _], _ => rfl)
  have x_product_of := df_of X G c (x := "product_of") (st := st_product_of) (ps := ["numbers"]) 7 7 (fun _ _ _ _ _ _ us hl => match us, hl with | [_], _ => rfl)
  have x_groups_at := df_of X G c (x := "groups_at") (st := st_groups_at) (ps := ["attribute", "level"]) 8 8 (fun _ _ _ _ _ _ us hl => match us, hl with | [_, _], _ => rfl)
  have x_sizes_at := df_of X G c (x := "sizes_at") (st := st_sizes_at) (ps := ["scheme", "rollup"]) 9 9 (fun _ _ _ _ _ _ us hl => match us, hl with | [_, _], _ => rfl)
  have x_size_of := df_of X G c (x := "size_of") (st := st_size_of) (ps := ["scheme", "rollup"]) 10 10 (fun _ _ _ _ _ _ us hl => match us, hl with | [_, _], _ => rfl)
  have x_is_integer := df_of X G c (x := "is_integer") (st := st_is_integer) (ps := ["thing"]) 11 11 (fun _ _ _ _ _ _ us hl => match us, hl with | [_], _ => rfl)
  have x_are_amounts := df_of X G c (x := "are_amounts") (st := st_are_amounts) (ps := ["scheme", "rollup", "thing"]) 12 12 (fun _ _ _ _ _ _ us hl => match us, hl with | [_, _, _], _ => rfl)
  have x_finest := df_of X G c (x := "finest") (st := st_finest) (ps := ["scheme"]) 13 13 (fun _ _ _ _ _ _ us hl => match us, hl with | [_], _ => rfl)
  have x_is_table_of := df_of X G c (x := "is_table_of") (st := st_is_table_of) (ps := ["scheme", "thing"]) 14 14 (fun _ _ _ _ _ _ us hl => match us, hl with | [_, _], _ => rfl)
  have x_need_table := df_of X G c (x := "need_table") (st := st_need_table) (ps := ["scheme", "thing"]) 15 15 (fun _ _ _ _ _ _ us hl => match us, hl with | [_, _], _ => rfl)
  obtain ⟨fd_Cube_change, x_Cube_change⟩ := funM_of c (c := "Cube") (x := "change") (st := st_Cube_change) 16
  have me_Cube_change := c.fact 16 rfl
  obtain ⟨fd_Cube_assign_table, x_Cube_assign_table⟩ := funM_of c (c := "Cube") (x := "assign_table") (st := st_Cube_assign_table) 17
  have me_Cube_assign_table := c.fact 17 rfl
  have x_is_between := df_of X G c (x := "is_between") (st := st_is_between) (ps := ["thing", "low", "high"]) 18 18 (fun _ _ _ _ _ _ us hl => match us, hl with | [_, _, _], _ => rfl)
  have x_is_cell := df_of X G c (x := "is_cell") (st := st_is_cell) (ps := ["scheme", "rollup", "thing"]) 19 19 (fun _ _ _ _ _ _ us hl => match us, hl with | [_, _, _], _ => rfl)
  have x_need_cell := df_of X G c (x := "need_cell") (st := st_need_cell) (ps := ["scheme", "rollup", "thing"]) 20 20 (fun _ _ _ _ _ _ us hl => match us, hl with | [_, _, _], _ => rfl)
  have x_need_amount := df_of X G c (x := "need_amount") (st := st_need_amount) (ps := ["thing"]) 21 21 (fun _ _ _ _ _ _ us hl => match us, hl with | [_], _ => rfl)
  have x_with_more := df_of X G c (x := "with_more") (st := st_with_more) (ps := ["table", "place", "amount"]) 22 22 (fun _ _ _ _ _ _ us hl => match us, hl with | [_, _, _], _ => rfl)
  have x_tuples_below := df_of X G c (x := "tuples_below") (st := st_tuples_below) (ps := ["numbers"]) 23 23 (fun _ _ _ _ _ _ us hl => match us, hl with | [_], _ => rfl)
  have x_cells_of := df_of X G c (x := "cells_of") (st := st_cells_of) (ps := ["scheme", "rollup"]) 24 24 (fun _ _ _ _ _ _ us hl => match us, hl with | [_, _], _ => rfl)
  have x_place_in := df_of X G c (x := "place_in") (st := st_place_in) (ps := ["scheme", "cell"]) 25 25 (fun _ _ _ _ _ _ us hl => match us, hl with | [_, _], _ => rfl)
  obtain ⟨fd_Cube_put, x_Cube_put⟩ := funM_of c (c := "Cube") (x := "put") (st := st_Cube_put) 26
  have me_Cube_put := c.fact 26 rfl
  have x_groups_behind := df_of X G c (x := "groups_behind") (st := st_groups_behind) (ps := ["step", "groups"]) 27 27 (fun _ _ _ _ _ _ us hl => match us, hl with | [_, _], _ => rfl)
  have x_is_attribute := df_of X G c (x := "is_attribute") (st := st_is_attribute) (ps := ["thing"]) 28 28 (fun _ _ _ _ _ _ us hl => match us, hl with | [_], _ => rfl)
  have x_is_scheme := df_of X G c (x := "is_scheme") (st := st_is_scheme) (ps := ["thing"]) 29 29 (fun _ _ _ _ _ _ us hl => match us, hl with | [_], _ => rfl)
  have x_need_scheme := df_of X G c (x := "need_scheme") (st := st_need_scheme) (ps := ["thing"]) 30 30 (fun _ _ _ _ _ _ us hl => match us, hl with | [_], _ => rfl)
  have x_no_table := df_of X G c (x := "no_table") (st := st_no_table) (ps := ["scheme"]) 31 31 (fun _ _ _ _ _ _ us hl => match us, hl with | [_], _ => rfl)
  obtain ⟨fd_Cube_init, x_Cube_init⟩ := funMD_of c (c := "Cube") (x := "__init__") (st := st_Cube_init) (dfl := [.non]) 32
  have me_Cube_init := c.fact 32 rfl
  have x_law_no_cells := df_of X G c (x := "_law_no_cells") (st := st_law_no_cells) (ps := ["_law_scheme_here"]) 33 33 (fun _ _ _ _ _ _ us hl => match us, hl with | [_], _ => rfl)
  have x_law_is_same := df_of X G c (x := "_law_is_same") (st := st_law_is_same) (ps := ["_law_actual", "_law_expected"]) 34 34 (fun _ _ _ _ _ _ us hl => match us, hl with | [_, _], _ => rfl)
  obtain ⟨fd_Cube_contains, x_Cube_contains⟩ := funM_of c (c := "Cube") (x := "__contains__") (st := st_Cube_contains) 35
  have me_Cube_contains := c.fact 35 rfl
  have x_law_is_in := df_of X G c (x := "_law_is_in") (st := st_law_is_in) (ps := ["_law_cube", "_law_scheme_here", "_law_table_here"]) 36 36 (fun _ _ _ _ _ _ us hl => match us, hl with | [_, _, _], _ => rfl)
  obtain ⟨fd_Cube_eq, x_Cube_eq⟩ := funM_of c (c := "Cube") (x := "__eq__") (st := st_Cube_eq) 37
  have me_Cube_eq := c.fact 37 rfl
  obtain ⟨fd_Cube_repr, x_Cube_repr⟩ := funM_of c (c := "Cube") (x := "__repr__") (st := st_Cube_repr) 38
  have me_Cube_repr := c.fact 38 rfl
  have x_law_said := df_of X G c (x := "_law_said") (st := st_law_said) (ps := ["_law_call"]) 39 39 (fun _ _ _ _ _ _ us hl => match us, hl with | [_], _ => rfl)
  have x_is_rollup := df_of X G c (x := "is_rollup") (st := st_is_rollup) (ps := ["scheme", "thing"]) 40 40 (fun _ _ _ _ _ _ us hl => match us, hl with | [_, _], _ => rfl)
  have x_need_rollup := df_of X G c (x := "need_rollup") (st := st_need_rollup) (ps := ["scheme", "thing"]) 41 41 (fun _ _ _ _ _ _ us hl => match us, hl with | [_, _], _ => rfl)
  have x_group_above := df_of X G c (x := "group_above") (st := st_group_above) (ps := ["attribute", "group", "low", "high"]) 42 42 (fun _ _ _ _ _ _ us hl => match us, hl with | [_, _, _, _], _ => rfl)
  have x_cell_above := df_of X G c (x := "cell_above") (st := st_cell_above) (ps := ["scheme", "rollup", "cell", "other"]) 43 43 (fun _ _ _ _ _ _ us hl => match us, hl with | [_, _, _, _], _ => rfl)
  have x_rolled_of := df_of X G c (x := "rolled_of") (st := st_rolled_of) (ps := ["scheme", "rollup", "amounts", "other"]) 44 44 (fun _ _ _ _ _ _ us hl => match us, hl with | [_, _, _, _], _ => rfl)
  have x_sums_of := df_of X G c (x := "sums_of") (st := st_sums_of) (ps := ["scheme", "table", "rollup"]) 45 45 (fun _ _ _ _ _ _ us hl => match us, hl with | [_, _, _], _ => rfl)
  obtain ⟨fd_Cube_getitem, x_Cube_getitem⟩ := funM_of c (c := "Cube") (x := "__getitem__") (st := st_Cube_getitem) 46
  have me_Cube_getitem := c.fact 46 rfl
  have x_law := dfL_of X G c (x := "law") (st := st_law) (ps := ["_law_script"]) 47 47 (fun _ _ _ _ _ _ us hl => match us, hl with | [_], _ => rfl)
  have c_MOST_ATTRIBUTES : Ci mg "MOST_ATTRIBUTES" 3 := He.int_ok X G (c.fact 48 rfl)
  have c_MOST_VALUES : Ci mg "MOST_VALUES" 6 := He.int_ok X G (c.fact 49 rfl)
  have c_MOST_STEPS : Ci mg "MOST_STEPS" 3 := He.int_ok X G (c.fact 50 rfl)
  have c_MOST_CELLS : Ci mg "MOST_CELLS" 60 := He.int_ok X G (c.fact 51 rfl)
  have c_MOST_AMOUNT : Ci mg "MOST_AMOUNT" 1000000 := He.int_ok X G (c.fact 52 rfl)
  have g_Cube : (He.Fa.glo "Cube").ok K = true := c.fact 68 rfl
  have cl_Cube : (He.Fa.cls "Cube").ok K = true := c.fact 69 rfl
  have NA_Cube_own_scheme : NoA ⟨K, w, Tbs.T⟩ ["Cube"] "own_scheme" := noA_of g_Cube (c.fact 70 rfl)
  have NA_Cube_kept : NoA ⟨K, w, Tbs.T⟩ ["Cube"] "kept" := noA_of g_Cube (c.fact 71 rfl)
  have NA_Cube_past : NoA ⟨K, w, Tbs.T⟩ ["Cube"] "past" := noA_of g_Cube (c.fact 72 rfl)
  have E_TableError : ExcD w K mg "TableError" := excD_of X G (c.fact 53 rfl) (c.fact 54 rfl)
  have T_TableError : ExcT w K mg "TableError" := excT_of X G (c.fact 53 rfl) (c.fact 55 rfl)
  have E_CellError : ExcD w K mg "CellError" := excD_of X G (c.fact 56 rfl) (c.fact 57 rfl)
  have T_CellError : ExcT w K mg "CellError" := excT_of X G (c.fact 56 rfl) (c.fact 58 rfl)
  have E_AmountError : ExcD w K mg "AmountError" := excD_of X G (c.fact 59 rfl) (c.fact 60 rfl)
  have T_AmountError : ExcT w K mg "AmountError" := excT_of X G (c.fact 59 rfl) (c.fact 61 rfl)
  have E_SchemeError : ExcD w K mg "SchemeError" := excD_of X G (c.fact 62 rfl) (c.fact 63 rfl)
  have T_SchemeError : ExcT w K mg "SchemeError" := excT_of X G (c.fact 62 rfl) (c.fact 64 rfl)
  have E_RollupError : ExcD w K mg "RollupError" := excD_of X G (c.fact 65 rfl) (c.fact 66 rfl)
  have T_RollupError : ExcT w K mg "RollupError" := excT_of X G (c.fact 65 rfl) (c.fact 67 rfl)
  have I_Cube : IsC w K mg "Cube" [("Cube", true)] := isC_of X G g_Cube cb_Cube (fun p hp => by rw [List.mem_singleton.mp hp]; exact ⟨g_Cube, kb_Cube_Cube⟩)
  have NB_Cube : NotC w K "Cube" := notC_of g_Cube nb_Cube
  have B : Bts mg := bts_of X G c (fun x hx => List.mem_append_right _ (List.mem_map.mpr ⟨x, hx, rfl⟩))
  have SK : SaidK w K mg := saidK_of X G hsd
  obtain ⟨f, fd, x_law, bd, hcd⟩ := x_law
  have e := hfa.symm.trans x_law.g
  cases e
  refine ⟨fd, fun s u => bd s [u] rfl, fun base _ _ htb => ?_⟩
  have LF_law : LamF base mg (("law" : Str) ++ ".<locals>.") (He.cT K ("law", none)).1 (He.cT K ("law", none)).2 := lamF_of hap (by decide) htb
  have C_law_cell : Cl P w K mg base "_law_cell" 1 ["_law_script", "_law_k"] s_law_cell := ok_law_cell B (df_ex x_law_cell)
  have C_law_draws : Cl P w K mg base "_law_draws" 1 ["_law_cell_here", "_law_bounds"] s_law_draws := ok_law_draws B (df_ex x_law_draws)
  have C_law_attribute : Cl P w K mg base "_law_attribute" 1 ["_law_numbers"] s_law_attribute := ok_law_attribute B (df_ex x_law_attribute)
  have C_law_scheme : Cl P w K mg base "_law_scheme" 2 ["_law_cell_here"] s_law_scheme := ok_law_scheme B (df_ex x_law_scheme) C_law_draws C_law_attribute
  have C_law_below : Cl P w K mg base "_law_below" 1 ["_law_numbers"] s_law_below := ok_law_below B (df_ex x_law_below)
  have C_law_fine_cells : Cl P w K mg base "_law_fine_cells" 2 ["_law_scheme_here"] s_law_fine_cells := ok_law_fine_cells B (df_ex x_law_fine_cells) C_law_below
  have C_law_table : Cl P w K mg base "_law_table" 3 ["_law_cell_here", "_law_scheme_here", "_law_most"] s_law_table := ok_law_table B (df_ex x_law_table) C_law_fine_cells C_law_draws
  have C_product_of : ClF P w K mg base "product_of" 1 ["numbers"] s_product_of := ok_product_of B (df_ex x_product_of)
  have C_groups_at : ClF P w K mg base "groups_at" 1 ["attribute", "level"] s_groups_at := ok_groups_at B (df_ex x_groups_at)
  have C_sizes_at : ClF P w K mg base "sizes_at" 2 ["scheme", "rollup"] s_sizes_at := ok_sizes_at B (df_ex x_sizes_at) C_groups_at
  have C_size_of : ClF P w K mg base "size_of" 3 ["scheme", "rollup"] s_size_of := ok_size_of B (df_ex x_size_of) C_product_of C_sizes_at
  have C_is_integer : ClF P w K mg base "is_integer" 1 ["thing"] s_is_integer := ok_is_integer B (df_ex x_is_integer)
  have C_are_amounts : ClF P w K mg base "are_amounts" 4 ["scheme", "rollup", "thing"] s_are_amounts := ok_are_amounts B (df_ex x_are_amounts) C_size_of C_is_integer
  have C_finest : ClF P w K mg base "finest" 1 ["scheme"] s_finest := ok_finest B (df_ex x_finest)
  have C_is_table_of : ClF P w K mg base "is_table_of" 5 ["scheme", "thing"] s_is_table_of := ok_is_table_of B (df_ex x_is_table_of) C_are_amounts C_finest
  have C_need_table : ClX P w K mg base "need_table" 6 ["scheme", "thing"] s_need_table := ok_need_table B (df_ex x_need_table) E_TableError C_is_table_of
  have C_Cube_change : ClMX P w K mg base "Cube" "change" 1 s_Cube_change := clMX_of g_Cube me_Cube_change (ok_Cube_change B x_Cube_change NA_Cube_past NA_Cube_kept)
  have C_Cube_assign_table : ClMX P w K mg base "Cube" "assign_table" 7 s_Cube_assign_table := clMX_of g_Cube me_Cube_assign_table (ok_Cube_assign_table B x_Cube_assign_table C_need_table C_Cube_change NA_Cube_own_scheme)
  have C_is_between : ClF P w K mg base "is_between" 2 ["thing", "low", "high"] s_is_between := ok_is_between B (df_ex x_is_between) C_is_integer
  have C_is_cell : ClF P w K mg base "is_cell" 3 ["scheme", "rollup", "thing"] s_is_cell := ok_is_cell B (df_ex x_is_cell) C_is_between C_sizes_at
  have C_need_cell : ClX P w K mg base "need_cell" 4 ["scheme", "rollup", "thing"] s_need_cell := ok_need_cell B (df_ex x_need_cell) E_CellError C_is_cell
  have C_need_amount : ClX P w K mg base "need_amount" 3 ["thing"] s_need_amount := ok_need_amount B (df_ex x_need_amount) c_MOST_AMOUNT E_AmountError C_is_between
  have C_with_more : ClF P w K mg base "with_more" 1 ["table", "place", "amount"] s_with_more := ok_with_more B (df_ex x_with_more)
  have C_tuples_below : ClF P w K mg base "tuples_below" 1 ["numbers"] s_tuples_below := ok_tuples_below B (df_ex x_tuples_below)
  have C_cells_of : ClF P w K mg base "cells_of" 3 ["scheme", "rollup"] s_cells_of := ok_cells_of B (df_ex x_cells_of) C_tuples_below C_sizes_at
  have C_place_in : ClF P w K mg base "place_in" 4 ["scheme", "cell"] s_place_in := ok_place_in B (df_ex x_place_in) C_cells_of C_finest
  have C_Cube_put : ClMX P w K mg base "Cube" "put" 5 s_Cube_put := clMX_of g_Cube me_Cube_put (ok_Cube_put B x_Cube_put C_need_cell C_need_amount C_Cube_change C_finest C_with_more C_place_in NA_Cube_own_scheme NA_Cube_kept)
  have C_groups_behind : ClF P w K mg base "groups_behind" 3 ["step", "groups"] s_groups_behind := ok_groups_behind B (df_ex x_groups_behind) C_is_between
  have C_is_attribute : ClF P w K mg base "is_attribute" 4 ["thing"] s_is_attribute := ok_is_attribute B (df_ex x_is_attribute) c_MOST_VALUES c_MOST_STEPS C_groups_behind C_is_between
  have C_is_scheme : ClF P w K mg base "is_scheme" 5 ["thing"] s_is_scheme := ok_is_scheme B (df_ex x_is_scheme) c_MOST_ATTRIBUTES c_MOST_CELLS C_product_of C_is_attribute
  have C_need_scheme : ClX P w K mg base "need_scheme" 6 ["thing"] s_need_scheme := ok_need_scheme B (df_ex x_need_scheme) E_SchemeError C_is_scheme
  have C_no_table : ClF P w K mg base "no_table" 4 ["scheme"] s_no_table := ok_no_table B (df_ex x_no_table) C_size_of C_finest
  have C_Cube_init : ClIX P w K mg base "Cube" 7 (dflX [.non] s_Cube_init) := clIX_of X G g_Cube cl_Cube me_Cube_init ib_Cube (ok_Cube_init B x_Cube_init C_need_scheme C_need_table C_no_table NA_Cube_own_scheme NA_Cube_kept NA_Cube_past)
  have C_law_no_cells : Cl P w K mg base "_law_no_cells" 1 ["_law_scheme_here"] s_law_no_cells := ok_law_no_cells B (df_ex x_law_no_cells)
  have R_law_is_same : ∀ n, Cl P w K mg base "_law_is_same" (1 + n) ["_law_actual", "_law_expected"] (sR_law_is_same n) := fun n => by
    induction n with
    | zero => obtain ⟨f0, fd0, D0⟩ := df_ex x_law_is_same; exact ⟨f0, fd0, D0.g, D0.F.kp, D0.b, fn_no⟩
    | succ n ih => exact ok_law_is_same (k := 1 + n) (sc := sR_law_is_same n) (sf := sR_law_is_same (n + 1)) (by omega) (l_law_is_same n) (v_law_is_same n) B (df_ex x_law_is_same) ih
  have C_law_is_same : Cl P w K mg base "_law_is_same" 9 ["_law_actual", "_law_expected"] s_law_is_same := R_law_is_same 8
  have C_Cube_contains : ClMX P w K mg base "Cube" "__contains__" 5 s_Cube_contains := clMX_of g_Cube me_Cube_contains (ok_Cube_contains B x_Cube_contains C_is_cell C_finest C_place_in NA_Cube_own_scheme NA_Cube_kept)
  have C_law_is_in : Cl P w K mg base "_law_is_in" 10 ["_law_cube", "_law_scheme_here", "_law_table_here"] s_law_is_in := ok_law_is_in B (df_ex x_law_is_in) C_law_fine_cells C_law_no_cells C_law_is_same C_Cube_contains
  have C_Cube_eq : ClEX P w K mg base "Cube" 1 s_Cube_eq := clEX_of g_Cube me_Cube_eq eb_Cube (ok_Cube_eq B x_Cube_eq I_Cube NA_Cube_own_scheme NA_Cube_kept)
  have C_Cube_repr : ClMX P w K mg base "Cube" "__repr__" 1 s_Cube_repr := clMX_of g_Cube me_Cube_repr (ok_Cube_repr B x_Cube_repr NA_Cube_kept)
  have C_law_said : ClS P w K mg base "_law_said" "_law_call" 1 sdC := ok_law_said B (df_ex x_law_said) SK
  have C_is_rollup : ClF P w K mg base "is_rollup" 3 ["scheme", "thing"] s_is_rollup := ok_is_rollup B (df_ex x_is_rollup) C_is_between
  have C_need_rollup : ClX P w K mg base "need_rollup" 4 ["scheme", "thing"] s_need_rollup := ok_need_rollup B (df_ex x_need_rollup) E_RollupError C_is_rollup
  have C_group_above : ClF P w K mg base "group_above" 1 ["attribute", "group", "low", "high"] s_group_above := ok_group_above B (df_ex x_group_above)
  have C_cell_above : ClF P w K mg base "cell_above" 2 ["scheme", "rollup", "cell", "other"] s_cell_above := ok_cell_above B (df_ex x_cell_above) C_group_above
  have C_rolled_of : ClF P w K mg base "rolled_of" 4 ["scheme", "rollup", "amounts", "other"] s_rolled_of := ok_rolled_of B (df_ex x_rolled_of) C_cells_of C_cell_above
  have C_sums_of : ClF P w K mg base "sums_of" 5 ["scheme", "table", "rollup"] s_sums_of := ok_sums_of B (df_ex x_sums_of) C_rolled_of C_finest
  have C_Cube_getitem : ClGX P w K mg base "Cube" 6 s_Cube_getitem := clGX_of g_Cube me_Cube_getitem x_Cube_getitem (ok_Cube_getitem B x_Cube_getitem C_need_rollup C_sums_of NA_Cube_own_scheme NA_Cube_kept)
  exact ok_law B x_law hcd LF_law NB_Cube C_law_cell C_law_scheme C_law_table C_Cube_assign_table C_Cube_put C_Cube_init C_law_is_in C_law_is_same C_Cube_eq C_Cube_repr C_law_said C_Cube_getitem
end C.V49
end Mn
instance noTbs : Mn.Tbs := ⟨[]⟩
open PySem PySem.W PySem.Calls PyProof.Rows
set_option maxHeartbeats 0 in
set_option maxRecDepth 100000 in
theorem PySem.Challenge.cw_rolluplevels_k49_cells_in_cubes_and_equa_holds : PySem.Challenge.rw_rolluplevels_k49_cells_in_cubes_and_equa.Holds := by
  w_on; o_law
  refine HandSHeadRun.head_any (r := OpenLaw.row PySem.Challenge.rw_rolluplevels_k49_cells_in_cubes_and_equa) (q := view (OpenLaw.row PySem.Challenge.rw_rolluplevels_k49_cells_in_cubes_and_equa).prog [70]) (H := Mn.C.V49.hk) (ob := Mn.C.V49.obN) (M := 20000) (loose := Mn.C.V49.looseN) (d := HandSHeadRun.topDef (OpenLaw.row PySem.Challenge.rw_rolluplevels_k49_cells_in_cubes_and_equa).prog 70) (kwd := []) Mn.C.V49.ob_eq
    (by kernel_rfl) (fun s => by kernel_rfl) Mn.C.V49.runN (by kernel_rfl) (by kernel_rfl) (by kernel_rfl) (by rfl) (by first | assumption | decide +kernel) (by decide +kernel) ⟨rfl, rfl, rfl, rfl, rfl, by decide +kernel⟩ ?hw ?hc
  case hw => w_witness2
  case hc =>
    refine Mn.walkDT (l := PySem.Challenge.rw_rolluplevels_k49_cells_in_cubes_and_equa) (n := 63) (k := 13) (x := "_law_script") (d := fun _ => Mn.C.V49.s_law) rfl (by decide) (by kernel_rfl) ⟨rfl, by decide, by decide⟩ ?F (fun _ => Mn.C.V49.s_law_ok)
    intro w mg fa h Y G hmg0
    obtain ⟨K, KX, c⟩ := Y
    have hmg : mg ("law" : PySem.Str) = some (.ref fa) := by
      have e : (HandSHeadRun.topDef (OpenLaw.row PySem.Challenge.rw_rolluplevels_k49_cells_in_cubes_and_equa).prog 70).name = ("law" : PySem.Str) := by kernel_rfl
      rw [← e]
      exact hmg0
    obtain ⟨i0, e0⟩ := He.ba (show (_ && _) = true from c.x.more)
    obtain ⟨i1, e1⟩ := He.ba (show (_ && _) = true from e0)
    obtain ⟨i2, e2⟩ := He.ba (show (_ && _) = true from e1)
    obtain ⟨i3, e3⟩ := He.ba (show (_ && _) = true from e2)
    obtain ⟨i4, e4⟩ := He.ba (show (_ && _) = true from e3)
    obtain ⟨hsd, hap⟩ := He.ba (show (Mn.saidB K && Mn.apartB Mn.C.V49.tfN K) = true from e4)
    obtain ⟨fd, hb, hF⟩ := Mn.C.V49.factsN (P := (PySem.Challenge.rw_rolluplevels_k49_cells_in_cubes_and_equa).prog) (w := w) KX G hmg c.x.t.d hsd hap i0 i1 i2 i3 i4 c.recs
    exact ⟨Mn.tabsOf K Mn.C.V49.tfN, Mn.tbsOf K Mn.C.V49.tfN, K, fd, rfl, Mn.tabs_ok KX c.x, KX, hb, hF⟩

